/- PROVED: a part of the proof. Conditions: none. -/
import Derived.Test.YtibglelmlnfojaaGreatDoorpa7
import Derived.Test.YtibglelmlnfojaaGreatDoorRows
import Derived.Test.YtibglelmlnfojaaGreatDoorpa3
import Derived.Shelf.SlicesE.Clone
set_option linter.unusedSimpArgs false
set_option linter.unusedVariables false
noncomputable section
namespace Go.Proofs.YtibglelmlnfojaaGreatDoor
open Go Go.RowKit Go.WideShapes Go.ChangeShapes Go.ChangeAt
set_option linter.unusedVariables false
mutual
def pm:PVal->Nat
 |.str s=>s.length+1
 |.slice es=>d8 es+1
 |.int _ _=>1
 |.bool _=>1
 |_=>0
def ff:List PVal->Nat
 |[]=>0
 |p::l=>pm p+ff l
def d8:List (List PVal)->Nat
 |[]=>0
 |x::r=>ff x+d8 r
end
theorem NW:∀(a b:List PVal),ff (a++b)=ff a+ff b
 |[],b=>by simp[ff]
 |p::a,b=>by simp only[vaL,ff,NW a b];omega
def qhy(P:Program)(S:TypeId->List PVal->Prop):List Field->List PVal->Prop
 |[],l=>l=[]
 |f::fs,l=>∃a b,l=a++b/\a.length=P.cellsOf f.type/\S f.type a/\qhy P S fs b
def Sh(P:Program):Nat->TypeId->List PVal->Prop
 |0,_,_=>False
 |n+1,t,l=>match P.underlying t with
  |some .bool=>∃b,l=[.bool b]
  |some (.int k)=>∃i,l=[.int k i]/\(Lit.int k i).wf=true
  |some .string=>∃s:ah,l=[.str s]/\s.length<=maxLen
  |some (.slice e)=>∃es,l=[.slice es]/\es.length<=maxLen/\∀x∈es,Sh P n e x
  |some (.struct fs)=>qhy P (Sh P n) fs.toList l
  |_=>True
def EV(P:Program):Nat->List Field->Nat->Bool
 |o,[],n=>decide (o=n)
 |o,f::fs,n=>decide (f.offset=o)&&EV P (o+P.cellsOf f.type) fs n
theorem VQ{α:Type}{Q:Nat->α->Prop}:∀{n:Nat},(∀i,i<n->∃x,Q i x)->∃l:List α,l.length=n/\∀(i:Nat) x,l[i]? =some x->Q i x
 |0,_=>⟨[],rfl,λi x h=>by simp at h⟩
 | n + 1,h => by
  obtain⟨l,hl,hq⟩:=VQ (n:=n) λi hi=>h i (by omega)
  obtain⟨x,hx⟩:=h n (by omega)
  refine⟨l++[x],by simp[hl],λi y hy=>?_⟩
  by_cases hi:i<l.length
  ·rw[van hi]at hy;exact hq i y hy
  ·have hlt:=aq hy
   simp at hlt
   have:i=l.length:=by omega
   subst this
   rw[vav (vaw _)]at hy
   simp at hy;subst hy;rw[hl];exact hx
theorem Vs{H:Type}:∀{es:List (List PVal)} {ds:List (DataW H)},es.length=ds.length->(∀(i:Nat) x d,es[i]? =some x->ds[i]? =some d->ff x<=Rows.uptoBulk d)->d8 es<=Rows.uptoBulkAll ds
 |[],[],_,_=>by simp[d8,Rows.uptoBulkAll]
 |x::es,d::ds,hl,h=>by
  have h1:=h 0 x d rfl rfl
  have h2:=Vs (es:=es) (ds:=ds) (by simpa using hl) λi x d hx hd=>h (i+1) x d (by simpa using hx) (by simpa using hd)
  simp only[d8,Rows.uptoBulkAll];omega
section
variable{H:Type}{enc:TypeId×Value->H}{P:Program}{W:World}{base:Nat}{sp:Nat->Bool}{held:Bool}
def qeT(P:Program)(W:World)(n:Nat)(t:TypeId)(cs:List Value)(b:Nat):Prop:=
 ∃l:List PVal,l.length=cs.length/\(∀(i:Nat) p v,l[i]? =some p->cs[i]? =some v->VR (DP W) [] W p v)/\Sh P n t l/\ff l<=b
theorem qeT.one{n:Nat}{t:TypeId}{p:PVal}{v:Value}{b:Nat}(h:VR (DP W) [] W p v)(hs:Sh P n t [p])(hb:pm p<=b):qeT P W n t [v] b:=
 ⟨[p],rfl,λi q u hq hu=>by
  cases i with
  |zero=>simp at hq hu;subst hq;subst hu;exact h
  |succ i=>simp at hq,hs,by simp only[ff];omega⟩
theorem PM{L:List TypeId}{fuel:Nat}(ih:∀(t:TypeId),t∈L->∀(cs:List Value) (d:DataW H) (p:List MemPlace),DataW.trod enc P W base sp held fuel t cs=some (d,p)->qeT P W fuel t cs (Rows.uptoBulk d)){cs:List Value}:∀{fs:List Field} {o n:Nat} {xs:List (DataW H×List MemPlace)},(∀f∈fs,f.type∈L)->n<=cs.length->EV P o fs n=true->fs.mapM (λf=>DataW.trod enc P W base sp held fuel f.type ((cs.drop f.offset).take (P.cellsOf f.type)))=some xs->
   o<=n/\∃l:List PVal,l.length=n - o/\(∀(i:Nat) p v,l[i]? =some p->cs[o+i]? =some v->VR (DP W) [] W p v)/\qhy P (Sh P fuel) fs l/\ff l<=Rows.uptoBulkAll (xs.map (·.1))
 |[],o,n,xs,_,hn,hc,h=>by
  unfold EV at hc
  have:o=n:=by simpa using hc
  subst this
  exact⟨vaw _,[],by simp,λi p v hp=>by simp at hp,rfl,by simp[ff]⟩
 | f :: fs,o,n,xs,hL,hn,hc,h => by
  unfold EV at hc
  simp only[vaf,var]at hc
  obtain⟨hfo,hc⟩:=hc
  simp only[vb4,Option.bind_eq_bind,vbg,Option.pure_def,vaz]at h
  obtain⟨⟨d,p⟩,hd,xs',hxs,rfl⟩:=h
  obtain⟨ho,l2,k1,k2,k3,k4⟩:=PM ih (λg hg=>hL g (vax _ hg)) hn hc hxs
  obtain⟨l1,q1,q2,q3,q4⟩:=ih _ (hL f (by simp)) _ _ _ hd
  have hl1:l1.length=P.cellsOf f.type:=by rw[q1,vba,vbC,hfo];omega
  refine⟨by omega,l1++l2,by simp[hl1,k1];omega,λi q v hq hv=>?_,⟨l1,l2,rfl,hl1,q3,k3⟩,by rw[NW];simp only[vae,Rows.uptoBulkAll];omega⟩
  by_cases hi:i<l1.length
  ·rw[van hi]at hq
   refine q2 i q v hq ?_
   rw[vaH (by omega),vbk,hfo]
   exact hv
  ·rw[vav (by omega)]at hq
   refine k2 (i - l1.length) q v hq ?_
   rw[<-hv,hl1]
   congr 1
   rw[hl1]at hi
   omega
theorem qcH{fuel:Nat}{t:TypeId}{cs:List Value}{x:DataW H×List MemPlace}(ht:P.underlying t=some .bool)(h:DataW.trod enc P W base sp held (fuel+1) t cs=some x):∃b,cs=[.bool b]/\x.1=.lit (.bool b):=by
 unfold DataW.trod at h
 rw[ht]at h
 split at h<;>simp_all
 exact h▸rfl
theorem qeD{fuel:Nat}{t:TypeId}{cs:List Value}{k:IntKind}{x:DataW H×List MemPlace}(ht:P.underlying t=some (.int k))(h:DataW.trod enc P W base sp held (fuel+1) t cs=some x):∃n,cs=[.int k n]/\(Lit.int k n).wf=true/\x.1=.lit (.int k n):=by
 unfold DataW.trod at h
 rw[ht]at h
 cases cs with
 |nil=>simp at h
 | cons v r =>
  cases r with
  |cons _ _=>simp at h
  |nil=>
   cases v<;>simp at h
   obtain⟨⟨rfl,h1⟩,rfl⟩:=h
   exact⟨_,rfl,h1,rfl⟩
theorem Yj{fuel:Nat}{t:TypeId}{cs:List Value}{x:DataW H×List MemPlace}(ht:P.underlying t=some .string)(h:DataW.trod enc P W base sp held (fuel+1) t cs=some x):∃s:ByteArray,cs=[.string s]/\s.size<=maxLen/\x.1=.lit (.string s.data.toList):=by
 unfold DataW.trod at h
 rw[ht]at h
 split at h<;>simp_all
 exact h.2▸rfl
theorem qaT{fuel:Nat}{t e:TypeId}{cs:List Value}{x:DataW H×List MemPlace}(ht:P.underlying t=some (.slice e))(h:DataW.trod enc P W base sp held (fuel+1) t cs=some x):(cs=[.slice none 0 0]/\x.1=.nil)\/∃a len cap elems rest,cs=[.slice (some a) len cap]/\len<=cap/\cap<=maxLen/\x.1=.slice (elems.map (·.1)) rest/\
   (List.range len).mapM (λi=>(W.cells? base (a.add (i * P.cellsOf e)) (P.cellsOf e)).bind (DataW.trod enc P W base sp held fuel e))=some elems:=by
 unfold DataW.trod at h
 rw[ht]at h
 cases cs with
 |nil=>simp at h
 | cons v r =>
  cases r with
  |cons _ _=>simp at h
  | nil =>
   cases v<;>try (simp at h;done)
   rename_i ad len cap
   cases ad with
   |none=>
    left
    match len,cap,h with
    |0,0,h=>simp at h;exact⟨rfl,h▸rfl⟩
    |0,c+1,h=>simp at h
    |n+1,c,h=>simp at h
   | some a =>
    right
    simp only at h
    split at h
    ·rename_i hc
     obtain⟨elems,h1,h2⟩:=vbg.1 h
     obtain⟨rest,h3,h4⟩:=vaG.1 h2
     exact⟨a,len,cap,elems,rest.map (·.1),rfl,hc.2.1,hc.2.2,by rw[<-h4],h1⟩
    ·cases h
theorem Yk{fuel:Nat}{t:TypeId}{cs:List Value}{fs:Array Field}{x:DataW H×List MemPlace}(ht:P.underlying t=some (.struct fs))(h:DataW.trod enc P W base sp held (fuel+1) t cs=some x):cs.length=P.cellsOf t/\∃xs,fs.toList.mapM (λf=>DataW.trod enc P W base sp held fuel f.type ((cs.drop f.offset).take (P.cellsOf f.type)))=some xs/\x.1=.agg (xs.map (·.1)):=by
 unfold DataW.trod at h
 rw[ht]at h
 simp only at h
 split at h
 ·rename_i hl
  obtain⟨xs,h1,h2⟩:=vaG.1 h
  exact⟨hl,xs,h1,by rw[<-h2]⟩
 ·cases h
theorem Sy(a:Addr):a.add 0=a:=by unfold Addr.add;simp
theorem Ye{w:World}{a:Addr}{v:Value}(h:w.cell? a=some v):a.spot=none:=by
 unfold World.cell? at h
 split at h
 ·split at h
  ·cases h
  ·rename_i hs;simpa using hs
 ·cases h
structure qa6(P:Program)(L:List TypeId):Prop where
 st:∀t∈L,∀fs,P.underlying t=some (.struct fs)->EV P 0 fs.toList (P.cellsOf t)=true/\∀f∈fs.toList,f.type∈L
 sl:∀t∈L,∀e,P.underlying t=some (.slice e)->0<P.cellsOf e/\e∈L
def Zc(P:Program)(L:List TypeId)(t:TypeId):Bool:=match P.underlying t with
 |some (.struct fs)=>EV P 0 fs.toList (P.cellsOf t)&&fs.toList.all λf=>L.contains f.type
 |some (.slice e)=>decide (0<P.cellsOf e)&&L.contains e
 |_=>true
theorem qbI{L:List TypeId}(h:L.all (Zc P L)=true):qa6 P L:=by
 refine⟨λt ht fs hu=>?_,λt ht e hu=>?_⟩
 ·have:=vak.1 h t ht
  unfold Zc at this
  rw[hu]at this
  simp only[vaf,vak,vb6]at this
  exact this
 ·have:=vak.1 h t ht
  unfold Zc at this
  rw[hu]at this
  simpa using this
theorem Zj{L:List TypeId}(hF:qa6 P L):∀(fuel:Nat) (t:TypeId),t∈L->∀(cs:List Value) (d:DataW H) (p:List MemPlace),DataW.trod enc P W base sp held fuel t cs=some (d,p)->qeT P W fuel t cs (Rows.uptoBulk d)
 |0,t,_,cs,d,p,h=>by simp[DataW.trod]at h
 | fuel + 1,t,htL,cs,d,p,h => by
  have ih:=Zj hF fuel
  have other:(∀l,Sh P (fuel+1) t l)->qeT P W (fuel+1) t cs (Rows.uptoBulk d):=λhs=>by
   refine⟨cs.map .val,by simp,λi q v hq hv=>?_,hs _,?_⟩
   ·simp only[vaA,hv,vaj,vaz]at hq
    subst hq;exact .val v
   ·have:∀cs:List Value,ff (cs.map .val)=0:=by
     intro cs
     induction cs with
     |nil=>rfl
     |cons c cs ih=>simp only[vae,ff,ih,pm]
    rw[this];exact vaX _
  cases hu:P.underlying t with
  |none=>exact other λl=>by unfold Sh;rw[hu];trivial
  | some u =>
   cases u with
   |bool=>
    obtain⟨b,rfl,hx⟩:=qcH hu h
    simp only at hx;subst hx
    exact .one (.bool b) (by unfold Sh;rw[hu];exact⟨b,rfl⟩) (by simp[pm,Rows.uptoBulk])
   |int k=>
    obtain⟨n,rfl,hw,hx⟩:=qeD hu h
    simp only at hx;subst hx
    exact .one (.int k n) (by unfold Sh;rw[hu];exact⟨n,rfl,hw⟩) (by simp[pm,Rows.uptoBulk])
   |string=>
    obtain⟨s,rfl,hl,hx⟩:=Yj hu h
    simp only at hx;subst hx
    exact .one (.str s.data.toList) (by unfold Sh;rw[hu];exact⟨s.data.toList,rfl,by rw[Array.length_toList];exact hl⟩) (by simp[pm,Rows.uptoBulk])
   |struct fs=>
    obtain⟨hl,xs,hxs,hx⟩:=Yk hu h
    simp only at hx;subst hx
    obtain⟨_,l,k1,k2,k3,k4⟩:=PM ih (hF.st t htL fs hu).2 (by omega) (hF.st t htL fs hu).1 hxs
    refine⟨l,by omega,λi q v hq hv=>k2 i q v hq (by rw[vaT];exact hv),by unfold Sh;rw[hu];exact k3,by simp only[Rows.uptoBulk];omega⟩
   | slice e =>
    obtain⟨hz,heL⟩:=hF.sl t htL e hu
    rcases qaT hu h with⟨rfl,hx⟩|⟨a,len,cap,elems,rest,rfl,hlc,hcm,hx,hm⟩
    ·simp only at hx;subst hx
     exact .one .sliceNil (by unfold Sh;rw[hu];exact⟨[],rfl,by simp,by simp⟩) (by simp[pm,d8,Rows.uptoBulk])
    simp only at hx;subst hx
    have hel:elems.length=len:=by simpa using Lib.mapM_length hm
    have hat:∀i,i<len->∃x:List PVal,∃ci y,elems[i]? =some y/\W.cells? base (a.add (i * P.cellsOf e)) (P.cellsOf e)=some ci/\x.length=ci.length/\(∀(k:Nat) q v,x[k]? =some q->ci[k]? =some v->VR (DP W) [] W q v)/\Sh P fuel e x/\ff x<=Rows.uptoBulk y.1:=λi hi=>by
     obtain⟨y,hy,hb⟩:=Lib.mapM_at hm i i (by simp[hi])
     obtain⟨ci,hci,hd⟩:=vbg.1 hb
     obtain⟨x,k1,k2,k3,k4⟩:=ih e heL ci y.1 y.2 hd
     exact⟨x,ci,y,hy,hci,k1,k2,k3,k4⟩
    obtain⟨es,hes,hq⟩:=VQ hat
    have hbulk:d8 es<=Rows.uptoBulkAll (elems.map (·.1)):=Vs (by simp[hes,hel]) λi x d hx hd=>by
     obtain⟨ci,y,hy,_,_,_,_,hle⟩:=hq i x hx
     simp only[vaA,hy,vaj,vaz]at hd
     subst hd;exact hle
    have hsh:Sh P (fuel+1) t [.slice es]:=by
     unfold Sh;rw[hu]
     refine⟨es,rfl,by omega,λx hx=>?_⟩
     obtain⟨i,hi⟩:=vbf.1 hx
     obtain⟨_,_,_,_,_,_,hs,_⟩:=hq i x hi
     exact hs
    refine .one ?_ hsh (by simp only[pm,Rows.uptoBulk];omega)
    by_cases h0:len=0
    ·subst h0
     obtain rfl:es=[]:=vam hes
     exact .sliceE a cap
    ·have hcell:∀i,i<len->∀k,k<P.cellsOf e->∃(x:List PVal) (ci:List Value),es[i]? =some x/\W.cell? ((a.add (i * P.cellsOf e)).add k)=ci[k]?/\ci.length=P.cellsOf e/\x.length=ci.length/\(∀(k:Nat) q v,x[k]? =some q->ci[k]? =some v->VR (DP W) [] W q v):=λi hi k hk=>by
      have hx:es[i]? =some es[i]:=vac (by omega)
      obtain⟨ci,y,hy,hc,hl,hv,_,_⟩:=hq i _ hx
      obtain⟨_,hcl,hcc⟩:=World.cells?_some hc
      exact⟨_,ci,hx,hcc k hk,hcl,hl,hv⟩
     have hspot:a.spot=none:=by
      obtain⟨x,ci,_,h2,h3,_,_⟩:=hcell 0 (by omega) 0 hz
      rw[Nat.zero_mul,Sy,Sy,vac (by omega)]at h2
      exact Ye h2
     obtain⟨ab,ao,asp⟩:=a
     simp only at hspot;subst hspot
     have hadd:∀i k,((⟨ab,ao,none⟩:Addr).add (i * P.cellsOf e)).add k=⟨ab,ao+i * P.cellsOf e+k,none⟩:=λi k=>by
      rw[Sx ⟨ab,ao,none⟩ _ rfl,Sx _ _ rfl]
     have hcl:∀(i:Nat) x (k:Nat) q,es[i]? =some x->x[k]? =some q->∃v,W.cell? ⟨ab,ao+i * P.cellsOf e+k,none⟩=some v/\VR (DP W) [] W q v:=λi x k q hx hqk=>by
      have hi:i<len:=by have:=aq hx;omega
      obtain⟨ci,y,hy,hc,hl,hv,_,_⟩:=hq i x hx
      obtain⟨_,hcl,hcc⟩:=World.cells?_some hc
      have hk:k<P.cellsOf e:=by have:=aq hqk;omega
      have hck:ci[k]? =some ci[k]:=vac (by omega)
      refine⟨ci[k],?_,hv k q _ hqk hck⟩
      rw[<-hadd,hcc k hk,hck]
     have hlen:∀(i:Nat) x,es[i]? =some x->x.length=P.cellsOf e:=λi x hx=>by
      obtain⟨ci,y,hy,hc,hl,_,_,_⟩:=hq i x hx
      exact hl.trans (World.cells?_some hc).2.1
     obtain⟨c,ty,fr,hh⟩:∃c ty fr,W.heap[ab]? =some (.cells c ty fr):=by
      obtain⟨x,ci,h1,h2,h3,h4,_⟩:=hcell 0 (by omega) 0 hz
      rw[hadd,vac (by omega)]at h2
      unfold World.cell? at h2
      split at h2
      ·rename_i c ty fr hh;exact⟨c,ty,fr,hh⟩
      ·cases h2
     have hin:ao+es.length * P.cellsOf e<=c.size:=by
      obtain⟨x,ci,h1,h2,h3,h4,_⟩:=hcell (len - 1) (by omega) (P.cellsOf e - 1) (by omega)
      rw[hadd,vac (by omega),cell_of_row W _ _ c ty fr hh]at h2
      have:=(vao.1 h2).1
      have e1:(len - 1) * P.cellsOf e+P.cellsOf e=len * P.cellsOf e:=by
       have:len=(len - 1)+1:=by omega
       conv=>rhs;rw[this,vbp,vb2]
      rw[hes];omega
     have:=VR.slice (Γ:=DP W) (bs:=[]) (w:=W) es ab ao cap c.size (P.cellsOf e) (λi k=>(W.cell? ⟨ab,ao+i * P.cellsOf e+k,none⟩).getD undef) hz (by omega) (Pt hh) hin hlen
      (λi x k q hx hqk=>by obtain⟨v,h1,_⟩:=hcl i x k q hx hqk;rw[h1];rfl)
      (λi x k q hx hqk=>by obtain⟨v,h1,h2⟩:=hcl i x k q hx hqk;rw[h1];exact h2)
     rw[hes]at this
     exact this
   |_=>exact other λl=>by unfold Sh;rw[hu];trivial
end
end Go.Proofs.YtibglelmlnfojaaGreatDoor
namespace Go.Proofs.YtibglelmlnfojaaGreatDoor
open Go
set_option linter.unusedVariables false
abbrev In(P:Program)(t:TypeId){α:Type}(c:α->List PVal):Prop:=∀n l,Sh P n t l->∃x,l=c x
section
variable{P:Program}{t e:TypeId}{α:Type}{c:α->List PVal}
theorem Zk{k:IntKind}(hu:P.underlying t=some (.int k)):In P t (cI k):=λn l h=>by
 cases n with
 |zero=>exact h.elim
 |succ n=>
  unfold Sh at h
  rw[hu]at h
  obtain⟨i,rfl,_⟩:=h
  exact⟨i,rfl⟩
theorem UJ(hu:P.underlying t=some .string):In P t cS:=λn l h=>by
 cases n with
 |zero=>exact h.elim
 |succ n=>
  unfold Sh at h
  rw[hu]at h
  obtain⟨i,rfl,_⟩:=h
  exact⟨i,rfl⟩
theorem Tf:∀{es:List (List PVal)},(∀x∈es,∃y,x=c y)->∃ys:List α,es=ys.map c
 |[],_=>⟨[],rfl⟩
 |x::es,h=>by
  obtain⟨y,rfl⟩:=h x (by simp)
  obtain⟨ys,rfl⟩:=Tf λz hz=>h z (vax _ hz)
  exact⟨y::ys,rfl⟩
theorem S1(hu:P.underlying t=some (.slice e)){n:Nat}(hE:∀m,m<n->∀l,Sh P m e l->∃x,l=c x)(l:List PVal)(h:Sh P n t l):∃xs,l=cL c xs:=by
 cases n with
 |zero=>exact h.elim
 |succ n=>
  unfold Sh at h
  rw[hu]at h
  obtain⟨es,rfl,_,h⟩:=h
  obtain⟨ys,rfl⟩:=Tf λx hx=>hE n (vcA n) x (h x hx)
  exact⟨ys,rfl⟩
theorem Zl(hu:P.underlying t=some (.slice e))(hE:In P e c):In P t (cL c):=λn l h=>S1 hu (λm _=>hE m) l h
theorem TI:∀(es:List (List PVal)),(∀x∈es,1<=ff x)->es.length<=d8 es
 |[],_=>by simp[d8]
 |x::es,h=>by
  have h1:=h x (by simp)
  have h2:=TI es λy hy=>h y (vax _ hy)
  simp only[d8,vaM];omega
theorem AA:∀{es:List (List PVal)} {x:List PVal},x∈es->ff x<=d8 es
 | y :: es,x,h => by
  simp only[d8]
  rcases vaF.1 h with rfl|h
  ·omega
  ·have:=AA h;omega
end
section
variable{H:Type}{enc:TypeId×Value->H}{P:Program}{W:World}{base b0:Nat}{sp:Nat->Bool}{held:Bool}{t e:TypeId}{v:Value}{d:DataW H}{p:List MemPlace}{L:List TypeId}
theorem E2(hF:qa6 P L)(hL:t∈L){fs:Array Field}(hu:P.underlying t=some (.struct fs))(h:DataW.Trod enc P W base sp held t v d p)(hv:Value.okWide P W .any b0 t v):∃n l,VR (DP W) [] W (.agg l) v/\Sh P n t l/\ff l<=Rows.uptoBulk d:=by
 obtain⟨n,h⟩:=h
 unfold Value.okWide at hv
 rw[hu]at hv
 obtain⟨cs,rfl,_,_⟩:=hv
 obtain⟨l,h1,h2,h3,h4⟩:=Zj hF n t hL _ d p h
 refine⟨n,l,.agg l cs ?_ λi q u hq hu'=>h2 i q u hq ?_,h3,h4⟩
 ·have:(Value.agg cs).cells.toList.length=cs.size:=by simp[Value.cells]
  omega
 ·show cs.toList[i]? =some u
  rw[vbe];exact hu'
end
def qdZ(n:Nat):aB->Prop
 |.dead=>True
 |.cells cs _=>iG n cs
 |.map es=>∀x∈es,x.1.cl n/\x.2.cl n
def QW(n:Nat):List aB->Prop
 |[]=>True
 |B::l=>qdZ n B/\QW n l
theorem SQ{k:Nat}:∀{ps qs:List PVal},PJ ps qs=qs->iG k qs->xK k ps qs
 |[],[],_,_=>trivial
 |[],_::_,h,_=>by simp[PJ]at h
 |p::ps,[],h,_=>by simp[PJ]at h
 |p::ps,q::qs,h,hc=>by
  obtain⟨hc1,hc2⟩:=hc
  cases q<;>simp only[PJ,vbH]at h<;>refine⟨?_,SQ h.2 hc2⟩<;>first|exact .inl rfl|exact .inr ⟨h.1,hc1⟩
theorem W9{k:Nat}{p q:aB}(h:xV p q=q)(hc:qdZ k q):sb k p q:=by
 cases q with
 |dead=>cases p<;>simp[sb]
 | cells cs own =>
  cases p with
  | cells cs0 own0 =>
   simp only[xV,aB.cells.injEq]at h
   obtain⟨rfl,h⟩:=h
   refine⟨rfl,hc,λx hx=>?_⟩
   split at h
   ·rename_i ha
    simpa using vak.1 ha x hx
   ·rw[h];exact hx
  |map es=>simp[xV]at h
  |dead=>simp[xV]at h
 |map es=>
  have h':p=.map es:=by cases p<;>simp[xV]at h ⊢<;>exact h
  subst h'
  exact⟨rfl,hc⟩
theorem Ig{k:Nat}:∀{ps qs:List aB},So (ps.take qs.length) qs=qs->QW k qs->dD k ps qs
 |_,[],_,_=>by unfold dD;trivial
 |[],_::_,h,_=>by simp[So]at h
 |p::ps,q::qs,h,hc=>by
  obtain⟨hc1,hc2⟩:=hc
  rw[vaM,List.take_succ_cons]at h
  simp only[So,vbH]at h
  exact⟨W9 h.1 hc1,Ig h.2 hc2⟩
def qhv(m:Nat)(st st0:aF):Prop:=PJ st.tmps st0.tmps=st0.tmps/\So (st.boxes.take st0.boxes.length) st0.boxes=st0.boxes/\(st0.own.all λx=>decide (x∈st.own))=true/\decide (m % 1000<=st0.boxes.length)=true/\
 iG st0.boxes.length st0.tmps/\QW st0.boxes.length st0.boxes
theorem qhv.weak{P:Program}{m:Nat}{st st0:aF}(h:qhv m st st0):zy P m st st0:=by
 obtain⟨h1,h2,h3,h4,h5,h6⟩:=h
 exact .of_less ⟨SQ h1 h5,Ig h2 h6,λx hx=>by simpa using vak.1 h3 x hx⟩ (by simpa using h4)
def qjv(m:Nat)(e0:Exit)(st0:aF):Exit->List It->aF->Prop:=λe _ st=>e0=e/\qhv m st st0
mutual
theorem Vv{n m:Nat}(hnm:n<=m):∀(p:PVal),p.cl n->p.cl m
 |.undef,_=>by simp[PVal.cl]
 |.int _ _,_=>by simp[PVal.cl]
 |.bool _,_=>by simp[PVal.cl]
 |.str _,_=>by simp[PVal.cl]
 |.val _,_=>by simp[PVal.cl]
 |.agg cs,h=>by simp only[PVal.cl]at h ⊢;exact s8 hnm cs h
 |.tuple cs,h=>by simp only[PVal.cl]at h ⊢;exact s8 hnm cs h
 |.slice es,h=>by simp only[PVal.cl]at h ⊢;exact PC hnm es h
 |.eptr cs,h=>by simp only[PVal.cl]at h ⊢;exact s8 hnm cs h
 |.bptr i _,h=>by simp only[PVal.cl]at h ⊢;omega
 |.bsl i _ _,h=>by simp only[PVal.cl]at h ⊢;omega
 |.mapr i,h=>by simp only[PVal.cl]at h ⊢;omega
 |.nptr i _,h=>by simp only[PVal.cl]at h ⊢;omega
 |.func _ f c,h=>by simp only[PVal.cl]at h ⊢;exact⟨s8 hnm f h.1,s8 hnm c h.2⟩
theorem s8{n m:Nat}(hnm:n<=m):∀(l:List PVal),iG n l->iG m l
 |[],_=>by simp[iG]
 |p::l,h=>by simp only[iG]at h ⊢;exact⟨Vv hnm p h.1,s8 hnm l h.2⟩
theorem PC{n m:Nat}(hnm:n<=m):∀(l:List (List PVal)),xT n l->xT m l
 |[],_=>by simp[xT]
 |p::l,h=>by simp only[xT]at h ⊢;exact⟨s8 hnm p h.1,PC hnm l h.2⟩
end
theorem eX{n:Nat}{l:List PVal}(h:iG 0 l):iG n l:=s8 (vaX n) l h
theorem up{n:Nat}{p:PVal}(h:p.cl 0):p.cl n:=Vv (vaX n) p h
theorem dQ{i n:Nat}(h:decide (i<n)=true):i<n:=va2 h
def qfh:TypeDesc->Bool
 |.struct _=>true
 |.array _ _=>true
 |_=>false
theorem iM{P:Program}{t:TypeId}{l r:List PVal}(h:(P.underlying t).any qfh=true)(hc:P.cellsOf t=l.length):bo P t (l++r)=some (.agg l):=by
 unfold bo
 split
 ·rw[vad (by rw[hc];simp),hc,vcm]
 ·rw[vad (by rw[hc];simp),hc,vcm]
 ·rename_i d h1 h2 hd
  rw[hd]at h
  cases d<;>simp_all[qfh]
 ·rename_i hd;rw[hd]at h;cases h
theorem Ge{k:Nat}{B:aB}:∀{ps qs:List aB} {i:Nat},qs.length<=i->dD k ps qs->dD k (ps.set i B) qs
 |_,[],_,_,_=>by unfold dD;trivial
 |[],_::_,_,_,h=>by simpa using h
 |p::ps,q::qs,0,hi,_=>by simp at hi
 |p::ps,q::qs,i+1,hi,h=>by
  simp only[List.set_cons_succ]
  exact⟨h.1,Ge (by simpa using hi) h.2⟩
def N9(P:Program)(rs:List ResultVar)(r:PVal)(ro:List (Nat×TypeId))(H':List aB)(st:aF):Prop:=
 ∃(t:Tmp) (ty:TypeId) (i off:Nat) (cs:List PVal) (own:List (Nat×TypeId)) (l:List PVal),rs=[.cell t ty]/\(∃fs,P.underlying ty=some (.struct fs))/\st.tmps.getD t .undef=.bptr i off/\st.boxes[i]? =some (.cells cs own)/\
  r=.agg l/\bo P ty (cs.drop off)=some (.agg l)/\r.cl H'.length/\H'.length<=i/\dD H'.length st.boxes H'/\(∀x∈ro,(off+x.1,x.2)∈own/\x.1<l.length)/\(ro.map (·.1)).Nodup
def qaD(P:Program)(rs:List ResultVar)(r:PVal)(ro:List (Nat×TypeId))(H':List aB)(e:Exit)(st:aF):Prop:=
 qfX P rs r ro H' e st\/((e=.normal\/e=.ret)/\N9 P rs r ro H' st)
section
variable{P:Program}{E:tS}{Γ:bp}{bs:bG}{ow:Nat->Option mh}{w:World}{a:Array Value}{st:aF}
theorem SR.finishCellG(h:SR P E Γ bs ow w a st){fn:Func}{r:PVal}{ro:List (Nat×TypeId)}{H':List aB}(hr:N9 P fn.results.toList r ro H' st):∃v ow',(results fn a).run P w=.ok v w/\SR P E Γ (bs.take H'.length) ow' w #[v] ⟨[r],H',ro.map λx=>((0,x.1),x.2)⟩:=by
 obtain⟨t,ty,i,off,cs,own,l,hrs,⟨fs,hfs⟩,ht,hB,rfl,hp,hcl,hi,hbl,hro,hnd⟩:=hr
 have hrv:I6 P st fn.results.toList=some (.agg l):=by
  rw[hrs]
  show lT P ty (st.tmps.getD t .undef) st.boxes=_
  rw[ht]
  simp only[lT,hB,hp]
 obtain⟨v,e1,e2,_⟩:=xt h hrv
 have hvt:=h.getD t
 rw[ht]at hvt
 generalize hva:a.getD t undef=vt at hvt
 cases hvt with
 |bptr _ _ b hb=>
 obtain⟨v2,q1,q2,q3⟩:=GV h hb hB hp
 have hvv:v2=v:=by
  have hres:fn.results=#[.cell t ty]:=by
   have:fn.results=fn.results.toList.toArray:=by simp
   rw[this,hrs]
  have hrun:(results fn a).run P w=.ok v2 w:=by
   simp[results,hres,asAddr]
   have hva':a[t]?.getD undef=.pointer (some ⟨b,off,none⟩):=by rw[<-vaE];exact hva
   rw[hva']
   simp[q1]
  rw[e1]at hrun
  cases hrun
  rfl
 subst hvv
 have g1:=h.pushed e2
 obtain⟨ow',g2⟩:=SR.takeOwns (off:=off) (d:=a.size) (u:=v2) hb (by simp) ro g1 hB (λx hx=>(hro x hx).1) hnd λx hx=>by
  have:=q3 ⟨_,hfs,vzz⟩ x.1 (hro x hx).2
  obtain⟨v',z1,_⟩:=h.ob i (off+x.1) x.2 cs own b hB (hro x hx).1 hb
  exact⟨v',this.trans z1,z1⟩
 refine⟨v2,Gi (λk=>(a.size,k)) ro ow',e1,?_⟩
 exact g2.finish (H':=H') (src:=λk=>(a.size,k)) (ro:=ro) e2 hcl (Ge hi hbl) (λx hx=>⟨vaV _ (vb8.2 (vaq.2 ⟨x,hx,rfl⟩)),λu v' hu hv'=>by simp at hu;subst hu;exact hv'⟩) (λx _ y _ e=>by simpa using e)
end
theorem C.ofSatG{P:Program}{GE:List (Nat×List PVal)}{m:Nat}{f:FuncId}{fn:Func}{c:Code}{args:List PVal}{oa:List ((Nat×Nat)×TypeId)}{H:List aB}{r:PVal}{ro:List (Nat×TypeId)}{H':List aB}(hm:m % 1000=H.length)(hm0:m≠0)
  (hcall:∀vs w,(callFunc f vs).run P w=.ok (.enter f vs) w) (hfn:P.funcs[f]? =some fn) (hb:fn.body=some c) (hH:H'.length=H.length)
  (hp:d6 P GE m c (qaD P fn.results.toList r ro H') ⟨args++List.replicate (fn.ntmps - args.length) .undef,H,oa⟩):C P GE f args oa H r ro H':=by
 refine⟨hcall,λΓ bs ow w vs h=>calls_of_wp hfn hb ?_⟩
 have hbl:bs.length=H.length:=h.bl
 have h0:SR P ⟨GE,Γ,w,bJ bs ow⟩ Γ bs ow w (vs++Array.replicate (fn.ntmps - vs.size) undef) ⟨args++List.replicate (fn.ntmps - args.length) .undef,H,oa⟩:=by
  have hsz:vs.size=args.length:=h.sz
  exact{h with
   sz:=by simp[hsz]
   tm:=λt p v hp hv=>by
    simp only at hp
    by_cases ht:t<args.length
    ·rw[van ht]at hp
     rw[va7 (by omega)]at hv
     exact h.tm t p v hp hv
    ·rw[vav (by omega),va8]at hp
     split at hp<;>cases hp
     exact .undef v
   ot:=λt k e he=>by
    obtain⟨u,v,h1,h2⟩:=h.ot t k e he
    exact⟨u,v,by rw[va7 (vao.1 h1).1];exact h1,h2⟩}
 have hE:Mx GE m ⟨GE,Γ,w,bJ bs ow⟩:={
  ge:=rfl
  low:=λb n hb=>h.lt_of_ghost hb
  nt:=λh0=>absurd h0 hm0
  gl:=λg cs hg=>(h.gl g cs hg).restrict (n:=0) (by simp only[PVal.cl];exact h.gc g cs hg) (λi b hi _=>absurd hi (va5 _))}
 have hwp:=hp none ⟨GE,Γ,w,bJ bs ow⟩ bs ⟨vs++Array.replicate (fn.ntmps - vs.size) undef,[]⟩ w hE (by rw[hbl,hm]) ⟨Γ,bs,ow,h0,λi _=>rfl⟩
 refine wp_mono hwp λe a w' hq=>?_
 obtain⟨hd,st,⟨Γ1,bs1,ow1,hS,hk⟩,hQ⟩:=hq
 have htake:H'.length<=bs1.length->bs1.take H'.length=bs:=by
  intro hl1
  refine vbh λi=>?_
  by_cases hi:i<H'.length
  ·rw[vaH hi];exact hk i (by omega)
  ·rw[vcj (by omega),va0 (by omega)]
 have hlen:∀{B:List aB},dD H'.length B H'->B.length=bs1.length->H'.length<=bs1.length:=λhB he=>by
  obtain⟨hl,_⟩:=nq hB;omega
 have key:(I6 P st fn.results.toList=some r/\r.cl H'.length/\dD H'.length st.boxes H'/\(∀x∈ro,(eo fn.results.toList x.1,x.2)∈st.own/\sF st fn.results.toList x.1)/\
   (∀x∈ro,∀y∈ro,eo fn.results.toList x.1=eo fn.results.toList y.1->x.1=y.1))->
   a.defers=[]/\∃v,(results fn a.tmps).run P w'=.ok v w'/\∃v' Γ' ow',Ending.returned v=.returned v'/\SR P ⟨GE,Γ,w,bJ bs ow⟩ Γ' bs ow' w' #[v'] ⟨[r],H',ro.map λx=>((0,x.1),x.2)⟩:=by
  rintro⟨k1,k2,k3,k4,k5⟩
  obtain⟨v,e1,e2,e3⟩:=xt hS k1
  refine⟨hd,v,e1,v,Γ1,Gi (eo fn.results.toList) ro ow1,rfl,?_⟩
  have hf:=hS.finish (H':=H') (src:=eo fn.results.toList) (ro:=ro) e2 k2 k3 (λx hx=>⟨(k4 x hx).1,λu v'=>e3 x.1 u v' (k4 x hx).2⟩) k5
  rw[htake (hlen k3 hS.bl.symm)]at hf
  exact hf
 have key2:N9 P fn.results.toList r ro H' st->
   a.defers=[]/\∃v,(results fn a.tmps).run P w'=.ok v w'/\∃v' Γ' ow',Ending.returned v=.returned v'/\SR P ⟨GE,Γ,w,bJ bs ow⟩ Γ' bs ow' w' #[v'] ⟨[r],H',ro.map λx=>((0,x.1),x.2)⟩:=by
  intro hc
  obtain⟨v,ow',e1,e2⟩:=hS.finishCellG hc
  obtain⟨_,_,_,_,_,_,_,_,_,_,_,_,_,_,_,hbl2,_,_⟩:=hc
  rw[htake (hlen hbl2 hS.bl.symm)]at e2
  exact⟨hd,v,e1,v,Γ1,ow',rfl,e2⟩
 rcases hQ with hQ|⟨he,hQ⟩
 ·cases e with
  |normal=>exact key hQ
  |ret=>exact key hQ
  |exit id=>exact hQ.elim
  |goto l=>exact hQ.elim
  |panic c=>exact hQ.elim
  |outgrown=>exact hQ.elim
 ·rcases he with rfl|rfl
  ·exact key2 hQ
  ·exact key2 hQ
def TW(P:Program)(rs:List ResultVar)(ro:List (Nat×TypeId))(n:Nat)(st:aF):Bool:=match rs with
 | [.cell t ty] => match P.underlying ty with
  | some (.struct _) => match st.tmps.getD t .undef with
   |.bptr i off=>decide (n<=i)&&match st.boxes[i]? with
    |some (.cells _ own)=>ro.all (λx=>decide ((off+x.1,x.2)∈own)&&decide (x.1<P.cellsOf ty))&&qb (ro.map (·.1))
    |_=>false
   |_=>false
  |_=>false
 |_=>false
def YA(P:Program)(rs:List ResultVar)(r:PVal)(ro:List (Nat×TypeId))(H':List aB)(st:aF):Prop:=match Fk rs ro st with
 |true=>match I6 P st rs with
  |some p=>p=r/\r.cl H'.length/\So (st.boxes.take H'.length) H'=H'/\QW H'.length H'
  |none=>False
 | false => match TW P rs ro H'.length st with
  |true=>match I6 P st rs with
   |some p=>p=r/\r.cl H'.length/\So (st.boxes.take H'.length) H'=H'/\QW H'.length H'/\r.isAgg=true
   |none=>False
  |false=>False
def qeI(P:Program)(rs:List ResultVar)(r:PVal)(ro:List (Nat×TypeId))(H':List aB):Exit->List It->aF->Prop:=λe _ st=>match e with
 |.normal=>YA P rs r ro H' st
 |.ret=>YA P rs r ro H' st
 |_=>False
theorem RZ{rs:List ResultVar}{ro:List (Nat×TypeId)}{st:aF}(hc:Fk rs ro st=true):(∀x∈ro,(eo rs x.1,x.2)∈st.own/\sF st rs x.1)/\(∀x∈ro,∀y∈ro,eo rs x.1=eo rs y.1->x.1=y.1):=by
 have:=Ob (r:=.undef) (P:=default) (rs:=rs) (ro:=ro) (st:=⟨st.tmps,st.boxes,st.own⟩) hc
 by_cases hr:I6 default st rs=some .undef
 ·exact(this hr vzz).2.2.2
 ·clear this
  unfold Fk at hc
  rw[vaf]at hc
  obtain⟨c1,c2⟩:=hc
  refine⟨λx hx=>?_,λx hx y hy hxy=>?_⟩
  ·have:=vak.1 c1 x hx
   rw[vaf]at this
   refine⟨by simpa using this.1,?_⟩
   have h2:=this.2
   clear this c1 c2 hr
   rcases rs with _|⟨y,_|⟨z,rs⟩⟩
   ·simp at h2
   ·cases y with
    |tmp t=>trivial
    |cell t ty=>cases h2
   ·have key:∀o:Option ResultVar,(match o with
     |some (.tmp t)=>(st.tmps.getD t .undef).isSlice
     |_=>false)=true->(match o with
     |some (.tmp t)=>(st.tmps.getD t .undef).isSlice=true
     |_=>False):=by
     intro o
     cases o with
     |none=>intro h;cases h
     |some q=>cases q<;>intro h<;>first|exact h|cases h
    cases y with
    |tmp t=>exact key _ h2
    |cell t ty=>exact key _ h2
  ·have:=vak.1 (vak.1 c2 x hx) y hy
   simpa[hxy]using this
theorem YA.to{P:Program}{rs:List ResultVar}{r:PVal}{ro:List (Nat×TypeId)}{H':List aB}{st:aF}{e:Exit}(he:e=.normal\/e=.ret)(h:YA P rs r ro H' st):qaD P rs r ro H' e st:=by
 unfold YA at h
 split at h
 ·rename_i hc
  split at h
  ·rename_i p hp
   obtain⟨rfl,hcl,hfg,hcb⟩:=h
   obtain⟨s1,s2⟩:=RZ hc
   have:I6 P st rs=some p/\p.cl H'.length/\dD H'.length st.boxes H'/\_/\_:=⟨hp,hcl,Ig hfg hcb,s1,s2⟩
   rcases he with rfl|rfl<;>exact .inl this
  ·exact h.elim
 ·split at h
  ·rename_i hc
   split at h
   ·rename_i p hp
    obtain⟨rfl,hcl,hfg,hcb,hagg⟩:=h
    refine .inr ⟨he,?_⟩
    unfold TW at hc
    split at hc
    ·rename_i t ty _
     split at hc
     ·rename_i fs hfs
      split at hc
      ·rename_i i off ht
       rw[vaf,var]at hc
       obtain⟨hi,hc⟩:=hc
       split at hc
       ·rename_i cs own hB
        rw[vaf]at hc
        obtain⟨c1,c2⟩:=hc
        have hpl:bo P ty (cs.drop off)=some p:=by
         have hp':lT P ty (st.tmps.getD t .undef) st.boxes=some p:=hp
         rw[ht]at hp'
         simpa only[lT,hB]using hp'
        cases p<;>simp only[PVal.isAgg]at hagg<;>first|(cases hagg;done)|skip
        rename_i l
        have hlen:l.length=P.cellsOf ty:=by
         have hq:=hpl
         unfold bo at hq
         rw[hfs]at hq
         simp only at hq
         split at hq
         ·rename_i hh;cases hq;rw[vba];omega
         ·cases hq
        refine⟨t,ty,i,off,cs,own,l,rfl,⟨fs,hfs⟩,ht,hB,rfl,hpl,hcl,hi,Ig hfg hcb,λx hx=>?_,kC c2⟩
        have:=vak.1 c1 x hx
        simp only[vaf,var]at this
        exact⟨this.1,by rw[hlen];exact this.2⟩
       ·cases hc
      ·cases hc
     ·cases hc
    ·cases hc
   ·exact h.elim
  ·exact h.elim
theorem qeI.to{P:Program}{rs:List ResultVar}{r:PVal}{ro:List (Nat×TypeId)}{H':List aB}{e:Exit}{sc:List It}{st:aF}(h:qeI P rs r ro H' e sc st):qaD P rs r ro H' e st:=by
 unfold qeI at h
 split at h
 ·exact h.to (.inl rfl)
 ·exact h.to (.inr rfl)
 ·exact h.elim
section
variable{X Y:Type}
def qcX(F:(X->Option Y)->X->Option Y):Nat->X->Option Y
 |0,_=>none
 |n+1,x=>F (qcX F n) x
end
theorem xR(ρ:List Nat)(p:PVal)(h:p.cl 0):Bg ρ p p:=.refl p h
theorem xB(ρ:List Nat)(i j off:Nat)(h:ρ[i]? =some j):Bg ρ (.bptr j off) (.bptr i off):=.bptr i j off h
theorem xN(ρ:List Nat)(i j:Nat)(T:TypeId)(h:ρ[i]? =some j):Bg ρ (.nptr j T) (.nptr i T):=.nptr i j T h
theorem xF(ρ:List Nat)(fn:Fn)(f c f' c':List PVal)(h:Fs ρ f f')(h':Fs ρ c c'):Bg ρ (.func fn f c) (.func fn f' c'):=.func fn f c f' c' h.len h'.len h.get h'.get
theorem xA(ρ:List Nat)(f f':List PVal)(h:Fs ρ f f'):Bg ρ (.agg f) (.agg f'):=.agg f f' h.len h.get
theorem dI{a a':PVal}{l l':List PVal}(h:a=a')(h':l=l'):a::l=a'::l':=by rw[h,h']
def PS(_:List It)(F:Prop):Prop:=F
section
variable{sc:List It}{F X Y:Prop}
theorem en(h:F):PS [] F:=h
theorem sv{o:Option PVal}{p:PVal}(h:o=some p)(r:PS sc F):PS (.v p::sc) (o=some p/\F):=⟨h,r⟩
theorem qlM{o:List aB->Option PVal}{p:PVal}(h:∀H,o H=some p)(r:PS sc F):PS (.v p::sc) ((∀H,o H=some p)/\F):=⟨h,r⟩
theorem sx{o:Option (List PVal)}{l:List PVal}(h:o=some l)(r:PS sc F):PS (.x l::sc) (o=some l/\F):=⟨h,r⟩
theorem se{o:Option (List PVal)}{l:List PVal}(h:o=some l)(r:PS sc F):PS (.e l::sc) (o=some l/\F):=⟨h,r⟩
theorem sg(n:Nat){x b:Bool}(h:x=b)(r:PS sc F):PS (.g n b::sc) (x=b/\F):=⟨h,r⟩
theorem ss(r:PS sc F):PS (.s::sc) F:=r
theorem qew{P:Program}{GE:List (Nat×List PVal)}{g:FuncId}{vs:List PVal}{p:PVal}{ro:List (Nat×TypeId)}(h:CC P GE g vs p ro)(r:PS sc F):PS (.c p ro::sc) (CC P GE g vs p ro/\F):=⟨h,r⟩
theorem sz{o:Option PVal}{l:List PVal}(h:o=some (.agg l))(r:PS sc F):PS (.z l::sc) (o=some (.agg l)/\F):=⟨h,r⟩
theorem sf(h:X)(r:PS sc F):PS sc (X/\F):=⟨h,r⟩
theorem qjX(i:Nat)(es:List (List PVal))(lv rk:List Nat)(h:X)(h':Y){Z:Prop}(h'':Z)(r:PS sc F):PS (.fz i es lv rk::sc) (X/\Y/\Z/\F):=⟨h,h',h'',r⟩
end
section
variable{P:Program}{GE:List (Nat×List PVal)}{A:List Nat}{m:Nat}
theorem j9(hf:P.follows .mixedOrders=true){c:Code}{e0:Exit}{st0 st:aF}{sc:List It}{F:Prop}(h:PS sc F)(he:F=KX P GE A m c sc st (FN e0 st0)):d6 P GE m c (EX e0 st0) st:=piece hf sc (Eq.mp he h)
theorem C.evp(hf:P.follows .mixedOrders=true){f:FuncId}{fn:Func}{c:Code}{args:List PVal}{r:PVal}{ro:List (Nat×TypeId)}
  (hcall:∀vs w,(callFunc f vs).run P w=.ok (.enter f vs) w) (hfn:P.funcs[f]? =some fn) (hb:fn.body=some c) (hcl:iG 0 args) {sc:List It} {F:Prop} (h:PS sc F)
  (he:F=KX P GE A 0 c sc ⟨args++List.replicate (fn.ntmps - args.length) .undef,[],[]⟩ (FR P fn.results.toList r ro)):CC P GE f args r ro:=C.ev hf hcall hfn hb hcl sc (Eq.mp he h)
end
def tm(n:Nat):Nat->List (Nat×PVal)->List PVal
 |k,[]=>List.replicate (n - k) .undef
 |k,x::l=>List.replicate (x.1 - k) .undef++x.2::tm n (x.1+1) l
abbrev aZ(n:Nat)(l:List (Nat×PVal))(H:List aB)(o:List ((Nat×Nat)×TypeId)):aF:=⟨tm n 0 l,H,o⟩
def qd0(n:Nat):List (Nat×PVal)->Prop
 |[]=>True
 |x::l=>x.2.cl n/\qd0 n l
theorem QX{n:Nat}{l:List PVal}(h:iG n l):∀k,iG n (List.replicate k .undef++l)
 |0=>h
 |k+1=>by rw[List.replicate_succ,vaL];exact⟨vzz,QX h k⟩
theorem bE{n N:Nat}:∀{l:List (Nat×PVal)} {k:Nat},qd0 n l->iG n (tm N k l)
 |[],k,_=>by unfold tm;have:=QX (n:=n) (l:=[]) trivial (N - k);rwa[vaC]at this
 |x::l,k,h=>by unfold tm;exact QX (l:=x.2::tm N (x.1+1) l) (by simp only[iG];exact⟨h.1,bE h.2⟩) _
def bits:Nat->Nat->List Bool->List Bool
 |0,_,l=>l
 |k+1,n,l=>if n<=1 then l else bits k (n / 2) ((n % 2==1)::l)
def cA(c:Code)(n:Nat):Code:=gf c (bits 100 n [])
section
variable{X Y:Type}
def oE(F:(X->Option Y)->X->Option Y)(x:X):Option Y:=qcX F Uo x
theorem qdW:18446744073709551616<Uo:=by unfold Uo;omega
theorem eE{F:(X->Option Y)->X->Option Y}{M:X->Y->Prop}(hF:∀rec:X->Option Y,(∀x r,rec x=some r->M x r)->∀x r,F rec x=some r->M x r){x:X}{r:Y}(h:oE F x=some r):M x r:=by
 have key:∀n x r,qcX F n x=some r->M x r:=by
  intro n
  induction n with
  |zero=>intro x r h;cases h
  |succ n ih=>intro x r h;exact hF _ ih x r h
 exact key _ x r h
theorem sj{F:(X->Option Y)->X->Option Y}(μ:X->Nat)(Q:X->Prop)(s:X->Y)(h:∀(R:X->Option Y) x,Q x->(∀y,μ y<μ x->Q y->R y=some (s y))->F R x=some (s x))(x:X)(hx:Q x)(hm:μ x<Uo):oE F x=some (s x):=by
 have key:∀n x,μ x<n->Q x->qcX F n x=some (s x):=by
  intro n
  induction n with
  |zero=>intro x hx;omega
  |succ n ih=>intro x hx hq;exact h _ x hq λy hy hqy=>ih y (by omega) hqy
 exact key _ x hm hx
end
section
variable{P:Program}{GE:List (Nat×List PVal)}{T e:TypeId}{α:Type}{c:α->List PVal}
theorem qjO{m b:Nat}(hb:decide (m % 1000<=b)=true)(l:List PVal)(hl:decide (l.length≠0)=true):(m % 1000<=b)/\∃sz,0<sz/\∀x∈[l],x.length=sz:=⟨va2 hb,l.length,by have:=va2 hl;omega,λx hx=>by rw[vbR.1 hx]⟩
theorem qjP(b:Nat){l:List PVal}(h:iG 0 l):NE b [l]:=GY b _ ⟨h,vzz⟩
theorem qgp(l:List PVal):l=l:=rfl
theorem qjQ{l r:List PVal}(h:r=l):l=[r].flatten:=by rw[h];simp
theorem qlE(b:Nat){p:PVal}(h:p.cl 0):p.no b:=Tl b p h
end
theorem qj6(ρ:List Nat):∀(l:List PVal),iG 0 l->Fs ρ l l
 |[],_=>trivial
 |p::l,h=>by simp only[iG]at h;exact⟨.refl p h.1,qj6 ρ l h.2⟩
theorem eF(e:Exit)(s:aF):PS [] (e=e/\s.tmps=s.tmps/\s.boxes=s.boxes/\true=true):=⟨rfl,fr s⟩
theorem qlN{o:Option (List PVal)}{l:List PVal}{sc:List It}{F:Prop}(h:o=some l)(hn:LF l=true)(r:PS sc F):PS (.x l::sc) (o=some l/\LF l=true/\F):=⟨h,hn,r⟩
def YG(l:List Int)(s:ah):Option (List Int):=if l.length+s.length<=1073741824 then some (l++s.map λc=>(c.toNat:Int))else none
theorem qbg{P:Program}{T T' e:TypeId}{l z:List Int}{s:ah}(hT:Md P T e (cI .u8))(hu:P.underlying T'=some .string)(hb:P.bytesOf e=1)(hc:P.cellsOf e=1)(hz:qbN ((P.info? e).bind (·.zero))=true)(h:YG l s=some z):Ax P T T' (l.map (cI .u8)) s=some (sl (cI .u8) z):=by
 unfold YG at h
 split at h
 ·rename_i hl
  cases h
  unfold Ax
  rw[hT.hu,hu]
  simp only
  rw[vad ⟨by simpa[DQ]using hl,hb,hc,hz,λx hx=>by obtain⟨y,_,rfl⟩:=vaq.1 hx;rfl⟩]
  simp only[sl,vaB,GG,vby]
  rfl
 ·cases h
theorem qfi{P:Program}{β:Type}{t e:TypeId}{n:Nat}{v:β->PVal}{l:List β}(h:P.underlying t=some (.array n e))(h1:P.cellsOf e=1)(h2:(P.info? e).isSome=true)(h4:decide (l.length=n)=true)
  {k:IntKind} {i:Int} {x:β} (hx:dh l i=some x):ka P t (.eptr (l.map v)) (.int k i)=some (.eptr ((l.map v).drop i.toNat)):=by
 obtain⟨h0,hx⟩:=D4 hx
 have hlt:i.toNat<l.length:=(vbE.1 hx).1
 have hl:l.length=n:=by simpa using h4
 unfold ka
 simp only[h]
 rw[vad ⟨h0,by omega,h2,by rw[h1,vbX,vbI];omega⟩,h1,vbX]
theorem qfk{P:Program}{β:Type}{e:TypeId}{v:β->PVal}{l:List β}(h3:(P.underlying e).any Of=true){i:Int}{x:β}(hx:dh l i=some x):bo P e ((l.map v).drop i.toNat)=some (v x):=by
 obtain⟨h0,hx⟩:=D4 hx
 have hlt:i.toNat<l.length:=(vbE.1 hx).1
 rw[vaI (by simpa using hlt),kb h3]
 simp only[vcB]
 rw[vac hlt]at hx
 cases hx;rfl
inductive Tr(R:Type):Type 1 where
 |lf (r:R)
 |it (i:It) (t:Tr R)
 |bd {α:Type} (o:Option α) (k:α->Tr R)
 |br (b:Bool) (s t:Tr R)
 |bs {α β:Type} (o:Option (α⊕β)) (s:α->Tr R) (t:β->Tr R)
 |b3 {α β γ:Type} (o:Option (α⊕(β⊕γ))) (s:α->Tr R) (t:β->Tr R) (u:γ->Tr R)
section
variable{R:Type}
def Tr.val:Tr R->Option R
 |.lf r=>some r
 |.it _ t=>t.val
 |.bd o k=>o.bind λa=>(k a).val
 |.br b s t=>if b=true then s.val else t.val
 |.bs o s t=>o.bind λx=>match x with
  |.inl a=>(s a).val
  |.inr a=>(t a).val
 |.b3 o s t u=>o.bind λx=>match x with
  |.inl a=>(s a).val
  |.inr (.inl a)=>(t a).val
  |.inr (.inr a)=>(u a).val
def Tr.go:Tr R->(Tr R->Prop)->Prop
 |.lf r,K=>K (.lf r)
 |.it i t,K=>K (.it i t)
 |.bd o k,K=>∀a,o=some a->(k a).go K
 |.br b s t,K=>(b=true->s.go K)/\(b=false->t.go K)
 |.bs o s t,K=>(∀a,o=some (.inl a)->(s a).go K)/\∀a,o=some (.inr a)->(t a).go K
 |.b3 o s t u,K=>(∀a,o=some (.inl a)->(s a).go K)/\(∀a,o=some (.inr (.inl a))->(t a).go K)/\∀a,o=some (.inr (.inr a))->(u a).go K
theorem Tr.go_ok{r:R}:∀{t:Tr R} {K:Tr R->Prop},t.val=some r->t.go K->∃t',t'.val=some r/\K t'
 |.lf _,_,hv,h=>⟨_,hv,h⟩
 |.it _ _,_,hv,h=>⟨_,hv,h⟩
 |.bd o k,K,hv,h=>by
  simp only[Tr.val]at hv
  obtain⟨a,ha,hv⟩:=Gd hv
  exact Tr.go_ok hv (h a ha)
 | .br b s t,K,hv,h => by
  simp only[Tr.val]at hv
  rcases n9 hv with⟨hb,hv⟩|⟨hb,hv⟩
  ·exact Tr.go_ok hv (h.1 hb)
  ·exact Tr.go_ok hv (h.2 hb)
 | .bs o s t,K,hv,h => by
  simp only[Tr.val]at hv
  obtain⟨a,ha,hv⟩:=Gd hv
  rcases a with a|a
  ·exact Tr.go_ok hv (h.1 a ha)
  ·exact Tr.go_ok hv (h.2 a ha)
 | .b3 o s t u,K,hv,h => by
  simp only[Tr.val]at hv
  obtain⟨a,ha,hv⟩:=Gd hv
  rcases a with a|a|a
  ·exact Tr.go_ok hv (h.1 a ha)
  ·exact Tr.go_ok hv (h.2.1 a ha)
  ·exact Tr.go_ok hv (h.2.2 a ha)
def Tr.run:Tr R->(List It->Tr R->Prop)->Prop
 |.it i t,K=>t.run λl t'=>K (i::l) t'
 |t,K=>K [] t
def Tr.its:List It->Tr R->Tr R
 |[],t=>t
 |i::l,t=>.it i (Tr.its l t)
theorem Tr.its_val:∀(l:List It) (t:Tr R),(Tr.its l t).val=t.val
 |[],_=>rfl
 |_::l,t=>Tr.its_val l t
theorem Tr.run_ok:∀{t:Tr R} {K:List It->Tr R->Prop},t.run K->∃l t',t'.val=t.val/\K l t'
 |.it i t,K,h=>by
  obtain⟨l,t',h1,h2⟩:=Tr.run_ok (t:=t) h
  exact⟨i::l,t',h1,h2⟩
 |.lf _,_,h=>⟨[],_,rfl,h⟩
 |.bd _ _,_,h=>⟨[],_,rfl,h⟩
 |.br _ _ _,_,h=>⟨[],_,rfl,h⟩
 |.bs _ _ _,_,h=>⟨[],_,rfl,h⟩
 |.b3 _ _ _ _,_,h=>⟨[],_,rfl,h⟩
def Rb(m:Nat)(t:Tr R)(st:aF)(k:Tr R->aF->Prop):Prop:=match t with
 |.it (.fz i es lv rk) t'=>(Tr.it (.fz i es lv rk) t').run λsc t2=>Xf m sc st λsc st=>k (Tr.its sc t2) st
 |t=>k t st
theorem VL{P:Program}{m:Nat}{t:Tr R}{st:aF}{k:Tr R->aF->Prop}(h:Rb m t st k):∃t' st',t'.val=t.val/\zy P m st st'/\k t' st':=by
 unfold Rb at h
 split at h
 ·obtain⟨l,t2,h1,h2⟩:=Tr.run_ok h
  obtain⟨sc2,st2,hw,h3⟩:=Na (P:=P) h2
  exact⟨_,st2,(Tr.its_val _ _).trans h1,hw,h3⟩
 ·exact⟨_,_,rfl,.refl _,h⟩
def Fy(P:Program)(GE:List (Nat×List PVal))(A:List Nat)(m:Nat):Code->Tr R->aF->(Exit->Tr R->aF->Prop)->Prop
 |.skip,t,st,K=>K .normal t st
 |.label _,t,st,K=>K .normal t st
 |.region id ops draw,t,st,K=>t.go λt=>t.run λsc t'=>KX P GE A m (.region id ops draw) sc st λe sc st=>K e (Tr.its sc t') st
 | .seq a b,t,st,K => t.go fun t =>
  let after (e:Exit) (t:Tr R) (st:aF):Prop:=match e with
   |.normal=>t.go λt=>Rb m t st λt st=>Fy P GE A m b t st K
   |e=>K e t st
  match t with
  |.it (.pa 0) (.it (.pc st0 e st1) t')=>FG st st0/\d6 P GE m a (EX e st1) st0/\after e t' st1
  |.it (.pa (n+1)) t'=>Fy P GE A m a (.it (.pa n) t') st after
  |t=>Fy P GE A m a t st after
 | .cond c a b,t,st,K => t.go fun t => qW GE st.tmps c fun v => match v with
  | .bool x => match t with
   |.it .k t'=>match x with
    |true=>t'.go λt=>Rb m t st λt st=>Fy P GE A m a t st K
    |false=>t'.go λt=>Rb m t st λt st=>Fy P GE A m b t st K
   |.it (.g _ y) t'=>x=y/\match y with
    |true=>t'.go λt=>Rb m t st λt st=>Fy P GE A m a t st K
    |false=>t'.go λt=>Rb m t st λt st=>Fy P GE A m b t st K
   |_=>False
  |_=>False
 |.block id c,t,st,K=>Fy P GE A m c t st λe t st=>match e with
  |.exit id'=>if id'=id then K .normal t st else K (.exit id') t st
  |e=>K e t st
 |.exit id,t,st,K=>K (.exit id) t st
 |.ret,t,st,K=>K .ret t st
 |.loop c,t,st,K=>t.go λt=>match t with
  |.it (.pc st0 e st1) t'=>FG st st0/\d6 P GE m (.loop c) (EX e st1) st0/\K e t' st1
  |_=>False
 |_,_,_,_=>False
section
variable{P:Program}{GE:List (Nat×List PVal)}{A:List Nat}{m:Nat}
theorem gr(hf:P.follows .mixedOrders=true){r:R}:∀(c:Code) (t:Tr R) (st:aF) (K:Exit->Tr R->aF->Prop),t.val=some r->Fy P GE A m c t st K->d6 P GE m c (λe st'=>∃t',t'.val=some r/\K e t' st') st
 |.skip,t,st,K,hv,h=>d6.skip ⟨t,hv,h⟩
 |.label _,t,st,K,hv,h=>d6.label ⟨t,hv,h⟩
 |.region id ops draw,t,st,K,hv,h=>by
  simp only[Fy]at h
  obtain⟨t1,v1,h⟩:=Tr.go_ok hv h
  obtain⟨l,t2,v2,h⟩:=Tr.run_ok h
  refine(jC hf (.region id ops draw) l st _ h).mono λe st' hx=>?_
  obtain⟨sc',hx⟩:=hx
  exact⟨_,.refl _,_,(Tr.its_val _ _).trans (v2.trans v1),hx⟩
 | .seq a b,t,st,K,hv,h => by
  simp only[Fy]at h
  obtain⟨t1,v1,h⟩:=Tr.go_ok hv h
  have aft:∀(e:Exit) (t':Tr R) (st':aF),t'.val=some r->(match e with|.normal=>t'.go (λt=>Rb m t st' λt st=>Fy P GE A m b t st K)|e=>K e t' st')->(match e with|.normal=>d6 P GE m b (λe st'=>∃t',t'.val=some r/\K e t' st') st'|e=>∃t',t'.val=some r/\K e t' st'):=by
   intro e t' st' hv' hx
   cases e with
   |normal=>
    obtain⟨t2,v2,hx⟩:=Tr.go_ok hv' hx
    obtain⟨t3,st3,v3,hw,hx⟩:=VL (P:=P) hx
    exact d6.weak hw (gr hf b t3 st3 K (v3.trans v2) hx)
   |exit id=>exact⟨_,hv',hx⟩
   |goto l=>exact⟨_,hv',hx⟩
   |ret=>exact⟨_,hv',hx⟩
   |panic c=>exact⟨_,hv',hx⟩
   |outgrown=>exact⟨_,hv',hx⟩
  refine d6.seq ?_
  split at h
  ·rename_i st0 e st1 t'
   obtain⟨h1,h2,h3⟩:=h
   refine d6.weak h1.weak (EX.of h2 ?_)
   have:=aft e t' st1 v1 h3
   cases e<;>exact this
  ·exact(gr hf a _ st _ (by exact v1) h).imp λe st' hx=>by
    obtain⟨t',hv',hx⟩:=hx
    have:=aft e t' st' hv' hx
    cases e<;>exact this
  ·exact(gr hf a _ st _ v1 h).imp λe st' hx=>by
    obtain⟨t',hv',hx⟩:=hx
    have:=aft e t' st' hv' hx
    cases e<;>exact this
 | .cond c a b,t,st,K,hv,h => by
  simp only[Fy]at h
  obtain⟨t1,v1,h⟩:=Tr.go_ok hv h
  rw[cb]at h
  have go:∀{x:Code} (hx:∀(t:Tr R) (st:aF),t.val=some r->Fy P GE A m x t st K->d6 P GE m x (λe st'=>∃t',t'.val=some r/\K e t' st') st) {t:Tr R},t.val=some r->t.go (λt=>Rb m t st (λt st=>Fy P GE A m x t st K))->d6 P GE m x (λe st'=>∃t',t'.val=some r/\K e t' st') st:=by
   intro x hx t hv h
   obtain⟨t1,v1,h⟩:=Tr.go_ok hv h
   obtain⟨t2,st2,v2,hw,h⟩:=VL (P:=P) h
   exact d6.weak hw (hx t2 st2 (v2.trans v1) h)
  split at h
  ·rename_i x hx
   split at h
   ·rename_i t'
    refine d6.cond hx (λh1=>?_) (λh1=>?_)
    ·subst h1;exact go (t:=t') (λt st hv h=>gr hf a t st K hv h) (by exact v1) h
    ·subst h1;exact go (t:=t') (λt st hv h=>gr hf b t st K hv h) (by exact v1) h
   ·rename_i j y t'
    obtain⟨rfl,h⟩:=h
    refine d6.cond hx (λh1=>?_) (λh1=>?_)
    ·subst h1;exact go (t:=t') (λt st hv h=>gr hf a t st K hv h) (by exact v1) h
    ·subst h1;exact go (t:=t') (λt st hv h=>gr hf b t st K hv h) (by exact v1) h
   ·exact h.elim
  ·exact h.elim
 | .block id c,t,st,K,hv,h => by
  simp only[Fy]at h
  refine d6.block ((gr hf c _ st _ hv h).imp λe st' hx=>?_)
  obtain⟨t',hv',hx⟩:=hx
  cases e with
  | exit id' =>
   simp only[QI]
   simp only at hx
   split at hx
   ·rename_i hid;rw[vad hid];exact⟨t',hv',hx⟩
   ·rename_i hid;rw[vab hid];exact⟨t',hv',hx⟩
  |normal=>exact⟨t',hv',hx⟩
  |goto l=>exact⟨t',hv',hx⟩
  |ret=>exact⟨t',hv',hx⟩
  |panic c=>exact⟨t',hv',hx⟩
  |outgrown=>exact⟨t',hv',hx⟩
 |.exit id,t,st,K,hv,h=>d6.exit ⟨t,hv,h⟩
 |.ret,t,st,K,hv,h=>d6.ret ⟨t,hv,h⟩
 | .loop c,t,st,K,hv,h => by
  simp only[Fy]at h
  obtain⟨t1,v1,h⟩:=Tr.go_ok hv h
  split at h
  ·rename_i st0 e st1 t'
   obtain⟨h1,h2,h3⟩:=h
   exact d6.weak h1.weak (EX.of h2 ⟨t',v1,h3⟩)
  ·exact h.elim
 |.rangeFunc ..,_,_,_,_,h=>by simp[Fy]at h
 |.scope _,_,_,_,_,h=>by simp[Fy]at h
 |.goto _,_,_,_,_,h=>by simp[Fy]at h
 |.refuse _,_,_,_,_,h=>by simp[Fy]at h
end
def PV(Lf:R->Prop)(o:Option R)(t:Tr R)(F:Prop):Prop:=t.val=o/\((∀r,Lf r)->F)
section
variable{Lf:R->Prop}
theorem tE{r:R}:PV Lf (some r) (.lf r) (Lf r):=⟨rfl,λh=>h r⟩
theorem Jn{r:R}{F:Prop}(h:Lf r->F):PV Lf (some r) (.lf r) F:=⟨rfl,λq=>h (q r)⟩
theorem tb{α:Type}{o:Option α}{k:α->Option R}{t:α->Tr R}{F:α->Prop}(h:∀a,o=some a->PV Lf (k a) (t a) (F a)):PV Lf (o.bind k) (.bd o t) (∀a,o=some a->F a):=by
 refine⟨?_,λq a ha=>(h a ha).2 q⟩
 cases o with
 |none=>rfl
 |some a=>exact(h a rfl).1
theorem tf{b:Bool}{x y:Option R}{s t:Tr R}{F G:Prop}(h:b=true->PV Lf x s F)(h':b=false->PV Lf y t G):PV Lf (if b=true then x else y) (.br b s t) ((b=true->F)/\(b=false->G)):=by
 refine⟨?_,λq=>⟨λhb=>(h hb).2 q,λhb=>(h' hb).2 q⟩⟩
 cases b with
 |false=>exact(h' rfl).1
 |true=>exact(h rfl).1
theorem tF{b:Bool}{x y:Option R}{s t:Tr R}{F G:Prop}(h:PV Lf x s F)(h':PV Lf y t G):PV Lf (if b=true then x else y) (.br b (.it (.g 0 true) s) (.it (.g 0 false) t)) ((b=true->b=true/\F)/\(b=false->b=false/\G)):=by
 refine⟨?_,λq=>⟨λhb=>⟨hb,h.2 q⟩,λhb=>⟨hb,h'.2 q⟩⟩⟩
 cases b with
 |false=>exact h'.1
 |true=>exact h.1
theorem t2{α β:Type}{o:Option (α⊕β)}{k:α⊕β->Option R}{s:α->Tr R}{t:β->Tr R}{F:α->Prop}{G:β->Prop}(h:∀a,o=some (.inl a)->PV Lf (k (.inl a)) (s a) (F a))(h':∀a,o=some (.inr a)->PV Lf (k (.inr a)) (t a) (G a)):PV Lf (o.bind k) (.bs o s t) ((∀a,o=some (.inl a)->F a)/\∀a,o=some (.inr a)->G a):=by
 refine⟨?_,λq=>⟨λa ha=>(h a ha).2 q,λa ha=>(h' a ha).2 q⟩⟩
 simp only[Tr.val]
 rcases o with _|a|a
 ·rfl
 ·exact(h a rfl).1
 ·exact(h' a rfl).1
variable{oo:Option R}{tr:Tr R}{F X Y:Prop}
theorem tv{o:Option PVal}{p:PVal}(h:o=some p)(r:PV Lf oo tr F):PV Lf oo (.it (.v p) tr) (o=some p/\F):=⟨r.1,λq=>⟨h,r.2 q⟩⟩
theorem cq{o:List aB->Option PVal}{p:PVal}(h:∀H,o H=some p)(r:PV Lf oo tr F):PV Lf oo (.it (.v p) tr) ((∀H,o H=some p)/\F):=⟨r.1,λq=>⟨h,r.2 q⟩⟩
theorem tx{o:Option (List PVal)}{l:List PVal}(h:o=some l)(r:PV Lf oo tr F):PV Lf oo (.it (.x l) tr) (o=some l/\F):=⟨r.1,λq=>⟨h,r.2 q⟩⟩
theorem te{o:Option (List PVal)}{l:List PVal}(h:o=some l)(r:PV Lf oo tr F):PV Lf oo (.it (.e l) tr) (o=some l/\F):=⟨r.1,λq=>⟨h,r.2 q⟩⟩
theorem tg(n:Nat){x b:Bool}(h:x=b)(r:PV Lf oo tr F):PV Lf oo (.it (.g n b) tr) (x=b/\F):=⟨r.1,λq=>⟨h,r.2 q⟩⟩
theorem cJ{P:Program}{GE:List (Nat×List PVal)}{g:FuncId}{vs:List PVal}{p:PVal}{ro:List (Nat×TypeId)}(h:CC P GE g vs p ro)(r:PV Lf oo tr F):PV Lf oo (.it (.c p ro) tr) (CC P GE g vs p ro/\F):=⟨r.1,λq=>⟨h,r.2 q⟩⟩
theorem Oq{P:Program}{T:TypeId}{ps:List (Nat×PVal)}{p:PVal}{L:List (Nat×TypeId)}(h:di P T ps=some p)(h':ui P T ps L)(r:PV Lf oo tr F):PV Lf oo (.it (.b p L) tr) (di P T ps=some p/\ui P T ps L/\F):=⟨r.1,λq=>⟨h,h',r.2 q⟩⟩
theorem ty{l vs:List PVal}(h:l=vs)(r:PV Lf oo tr F):PV Lf oo (.it (.y vs) tr) (l=vs/\F):=⟨r.1,λq=>⟨h,r.2 q⟩⟩
theorem Sq(an:List Nat)(r:PV Lf oo tr F):PV Lf oo (.it (.dr an) tr) F:=⟨r.1,r.2⟩
theorem lB(n:Nat)(r:PV Lf oo tr F):PV Lf oo (.it (.pa n) tr) F:=⟨r.1,r.2⟩
theorem dm{P:Program}{GE:List (Nat×List PVal)}{m:Nat}{c:Code}{e:Exit}{s0 s1:aF}(h:d6 P GE m c (EX e s1) s0)(r:PV Lf oo tr F):PV Lf oo (.it (.pc s0 e s1) tr) ((s0.tmps=s0.tmps/\s0.boxes=s0.boxes/\true=true)/\d6 P GE m c (EX e s1) s0/\F):=⟨r.1,λq=>⟨fr s0,h,r.2 q⟩⟩
theorem Kz(i:It)(r:PV Lf oo tr F):PV Lf oo (.it i tr) F:=⟨r.1,r.2⟩
theorem ti(i:It)(h:X)(r:PV Lf oo tr F):PV Lf oo (.it i tr) (X/\F):=⟨r.1,λq=>⟨h,r.2 q⟩⟩
theorem qlO{o:Option (List (PVal×PVal))}{m:List (PVal×PVal)}(h:o=some m)(r:PV Lf oo tr F):PV Lf oo (.it (.w 0 (.map m)) tr) (o=some m/\F):=⟨r.1,λq=>⟨h,r.2 q⟩⟩
theorem qeP{o:Option (List PVal)}{l:List PVal}(h:o=some l)(hn:LF l=true)(r:PV Lf oo tr F):PV Lf oo (.it (.x l) tr) (o=some l/\LF l=true/\F):=⟨r.1,λq=>⟨h,hn,r.2 q⟩⟩
theorem tw{o o':Option PVal}{p p':PVal}(h:o=some p/\o'=some p')(r:PV Lf oo tr F):PV Lf oo (.it (.v p) (.it (.v p') tr)) (o=some p/\o'=some p'/\F):=⟨r.1,λq=>⟨h.1,h.2,r.2 q⟩⟩
theorem tk(r:PV Lf oo tr F):PV Lf oo (.it .k tr) F:=⟨r.1,r.2⟩
theorem ts(r:PV Lf oo tr F):PV Lf oo (.it .s tr) F:=⟨r.1,r.2⟩
end
end
def St(s:aF):Prop:=s.tmps=s.tmps/\s.boxes=s.boxes/\true=true
theorem St.ok(s:aF):St s:=fr s
def Zm:Exit->Bool
 |.normal=>true
 |_=>false
theorem Zn{e:Exit}(h:Zm e=false):e≠.normal:=by
 intro he
 subst he
 cases h
section
variable{P:Program}{GE:List (Nat×List PVal)}{A:List Nat}{m:Nat}{c:Code}{st:aF}{X σ:Type}
def Tr.fin{R:Type}:Tr R->(R->Prop)->Prop
 |.lf x,K=>K x
 |_,_=>False
theorem Te{R:Type}{r:R}{t:Tr R}{K:R->Prop}(hv:t.val=some r)(h:t.fin K):K r:=by
 unfold Tr.fin at h
 split at h
 ·cases hv;exact h
 ·exact h.elim
def LJ(ex:X->Exit)(so:X->aF)(x:X):Prop:=ex x=ex x/\St (so x)
def KJ(ex:X->Exit)(so:X->aF):Exit->Tr X->aF->Prop:=λe t st=>t.go λt=>t.fin λx=>FN (ex x) (so x) e [] st
theorem KJ.at{ex:X->Exit}{so:X->aF}{e:Exit}{t:Tr X}{st:aF}{x:X}(hv:t.val=some x)(h:KJ ex so e t st):FN (ex x) (so x) e [] st:=by
 obtain⟨t',v',h⟩:=Tr.go_ok hv h
 exact Te (K:=λx=>FN (ex x) (so x) e [] st) v' h
theorem qae(hf:P.follows .mixedOrders=true){ex:X->Exit}{so:X->aF}{o:Option X}{x:X}(h:o=some x){t:Tr X}{F:Prop}(z:PV (LJ ex so) o t F)(he:F=Fy P GE A m c t st (KJ ex so)):d6 P GE m c (EX (ex x) (so x)) st:=by
 have hF:=z.2 λr=>⟨rfl,St.ok _⟩
 rw[he]at hF
 refine(gr hf c t st _ (z.1.trans h) hF).mono λe st' hx=>?_
 obtain⟨t',v',hx⟩:=hx
 have hx:=KJ.at v' hx
 exact⟨so x,hx.2.weak,hx.1.symm,rfl⟩
def LB(S:σ->aF)(ex:X->Exit)(so:X->aF):σ⊕X->Prop
 |.inl s=>Exit.normal=Exit.normal/\St (S s)
 |.inr x=>false=false/\ex x=ex x/\St (so x)
def KB(S:σ->aF)(ex:X->Exit)(so:X->aF):Exit->Tr (σ⊕X)->aF->Prop:=λe t st=>t.go λt=>t.fin λy=>match y with
 |.inl s=>FN .normal (S s) e [] st
 |.inr x=>Zm (ex x)=false/\FN (ex x) (so x) e [] st
def qjw(m:Nat)(S:σ->aF)(ex:X->Exit)(so:X->aF):Exit->Tr (σ⊕X)->aF->Prop:=λe t st=>t.go λt=>t.fin λy=>match y with
 |.inl s=>qjv m .normal (S s) e [] st
 |.inr x=>Zm (ex x)=false/\qjv m (ex x) (so x) e [] st
theorem qfu(hf:P.follows .mixedOrders=true){S:σ->aF}{ex:X->Exit}{so:X->aF}{o:Option (σ⊕X)}{y:σ⊕X}(h:o=some y){t:Tr (σ⊕X)}{F:Prop}(z:PV (LB S ex so) o t F)(he:F=Fy P GE A m c t st (KB S ex so)):d6 P GE m c (LQ S ex so y) st:=by
 have hF:=z.2 λr=>by
  cases r with
  |inl s=>exact⟨rfl,St.ok _⟩
  |inr x=>exact⟨rfl,rfl,St.ok _⟩
 rw[he]at hF
 refine(gr hf c t st _ (z.1.trans h) hF).mono λe st' hx=>?_
 obtain⟨t',v',hx⟩:=hx
 obtain⟨t2,v2,hx⟩:=Tr.go_ok v' hx
 have hx:=Te v2 hx
 cases y with
 |inl s=>exact⟨S s,hx.2.weak,hx.1.symm,rfl⟩
 |inr x=>exact⟨so x,hx.2.2.weak,by rw[<-hx.2.1];exact Zn hx.1,hx.2.1.symm,rfl⟩
theorem qdX(hf:P.follows .mixedOrders=true){S:σ->aF}{ex:X->Exit}{so:X->aF}{o:Option (σ⊕X)}{y:σ⊕X}(h:o=some y){t:Tr (σ⊕X)}{F:Prop}(z:PV (λ_=>True) o t F)(he:F=Fy P GE A m c t st (qjw m S ex so)):d6 P GE m c (LQ S ex so y) st:=by
 have hF:=z.2 λr=>trivial
 rw[he]at hF
 refine(gr hf c t st _ (z.1.trans h) hF).mono λe st' hx=>?_
 obtain⟨t',v',hx⟩:=hx
 obtain⟨t2,v2,hx⟩:=Tr.go_ok v' hx
 have hx:=Te v2 hx
 cases y with
 |inl s=>exact⟨S s,hx.2.weak,hx.1.symm,rfl⟩
 |inr x=>exact⟨so x,hx.2.2.weak,by rw[<-hx.2.1];exact Zn hx.1,hx.2.1.symm,rfl⟩
theorem ZL{S:σ->aF}{ex:X->Exit}{so:X->aF}{body:σ->Option (σ⊕X)}{s:σ}{x:X}(h:loop body s=some x)(hb:∀s y,body s=some y->d6 P GE m c (LQ S ex so y) (S s)){st s1:aF}{e:Exit}(h1:st=S s:=by rfl)(h2:e=ex x:=by rfl)(h3:s1=so x:=by rfl):d6 P GE m (.loop c) (EX e s1) st:=by
 subst h1 h2 h3
 exact d6.loop h hb
end
class K0 (p:PVal):Prop where h:p.cl 0
class K0l (l:List PVal):Prop where h:iG 0 l
class KE {α:Type} (c:α->List PVal):Prop where h:∀x,iG 0 (c x)
class LTc (i n:Nat):Prop where h:i<n
class ATc (ρ:List Nat) (i:Nat) (j:outParam Nat):Prop where h:ρ[i]? =some j
instance iq1{n:Nat}:LTc 0 (n+1):=⟨by omega⟩
instance iq2{i n:Nat}[q:LTc i n]:LTc (i+1) (n+1):=⟨by have:=q.h;omega⟩
instance iq3{j:Nat}{ρ:List Nat}:ATc (j::ρ) 0 j:=⟨rfl⟩
instance iq4{i j k:Nat}{ρ:List Nat}[q:ATc ρ i j]:ATc (k::ρ) (i+1) j:=⟨by simpa using q.h⟩
instance iq6{k:IntKind}{n:Int}:K0 (.int k n):=⟨vzz⟩
instance iq7{b:Bool}:K0 (.bool b):=⟨vzz⟩
instance iq8{s:ah}:K0 (.str s):=⟨vzz⟩
instance iq9{v:Value}:K0 (.val v):=⟨vzz⟩
instance iq10{l:List PVal}[q:K0l l]:K0 (.agg l):=⟨q.h⟩
instance iq11{l:List PVal}[q:K0l l]:K0 (.tuple l):=⟨q.h⟩
instance iq12{l:List PVal}[q:K0l l]:K0 (.eptr l):=⟨q.h⟩
instance iq13{fn:Fn}{f c:List PVal}[q:K0l f][q':K0l c]:K0 (.func fn f c):=⟨⟨q.h,q'.h⟩⟩
instance iq14:K0l []:=⟨vzz⟩
instance iq15{p:PVal}{l:List PVal}[q:K0 p][q':K0l l]:K0l (p::l):=⟨⟨q.h,q'.h⟩⟩
instance iq16{α:Type}{c:α->List PVal}{l:List α}[q:KE c]:K0 (sl c l):=⟨aU q.h l⟩
instance iq18{k:IntKind}:KE (cI k):=⟨Sn k⟩
instance iq20:KE cS:=⟨Mf⟩
instance iq22{α:Type}{c:α->List PVal}{l:List α}[q:KE c]:K0l (cL c l):=⟨qiW q.h l⟩
class KC (n:Nat) (p:PVal):Prop where h:p.cl n
class KCl (n:Nat) (l:List PVal):Prop where h:iG n l
class KCb (n:Nat) (B:aB):Prop where h:qdZ n B
class KCs (n:Nat) (H:List aB):Prop where h:QW n H
instance iq29{n:Nat}{p:PVal}[q:K0 p]:KC n p:=⟨up q.h⟩
instance iq30{n i off:Nat}[q:LTc i n]:KC n (.bptr i off):=⟨by simp only[PVal.cl];exact q.h⟩
instance iq33{n i:Nat}{T:TypeId}[q:LTc i n]:KC n (.nptr i T):=⟨by simp only[PVal.cl];exact q.h⟩
instance iq35{n:Nat}{l:List PVal}[q:KCl n l]:KC n (.tuple l):=⟨q.h⟩
instance iq37{n:Nat}{fn:Fn}{f c:List PVal}[q:KCl n f][q':KCl n c]:KC n (.func fn f c):=⟨⟨q.h,q'.h⟩⟩
instance iq39{n:Nat}:KCl n []:=⟨vzz⟩
instance iq40{n:Nat}{p:PVal}{l:List PVal}[q:KC n p][q':KCl n l]:KCl n (p::l):=⟨⟨q.h,q'.h⟩⟩
instance iq42{n:Nat}{cs:List PVal}{own:List (Nat×TypeId)}[q:KCl n cs]:KCb n (.cells cs own):=⟨q.h⟩
instance iq45{n:Nat}:KCs n []:=⟨vzz⟩
instance iq46{n:Nat}{B:aB}{H:List aB}[q:KCb n B][q':KCs n H]:KCs n (B::H):=⟨⟨q.h,q'.h⟩⟩
class RXc (ρ:List Nat) (q:PVal) (p:outParam PVal):Prop where h:Bg ρ p q
class RXl (ρ:List Nat) (q:List PVal) (p:outParam (List PVal)):Prop where h:Fs ρ p q
class RXb (ρ:List Nat) (q:aB) (p:outParam aB):Prop where h:Um ρ p q
class RXs (ρ:List Nat) (q:List aB) (p:outParam (List aB)):Prop where h:wT ρ p q
instance iq47{ρ:List Nat}{p:PVal}[q:K0 p]:RXc ρ p p:=⟨xR ρ p q.h⟩
instance iq48{ρ:List Nat}{i j off:Nat}[q:ATc ρ i j]:RXc ρ (.bptr i off) (.bptr j off):=⟨xB ρ i j off q.h⟩
instance iq50{ρ:List Nat}{i j:Nat}{T:TypeId}[q:ATc ρ i j]:RXc ρ (.nptr i T) (.nptr j T):=⟨xN ρ i j T q.h⟩
instance iq52{ρ:List Nat}{fn:Fn}{f c f' c':List PVal}[q:RXl ρ f f'][q':RXl ρ c c']:RXc ρ (.func fn f c) (.func fn f' c'):=⟨xF ρ fn f' c' f c q.h q'.h⟩
instance iq53{ρ:List Nat}{l l':List PVal}[q:RXl ρ l l']:RXc ρ (.agg l) (.agg l'):=⟨xA ρ l' l q.h⟩
instance iq54{ρ:List Nat}{l:List PVal}[q:K0l l]:RXl ρ l l:=⟨qj6 ρ l q.h⟩
instance iq55{ρ:List Nat}:RXl ρ [] []:=⟨vzz⟩
instance iq56{ρ:List Nat}{p p':PVal}{l l':List PVal}[q:RXc ρ p p'][q':RXl ρ l l']:RXl ρ (p::l) (p'::l'):=⟨⟨q.h,q'.h⟩⟩
instance iq57{ρ:List Nat}{cs cs':List PVal}{own:List (Nat×TypeId)}[q:RXl ρ cs cs']:RXb ρ (.cells cs own) (.cells cs' own):=⟨⟨rfl,q.h⟩⟩
instance iq59{ρ:List Nat}:RXs ρ [] []:=⟨vzz⟩
instance iq60{ρ:List Nat}{B B':aB}{H H':List aB}[q:RXb ρ B B'][q':RXs ρ H H']:RXs ρ (B::H) (B'::H'):=⟨⟨q.h,q'.h⟩⟩
def HI(ρ:List Nat):List aB->List aB->Prop
 |[],[]=>True
 |B::Bs,Bc::Hc=>(B=B/\Um ρ B Bc)/\HI ρ Bs Hc
 |_,_=>False
theorem HI.of{ρ:List Nat}:∀{Bs Hc:List aB},wT ρ Bs Hc->HI ρ Bs Hc
 |[],[],_=>trivial
 |[],_::_,h=>h.elim
 |_::_,[],h=>h.elim
 |_::_,_::_,h=>⟨⟨rfl,h.1⟩,HI.of h.2⟩
section
variable{R:Type}{Lf:R->Prop}{oo:Option R}{tr:Tr R}{F:Prop}{P:Program}{GE:List (Nat×List PVal)}
theorem tc(ρ:List Nat){g:FuncId}{args argsC:List PVal}{Bs Hc Bs' Hc':List aB}{r rc:PVal}{ro:List (Nat×TypeId)}(ok:C P GE g argsC [] Hc rc ro Hc')[q1:RXl ρ argsC args][q2:RXs ρ Hc Bs][q3:RXs ρ Hc' Bs'][q4:RXc ρ rc r](z:PV Lf oo tr F):PV Lf oo (.it (.cg ⟨ρ,argsC,[],Bs,Hc,Bs',Hc',r,rc,ro⟩) tr) (C P GE g argsC [] Hc rc ro Hc'/\Fs ρ args argsC/\HI ρ Bs Hc/\wT ρ Bs' Hc'/\Bg ρ r rc/\F):=
 ⟨z.1,λq=>⟨ok,q1.h,.of q2.h,q3.h,q4.h,z.2 q⟩⟩
theorem qjY(ρ:List Nat){g:FuncId}{args argsC:List PVal}{Bs Hc Hc':List aB}{r rc:PVal}{ro:List (Nat×TypeId)}(ok:C P GE g argsC [] Hc rc ro Hc')[q1:RXl ρ argsC args][q2:RXs ρ Hc Bs][q3:RXs ρ Hc' Bs][q4:RXc ρ rc r](z:PV Lf oo tr F):PV Lf oo (.it (.cg ⟨ρ,argsC,[],Bs,Hc,Bs,Hc',r,rc,ro⟩) tr) (Bs=Bs/\C P GE g argsC [] Hc rc ro Hc'/\Fs ρ args argsC/\HI ρ Bs Hc/\wT ρ Bs Hc'/\Bg ρ r rc/\F):=
 ⟨z.1,λq=>⟨rfl,ok,q1.h,.of q2.h,q3.h,q4.h,z.2 q⟩⟩
end
class KS (m:Nat) (s:aF):Prop where h:decide (m % 1000<=s.boxes.length)=true/\iG s.boxes.length s.tmps/\QW s.boxes.length s.boxes
def qdr(m:Nat)(s:aF):Prop:=s.tmps=s.tmps/\s.boxes=s.boxes/\true=true/\decide (m % 1000<=s.boxes.length)=true/\iG s.boxes.length s.tmps/\QW s.boxes.length s.boxes
theorem KS.f{m:Nat}{s:aF}(q:KS m s):qdr m s:=⟨rfl,rfl,rfl,q.h⟩
def qkN(m:Nat){σ X:Type}(S:σ->aF)(ex:X->Exit)(so:X->aF):σ⊕X->Prop
 |.inl s=>Exit.normal=Exit.normal/\qdr m (S s)
 |.inr x=>false=false/\ex x=ex x/\qdr m (so x)
def qeX(P:Program)(GE:List (Nat×List PVal))(f:FuncId)(args:List PVal){R:Type}(o:Option R)(res:R->PVal)(ro:List (Nat×TypeId)):Prop:=∀r:R,o=some r->CC P GE f args (res r) ro
def qgh(P:Program)(GE:List (Nat×List PVal))(f:FuncId)(args:List PVal)(oa:List ((Nat×Nat)×TypeId))(H:List aB){R:Type}(o:Option R)(res:R->PVal)(ro:List (Nat×TypeId))(H':R->List aB):Prop:=∀r:R,o=some r->C P GE f args oa H (res r) ro (H' r)
def qhw(P:Program)(GE:List (Nat×List PVal))(m:Nat)(c:Code){X:Type}(o:Option X)(e:Exit)(so:X->aF)(st:aF):Prop:=∀x:X,o=some x->d6 P GE m c (EX e (so x)) st
def qhx(P:Program)(GE:List (Nat×List PVal))(m:Nat)(c:Code){X:Type}(o:Option X)(ex:X->Exit)(so:X->aF)(st:aF):Prop:=∀x:X,o=some x->d6 P GE m c (EX (ex x) (so x)) st
def qeW(P:Program)(GE:List (Nat×List PVal))(m:Nat)(c:Code){σ X:Type}(o:Option (σ⊕X))(S:σ->aF)(ex:X->Exit)(so:X->aF)(st:aF):Prop:=∀y:σ⊕X,o=some y->d6 P GE m c (LQ S ex so y) st
def ZF(P:Program)(A:List Nat)(f:FuncId)(fn:Func)(c:Code):Prop:=(∀vs w,(callFunc f vs).run P w=.ok (.enter f vs) w)/\P.funcs[f]? =some fn/\fn.body=some c/\P.follows .mixedOrders=true/\A=A
section
variable{P:Program}{GE:List (Nat×List PVal)}{A:List Nat}{f:FuncId}{fn:Func}{c:Code}{args:List PVal}{ro:List (Nat×TypeId)}{R:Type}{res:R->PVal}{o:Option R}{t:Tr R}{F:Prop}
theorem zf(h1:∀vs w,(callFunc f vs).run P w=.ok (.enter f vs) w)(h2:P.funcs[f]? =some fn)(h3:fn.body=some c)(h4:P.follows .mixedOrders=true):ZF P A f fn c:=⟨h1,h2,h3,h4,rfl⟩
theorem IJ(h:∀r,o=some r->CC P GE f args (res r) ro):qeX P GE f args o res ro:=h
def LV(res:R->PVal)(r:R):Prop:=res r=res r/\(res r).cl 0
def qkO(res:R->PVal)(r:R):Prop:=res r=res r/\(res r).cl 0/\(res r).isAgg=true
def KV(P:Program)(rs:List ResultVar)(res:R->PVal)(ro:List (Nat×TypeId)):Exit->Tr R->aF->Prop:=λe t st=>t.go λt=>t.fin λr=>FR P rs (res r) ro e [] st
theorem KV.at{r:R}{rs:List ResultVar}{e:Exit}{st:aF}(hv:t.val=some r)(h:KV P rs res ro e t st):FR P rs (res r) ro e [] st:=by
 obtain⟨t',v',h⟩:=Tr.go_ok hv h
 exact Te (K:=λr=>FR P rs (res r) ro e [] st) v' h
theorem ZF.v0(g:ZF P A f fn c)(ha:iG 0 args)(hv:t.val=o)(hF:Fy P GE A 0 c t ⟨args++List.replicate (fn.ntmps - args.length) .undef,[],[]⟩ (KV P fn.results.toList res ro)):qeX P GE f args o res ro:=λ_ h=>
 ⟨ha,C.ofSat g.1 g.2.1 g.2.2.1 ((gr g.2.2.2.1 c t _ _ (hv.trans h) hF).imp λe st hx=>by obtain⟨t',v',hx⟩:=hx;exact(KV.at v' hx).to)⟩
theorem ZF.v(g:ZF P A f fn c)[ha:K0l args](z:PV (LV res) o t F)[hr:∀r,K0 (res r)](he:F=Fy P GE A 0 c t ⟨args++List.replicate (fn.ntmps - args.length) .undef,[],[]⟩ (KV P fn.results.toList res ro):=by kernel_rfl):qeX P GE f args o res ro:=
 ZF.v0 g ha.h z.1 (he▸z.2 λr=>⟨rfl,(hr r).h⟩)
theorem ZF.va(g:ZF P A f fn c)[ha:K0l args](z:PV (qkO res) o t F)[hr:∀r,K0 (res r)](hg:∀r,(res r).isAgg=true:=by intro r;rfl)(he:F=Fy P GE A 0 c t ⟨args++List.replicate (fn.ntmps - args.length) .undef,[],[]⟩ (KV P fn.results.toList res ro):=by kernel_rfl):qeX P GE f args o res ro:=
 ZF.v0 g ha.h z.1 (he▸z.2 λr=>⟨rfl,(hr r).h,hg r⟩)
variable{H:List aB}{H':R->List aB}{oa:List ((Nat×Nat)×TypeId)}{m:Nat}
theorem Ug(h:∀r,o=some r->C P GE f args oa H (res r) ro (H' r)):qgh P GE f args oa H o res ro H':=h
def LG(res:R->PVal)(H':R->List aB)(n:Nat)(r:R):Prop:=res r=res r/\(res r).cl n/\H' r=H' r/\QW n (H' r)
def KG(P:Program)(rs:List ResultVar)(res:R->PVal)(ro:List (Nat×TypeId))(H':R->List aB):Exit->Tr R->aF->Prop:=λe t st=>t.go λt=>t.fin λr=>qeI P rs (res r) ro (H' r) e [] st
theorem KG.at{r:R}{rs:List ResultVar}{e:Exit}{st:aF}(hv:t.val=some r)(h:KG P rs res ro H' e t st):qeI P rs (res r) ro (H' r) e [] st:=by
 obtain⟨t',v',h⟩:=Tr.go_ok hv h
 exact Te (K:=λr=>qeI P rs (res r) ro (H' r) e [] st) v' h
theorem ZF.g0(g:ZF P A f fn c)(hm:∀r,(decide (m % 1000=H.length)&&decide (m≠0)&&decide ((H' r).length=H.length))=true)(hv:t.val=o)(hF:Fy P GE A m c t ⟨args++List.replicate (fn.ntmps - args.length) .undef,H,oa⟩ (KG P fn.results.toList res ro H')):qgh P GE f args oa H o res ro H':=by
 intro r h
 have hm:=hm r
 simp only[vaf,var]at hm
 exact C.ofSatG hm.1.1 hm.1.2 g.1 g.2.1 g.2.2.1 hm.2 ((gr g.2.2.2.1 c t _ _ (hv.trans h) hF).imp λe st hx=>by obtain⟨t',v',hx⟩:=hx;exact(KG.at v' hx).to)
theorem ZF.g(g:ZF P A f fn c)(n:Nat)(z:PV (LG res H' n) o t F)[hr:∀r,KC n (res r)][hb:∀r,KCs n (H' r)](hm:∀r,(decide (n % 1000=H.length)&&decide (n≠0)&&decide ((H' r).length=H.length))=true:=by intro r;rfl)(he:F=Fy P GE A n c t ⟨args++List.replicate (fn.ntmps - args.length) .undef,H,oa⟩ (KG P fn.results.toList res ro H'):=by kernel_rfl):qgh P GE f args oa H o res ro H':=
 ZF.g0 g hm z.1 (he▸z.2 λr=>⟨rfl,(hr r).h,rfl,(hb r).h⟩)
end
section
variable{P:Program}{GE:List (Nat×List PVal)}{A:List Nat}{f:FuncId}{fn:Func}{c0 c:Code}{m:Nat}{st:aF}{X σ:Type}{S:σ->aF}{ex:X->Exit}{so:X->aF}{F:Prop}
theorem ZF.k(g:ZF P A f fn c0){o:Option X}{t:Tr X}(z:PV (LJ ex so) o t F)(he:F=Fy P GE A m c t st (KJ ex so):=by kernel_rfl):qhx P GE m c o ex so st:=λ_ h=>qae g.2.2.2.1 h z he
theorem ZF.j(g:ZF P A f fn c0){e:Exit}{o:Option X}{t:Tr X}(z:PV (LJ (λ_=>e) so) o t F)(he:F=Fy P GE A m c t st (KJ (λ_=>e) so):=by kernel_rfl):qhw P GE m c o e so st:=λ_ h=>qae (ex:=λ_=>e) g.2.2.2.1 h z he
theorem ZF.l(g:ZF P A f fn c0){o:Option (σ⊕X)}{t:Tr (σ⊕X)}(z:PV (LB S ex so) o t F)(he:F=Fy P GE A m c t st (KB S ex so):=by kernel_rfl):qeW P GE m c o S ex so st:=λ_ h=>qfu g.2.2.2.1 h z he
theorem ZF.lx(g:ZF P A f fn c0){o:Option (σ⊕X)}{t:Tr (σ⊕X)}(z:PV (qkN m S ex so) o t F)[q:∀s,KS m (S s)][q':∀x,KS m (so x)](he:F=Fy P GE A m c t st (qjw m S ex so):=by kernel_rfl):qeW P GE m c o S ex so st:=λ_ h=>qdX g.2.2.2.1 h ⟨z.1,λ_=>z.2 λy=>match y with
 |.inl s=>⟨rfl,(q s).f⟩
 |.inr x=>⟨rfl,rfl,(q' x).f⟩⟩ he
theorem FA{body:σ->Option (σ⊕X)}{s:σ}(hb:∀s,qeW P GE m c (body s) S ex so (S s))(h1:st=S s:=by rfl):qhx P GE m (.loop c) (loop body s) ex so st:=λ_ h=>ZL (h1:=h1) h λs y hy=>hb s y hy
theorem Ke{e:Exit}{body:σ->Option (σ⊕X)}{s:σ}(hb:∀s,qeW P GE m c (body s) S (λ_=>e) so (S s))(h1:st=S s:=by rfl):qhw P GE m (.loop c) (loop body s) e so st:=λ_ h=>ZL (ex:=λ_=>e) (h1:=h1) h λs y hy=>hb s y hy
end
end Go.Proofs.YtibglelmlnfojaaGreatDoor
