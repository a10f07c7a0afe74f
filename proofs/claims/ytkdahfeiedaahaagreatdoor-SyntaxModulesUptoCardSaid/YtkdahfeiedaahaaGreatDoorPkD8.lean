/- PROVED: a part of the proof. Conditions: none. -/
import Derived.Test.YtkdahfeiedaahaaGreatDoorPkD7
import Derived.LaidLaws
import Derived.Test.YtkdahfeiedaahaaGreatDoorRows
import Derived.Test.YtkdahfeiedaahaaGreatDoorPkD3
import Derived.Shelf.SlicesE.Clone
noncomputable section
namespace Go.Proofs.YtkdahfeiedaahaaGreatDoor
open Go Go.RowKit Go.WideShapes Go.ChangeShapes Go.ChangeAt
section
variable{P:Program}{W:World}
theorem LB:∀{laid:List (String×DataW Unit)} {ps:List MemPlace} {name:String} {d:DataW Unit},DataW.LaidVars P W laid ps->(name,d)∈laid->
  ∃g t cs fuel p,P.globalNamed name=some g/\(P.globals[g]?).map (·.type)=some t/\W.var? P name=some cs/\DataW.trod (fun _=>()) P W 0 (fun _=>true) false fuel t cs.toList=some (d,p)
 |[],_,_,_,_,hm=>by cases hm
 |(n,d')::r,ps,name,d,⟨g,t,cs,fuel,p,q,h1,h2,h3,h4,h5,_⟩,hm=>by
  cases hm with
  |head=>exact⟨g,t,cs,fuel,p,h1,h2,h3,h4⟩
  |tail _ hm=>exact LB h5 hm
theorem Q7{name:String}{g:Nat}{cs:Array Value}(hg:P.globalNamed name=some g)(h:W.var? P name=some cs):∃t fr,W.heap[g]? =some (.cells cs t fr):=by
 unfold World.var? at h
 rw[hg]at h
 simp only[vab]at h
 split at h
 ·rename_i c t fr hh
  cases h
  exact⟨t,fr,hh⟩
 ·cases h
def Pw{H:Type}(l:List ae):DataW H:=.agg (l.map fun s=>.lit (.string s))
theorem MT{H:Type}{enc:TypeId×Value->H}{base:Nat}{sp:Nat->Bool}{held:Bool}{fuel:Nat}{t e:TypeId}{n:Nat}{cs:List Value}{zs:List ae}{p:List MemPlace}
  (ht:P.underlying t=some (.array n e)) (he:P.underlying e=some .string) (hce:P.cellsOf e=1) (hct:P.cellsOf t=n)
  (h:DataW.trod enc P W base sp held fuel t cs=some (Pw zs,p)):cs=zs.map fun z=>Value.string ⟨z.toArray⟩:=by
 cases fuel with
 |zero=>simp[DataW.trod]at h
 | succ fuel =>
  simp only[DataW.trod,ht,hce,hct,vbT]at h
  split at h
  ·rename_i hl
   obtain⟨xs,hm,hx⟩:=vaS.1 h
   have hxs:xs.map (·.1)=zs.map fun z=>(DataW.lit (.string z):DataW H):=by
    have:=va6 Prod.fst hx
    simpa[Pw]using this
   have hxl:xs.length=n:=by simpa using Lib.mapM_length hm
   have hzl:zs.length=n:=by
    have:=va6 List.length hxs
    simp at this
    omega
   apply va2
   intro i
   by_cases hi:i<n
   ·obtain⟨b,hb,hf⟩:=Lib.mapM_at hm i i (by simp[hi])
    obtain⟨z,hc,rfl,_⟩:=DataW.trod_string he hf
    have h1:cs[i]? =some (.string z):=by
     have:=va6 (·[0]?) hc
     simpa[List.getElem?_take,vbc]using this
    have h2:(xs.map (·.1))[i]? =some (DataW.lit (.string z.data.toList):DataW H):=by simp[hb]
    rw[hxs]at h2
    simp only[var,vaS,DataW.lit.injEq,Lit.string.injEq]at h2
    obtain⟨z',hz',h3⟩:=h2
    simp only[h1,var,hz',vag,h3]
   ·rw[vaE (by omega),vaE (by simp;omega)]
  ·cases h
theorem UO{x:Nat}{pv:List PVal}{cs:Array Value}{t:TypeId}{fr:Nat×Nat}(hh:W.heap[x]? =some (.cells cs t fr))(hcl:jl 0 pv)(hs:cs.size=pv.length)(hv:∀(i:Nat) p v,pv[i]? =some p->cs[i]? =some v->VR (Aj W) [] W p v):YE W (x,pv):=
 ⟨hcl,cs,t,fr,hh,hs,hv⟩
theorem Lt{laid:List (String×DataW Unit)}{name:String}{d:DataW Unit}{g:Nat}{t e:TypeId}{n:Nat}{k:IntKind}{zs:List Int}(hL:laidMet P laid W)(hm:(name,d)∈laid)(hd:d=Lib.tabData k zs)
  (hg:P.globalNamed name=some g) (hty:(P.globals[g]?).map (·.type)=some t) (ht:P.underlying t=some (.array n e)) (he:P.underlying e=some (.int k)) (hce:P.cellsOf e=1) (hct:P.cellsOf t=n):YE W (g,zs.map (PVal.int k)):=by
 obtain⟨ps,hV,_⟩:=hL
 obtain⟨g',t',cs,fuel,p,h1,h2,h3,h4⟩:=LB hV hm
 obtain rfl:=vbj (hg.symm.trans h1)
 obtain rfl:=vbj (hty.symm.trans h2)
 subst hd
 have hc:=Lib.cells_of_tab ht he hce hct h4
 obtain⟨ty,fr,hh⟩:=Q7 hg h3
 refine UO hh (Ro fun q hq=>?_) (by simpa using va6 List.length hc) (fun i q v hq hv=>?_)
 ·obtain⟨z,_,rfl⟩:=vah.1 hq
  simp[PVal.cl]
 ·rw[<-vaH,hc]at hv
  simp only[var,vaS]at hq hv
  obtain⟨z,hz,rfl⟩:=hq
  obtain⟨z',hz',rfl⟩:=hv
  cases hz.symm.trans hz'
  exact .int _ _
theorem UP{laid:List (String×DataW Unit)}{name:String}{d:DataW Unit}{g:Nat}{t e:TypeId}{n:Nat}{zs:List ae}(hL:laidMet P laid W)(hm:(name,d)∈laid)(hd:d=Pw zs)
  (hg:P.globalNamed name=some g) (hty:(P.globals[g]?).map (·.type)=some t) (ht:P.underlying t=some (.array n e)) (he:P.underlying e=some .string) (hce:P.cellsOf e=1) (hct:P.cellsOf t=n):YE W (g,zs.map PVal.str):=by
 obtain⟨ps,hV,_⟩:=hL
 obtain⟨g',t',cs,fuel,p,h1,h2,h3,h4⟩:=LB hV hm
 obtain rfl:=vbj (hg.symm.trans h1)
 obtain rfl:=vbj (hty.symm.trans h2)
 subst hd
 have hc:=MT ht he hce hct h4
 obtain⟨ty,fr,hh⟩:=Q7 hg h3
 refine UO hh (Ro fun q hq=>?_) (by simpa using va6 List.length hc) (fun i q v hq hv=>?_)
 ·obtain⟨z,_,rfl⟩:=vah.1 hq
  simp[PVal.cl]
 ·rw[<-vaH,hc]at hv
  simp only[var,vaS]at hq hv
  obtain⟨z,hz,rfl⟩:=hq
  obtain⟨z',hz',rfl⟩:=hv
  cases hz.symm.trans hz'
  exact .str _
end
def Ze(w:World)(l:List (Nat×Array Value)):World:={w with heap:=l.foldl (fun h x=>h.modify x.1 fun|.cells _ t fr=>.cells x.2 t fr|o=>o) w.heap}
def qcU:PVal->Value
 |.int k n=>.int k n
 |.str s=>.string ⟨s.toArray⟩
 |.bool b=>.bool b
 |_=>undef
def Yf(l:List (Nat×List PVal)):List (Nat×Array Value):=l.map fun x=>(x.1,(x.2.map qcU).toArray)
set_option linter.unusedVariables false
mutual
def pm:PVal->Nat
 |.str s=>s.length+1
 |.slice es=>cN es+1
 |.int _ _=>1
 |.bool _=>1
 |_=>0
def jM:List PVal->Nat
 |[]=>0
 |p::l=>pm p+jM l
def cN:List (List PVal)->Nat
 |[]=>0
 |x::r=>jM x+cN r
end
theorem sJ:∀(a b:List PVal),jM (a++b)=jM a+jM b
 |[],b=>by simp[jM]
 |p::a,b=>by simp only[vaF,jM,sJ a b];omega
def qau(P:Program)(S:TypeId->List PVal->Prop):List Field->List PVal->Prop
 |[],l=>l=[]
 |f::fs,l=>∃a b,l=a++b/\a.length=P.cellsOf f.type/\S f.type a/\qau P S fs b
def Sh(P:Program):Nat->TypeId->List PVal->Prop
 |0,_,_=>False
 |n+1,t,l=>match P.underlying t with
  |some .bool=>∃b,l=[.bool b]
  |some (.int k)=>∃i,l=[.int k i]/\(Lit.int k i).wf=true
  |some .string=>∃s:ae,l=[.str s]/\s.length<=maxLen
  |some (.slice e)=>∃es,l=[.slice es]/\es.length<=maxLen/\∀x∈es,Sh P n e x
  |some (.struct fs)=>qau P (Sh P n) fs.toList l
  |_=>True
def Dp(P:Program):Nat->List Field->Nat->Bool
 |o,[],n=>decide (o=n)
 |o,f::fs,n=>decide (f.offset=o)&&Dp P (o+P.cellsOf f.type) fs n
theorem Sz{α:Type}{Q:Nat->α->Prop}:∀{n:Nat},(∀i,i<n->∃x,Q i x)->∃l:List α,l.length=n/\∀(i:Nat) x,l[i]? =some x->Q i x
 |0,_=>⟨[],rfl,fun i x h=>by simp at h⟩
 | n + 1,h => by
  obtain⟨l,hl,hq⟩:=Sz (n:=n) fun i hi=>h i (by omega)
  obtain⟨x,hx⟩:=h n (by omega)
  refine⟨l++[x],by simp[hl],fun i y hy=>?_⟩
  by_cases hi:i<l.length
  ·rw[vac hi]at hy;exact hq i y hy
  ·have hlt:=aq hy
   simp at hlt
   have:i=l.length:=by omega
   subst this
   rw[vaf (vam _)]at hy
   simp at hy;subst hy;rw[hl];exact hx
theorem Sk{H:Type}:∀{es:List (List PVal)} {ds:List (DataW H)},es.length=ds.length->(∀(i:Nat) x d,es[i]? =some x->ds[i]? =some d->jM x<=Rows.uptoBulk d)->cN es<=Rows.uptoBulkAll ds
 |[],[],_,_=>by simp[cN,Rows.uptoBulkAll]
 |x::es,d::ds,hl,h=>by
  have h1:=h 0 x d rfl rfl
  have h2:=Sk (es:=es) (ds:=ds) (by simpa using hl) fun i x d hx hd=>h (i+1) x d (by simpa using hx) (by simpa using hd)
  simp only[cN,Rows.uptoBulkAll];omega
section
variable{H:Type}{enc:TypeId×Value->H}{P:Program}{W:World}{base:Nat}{sp:Nat->Bool}{held:Bool}
def YF(P:Program)(W:World)(n:Nat)(t:TypeId)(cs:List Value)(b:Nat):Prop:=
 ∃l:List PVal,l.length=cs.length/\(∀(i:Nat) p v,l[i]? =some p->cs[i]? =some v->VR (Aj W) [] W p v)/\Sh P n t l/\jM l<=b
theorem YF.one{n:Nat}{t:TypeId}{p:PVal}{v:Value}{b:Nat}(h:VR (Aj W) [] W p v)(hs:Sh P n t [p])(hb:pm p<=b):YF P W n t [v] b:=
 ⟨[p],rfl,fun i q u hq hu=>by
  cases i with
  |zero=>simp at hq hu;subst hq;subst hu;exact h
  |succ i=>simp at hq,hs,by simp only[jM];omega⟩
theorem NI{L:List TypeId}{fuel:Nat}(ih:∀(t:TypeId),t∈L->∀(cs:List Value) (d:DataW H) (p:List MemPlace),DataW.trod enc P W base sp held fuel t cs=some (d,p)->YF P W fuel t cs (Rows.uptoBulk d)){cs:List Value}:∀{fs:List Field} {o n:Nat} {xs:List (DataW H×List MemPlace)},(∀f∈fs,f.type∈L)->n<=cs.length->Dp P o fs n=true->fs.mapM (fun f=>DataW.trod enc P W base sp held fuel f.type ((cs.drop f.offset).take (P.cellsOf f.type)))=some xs->
   o<=n/\∃l:List PVal,l.length=n - o/\(∀(i:Nat) p v,l[i]? =some p->cs[o+i]? =some v->VR (Aj W) [] W p v)/\qau P (Sh P fuel) fs l/\jM l<=Rows.uptoBulkAll (xs.map (·.1))
 |[],o,n,xs,_,hn,hc,h=>by
  unfold Dp at hc
  have:o=n:=by simpa using hc
  subst this
  exact⟨vam _,[],by simp,fun i p v hp=>by simp at hp,rfl,by simp[jM]⟩
 | f :: fs,o,n,xs,hL,hn,hc,h => by
  unfold Dp at hc
  simp only[vad,vai]at hc
  obtain⟨hfo,hc⟩:=hc
  simp only[vbV,Option.bind_eq_bind,vbh,Option.pure_def,vat]at h
  obtain⟨⟨d,p⟩,hd,xs',hxs,rfl⟩:=h
  obtain⟨ho,l2,k1,k2,k3,k4⟩:=NI ih (fun g hg=>hL g (vaU _ hg)) hn hc hxs
  obtain⟨l1,q1,q2,q3,q4⟩:=ih _ (hL f (by simp)) _ _ _ hd
  have hl1:l1.length=P.cellsOf f.type:=by rw[q1,vbk,vbN,hfo];omega
  refine⟨by omega,l1++l2,by simp[hl1,k1];omega,fun i q v hq hv=>?_,⟨l1,l2,rfl,hl1,q3,k3⟩,by rw[sJ];simp only[vaD,Rows.uptoBulkAll];omega⟩
  by_cases hi:i<l1.length
  ·rw[vac hi]at hq
   refine q2 i q v hq ?_
   rw[vak (by omega),vbc,hfo]
   exact hv
  ·rw[vaf (by omega)]at hq
   refine k2 (i - l1.length) q v hq ?_
   rw[<-hv,hl1]
   congr 1
   rw[hl1]at hi
   omega
theorem WZ{fuel:Nat}{t:TypeId}{cs:List Value}{x:DataW H×List MemPlace}(ht:P.underlying t=some .bool)(h:DataW.trod enc P W base sp held (fuel+1) t cs=some x):∃b,cs=[.bool b]/\x.1=.lit (.bool b):=by
 unfold DataW.trod at h
 rw[ht]at h
 split at h<;>simp_all
 exact h▸rfl
theorem Yh{fuel:Nat}{t:TypeId}{cs:List Value}{k:IntKind}{x:DataW H×List MemPlace}(ht:P.underlying t=some (.int k))(h:DataW.trod enc P W base sp held (fuel+1) t cs=some x):∃n,cs=[.int k n]/\(Lit.int k n).wf=true/\x.1=.lit (.int k n):=by
 unfold DataW.trod at h
 rw[ht]at h
 cases cs with
 |nil=>simp at h
 | cons v r =>
  cases r with
  |cons _ _=>simp at h
  |nil=>
   cases v<;>simp at h
   obtain⟨⟨rfl,h1⟩,rfl⟩:=h
   exact⟨_,rfl,h1,rfl⟩
theorem Ub{fuel:Nat}{t:TypeId}{cs:List Value}{x:DataW H×List MemPlace}(ht:P.underlying t=some .string)(h:DataW.trod enc P W base sp held (fuel+1) t cs=some x):∃s:ByteArray,cs=[.string s]/\s.size<=maxLen/\x.1=.lit (.string s.data.toList):=by
 unfold DataW.trod at h
 rw[ht]at h
 split at h<;>simp_all
 exact h.2▸rfl
theorem VJ{fuel:Nat}{t e:TypeId}{cs:List Value}{x:DataW H×List MemPlace}(ht:P.underlying t=some (.slice e))(h:DataW.trod enc P W base sp held (fuel+1) t cs=some x):(cs=[.slice none 0 0]/\x.1=.nil)\/∃a len cap elems rest,cs=[.slice (some a) len cap]/\len<=cap/\cap<=maxLen/\x.1=.slice (elems.map (·.1)) rest/\
   (List.range len).mapM (fun i=>(W.cells? base (a.add (i * P.cellsOf e)) (P.cellsOf e)).bind (DataW.trod enc P W base sp held fuel e))=some elems:=by
 unfold DataW.trod at h
 rw[ht]at h
 cases cs with
 |nil=>simp at h
 | cons v r =>
  cases r with
  |cons _ _=>simp at h
  | nil =>
   cases v<;>try (simp at h;done)
   rename_i ad len cap
   cases ad with
   |none=>
    left
    match len,cap,h with
    |0,0,h=>simp at h;exact⟨rfl,h▸rfl⟩
    |0,c+1,h=>simp at h
    |n+1,c,h=>simp at h
   | some a =>
    right
    simp only at h
    split at h
    ·rename_i hc
     obtain⟨elems,h1,h2⟩:=vbh.1 h
     obtain⟨rest,h3,h4⟩:=vaS.1 h2
     exact⟨a,len,cap,elems,rest.map (·.1),rfl,hc.2.1,hc.2.2,by rw[<-h4],h1⟩
    ·cases h
theorem Uc{fuel:Nat}{t:TypeId}{cs:List Value}{fs:Array Field}{x:DataW H×List MemPlace}(ht:P.underlying t=some (.struct fs))(h:DataW.trod enc P W base sp held (fuel+1) t cs=some x):cs.length=P.cellsOf t/\∃xs,fs.toList.mapM (fun f=>DataW.trod enc P W base sp held fuel f.type ((cs.drop f.offset).take (P.cellsOf f.type)))=some xs/\x.1=.agg (xs.map (·.1)):=by
 unfold DataW.trod at h
 rw[ht]at h
 simp only at h
 split at h
 ·rename_i hl
  obtain⟨xs,h1,h2⟩:=vaS.1 h
  exact⟨hl,xs,h1,by rw[<-h2]⟩
 ·cases h
theorem PN(a:Addr):a.add 0=a:=by unfold Addr.add;simp
theorem T9{w:World}{a:Addr}{v:Value}(h:w.cell? a=some v):a.spot=none:=by
 unfold World.cell? at h
 split at h
 ·split at h
  ·cases h
  ·rename_i hs;simpa using hs
 ·cases h
structure SZ(P:Program)(L:List TypeId):Prop where
 st:∀t∈L,∀fs,P.underlying t=some (.struct fs)->Dp P 0 fs.toList (P.cellsOf t)=true/\∀f∈fs.toList,f.type∈L
 sl:∀t∈L,∀e,P.underlying t=some (.slice e)->0<P.cellsOf e/\e∈L
def UJ(P:Program)(L:List TypeId)(t:TypeId):Bool:=match P.underlying t with
 |some (.struct fs)=>Dp P 0 fs.toList (P.cellsOf t)&&fs.toList.all fun f=>L.contains f.type
 |some (.slice e)=>decide (0<P.cellsOf e)&&L.contains e
 |_=>true
theorem Wy{L:List TypeId}(h:L.all (UJ P L)=true):SZ P L:=by
 refine⟨fun t ht fs hu=>?_,fun t ht e hu=>?_⟩
 ·have:=vau.1 h t ht
  unfold UJ at this
  rw[hu]at this
  simp only[vad,vau,vcv]at this
  exact this
 ·have:=vau.1 h t ht
  unfold UJ at this
  rw[hu]at this
  simpa using this
theorem RE{L:List TypeId}(hF:SZ P L):∀(fuel:Nat) (t:TypeId),t∈L->∀(cs:List Value) (d:DataW H) (p:List MemPlace),DataW.trod enc P W base sp held fuel t cs=some (d,p)->YF P W fuel t cs (Rows.uptoBulk d)
 |0,t,_,cs,d,p,h=>by simp[DataW.trod]at h
 | fuel + 1,t,htL,cs,d,p,h => by
  have ih:=RE hF fuel
  have other:(∀l,Sh P (fuel+1) t l)->YF P W (fuel+1) t cs (Rows.uptoBulk d):=fun hs=>by
   refine⟨cs.map .val,by simp,fun i q v hq hv=>?_,hs _,?_⟩
   ·simp only[var,hv,vag,vat]at hq
    subst hq;exact .val v
   ·have:∀cs:List Value,jM (cs.map .val)=0:=by
     intro cs
     induction cs with
     |nil=>rfl
     |cons c cs ih=>simp only[vaD,jM,ih,pm]
    rw[this];exact va1 _
  cases hu:P.underlying t with
  |none=>exact other fun l=>by unfold Sh;rw[hu];trivial
  | some u =>
   cases u with
   |bool=>
    obtain⟨b,rfl,hx⟩:=WZ hu h
    simp only at hx;subst hx
    exact .one (.bool b) (by unfold Sh;rw[hu];exact⟨b,rfl⟩) (by simp[pm,Rows.uptoBulk])
   |int k=>
    obtain⟨n,rfl,hw,hx⟩:=Yh hu h
    simp only at hx;subst hx
    exact .one (.int k n) (by unfold Sh;rw[hu];exact⟨n,rfl,hw⟩) (by simp[pm,Rows.uptoBulk])
   |string=>
    obtain⟨s,rfl,hl,hx⟩:=Ub hu h
    simp only at hx;subst hx
    exact .one (.str s.data.toList) (by unfold Sh;rw[hu];exact⟨s.data.toList,rfl,by rw[Array.length_toList];exact hl⟩) (by simp[pm,Rows.uptoBulk])
   |struct fs=>
    obtain⟨hl,xs,hxs,hx⟩:=Uc hu h
    simp only at hx;subst hx
    obtain⟨_,l,k1,k2,k3,k4⟩:=NI ih (hF.st t htL fs hu).2 (by omega) (hF.st t htL fs hu).1 hxs
    refine⟨l,by omega,fun i q v hq hv=>k2 i q v hq (by rw[vaI];exact hv),by unfold Sh;rw[hu];exact k3,by simp only[Rows.uptoBulk];omega⟩
   | slice e =>
    obtain⟨hz,heL⟩:=hF.sl t htL e hu
    rcases VJ hu h with⟨rfl,hx⟩|⟨a,len,cap,elems,rest,rfl,hlc,hcm,hx,hm⟩
    ·simp only at hx;subst hx
     exact .one .sliceNil (by unfold Sh;rw[hu];exact⟨[],rfl,by simp,by simp⟩) (by simp[pm,cN,Rows.uptoBulk])
    simp only at hx;subst hx
    have hel:elems.length=len:=by simpa using Lib.mapM_length hm
    have hat:∀i,i<len->∃x:List PVal,∃ci y,elems[i]? =some y/\W.cells? base (a.add (i * P.cellsOf e)) (P.cellsOf e)=some ci/\x.length=ci.length/\(∀(k:Nat) q v,x[k]? =some q->ci[k]? =some v->VR (Aj W) [] W q v)/\Sh P fuel e x/\jM x<=Rows.uptoBulk y.1:=fun i hi=>by
     obtain⟨y,hy,hb⟩:=Lib.mapM_at hm i i (by simp[hi])
     obtain⟨ci,hci,hd⟩:=vbh.1 hb
     obtain⟨x,k1,k2,k3,k4⟩:=ih e heL ci y.1 y.2 hd
     exact⟨x,ci,y,hy,hci,k1,k2,k3,k4⟩
    obtain⟨es,hes,hq⟩:=Sz hat
    have hbulk:cN es<=Rows.uptoBulkAll (elems.map (·.1)):=Sk (by simp[hes,hel]) fun i x d hx hd=>by
     obtain⟨ci,y,hy,_,_,_,_,hle⟩:=hq i x hx
     simp only[var,hy,vag,vat]at hd
     subst hd;exact hle
    have hsh:Sh P (fuel+1) t [.slice es]:=by
     unfold Sh;rw[hu]
     refine⟨es,rfl,by omega,fun x hx=>?_⟩
     obtain⟨i,hi⟩:=vbd.1 hx
     obtain⟨_,_,_,_,_,_,hs,_⟩:=hq i x hi
     exact hs
    refine .one ?_ hsh (by simp only[pm,Rows.uptoBulk];omega)
    by_cases h0:len=0
    ·subst h0
     obtain rfl:es=[]:=vao hes
     exact .sliceE a cap
    ·have hcell:∀i,i<len->∀k,k<P.cellsOf e->∃(x:List PVal) (ci:List Value),es[i]? =some x/\W.cell? ((a.add (i * P.cellsOf e)).add k)=ci[k]?/\ci.length=P.cellsOf e/\x.length=ci.length/\(∀(k:Nat) q v,x[k]? =some q->ci[k]? =some v->VR (Aj W) [] W q v):=fun i hi k hk=>by
      have hx:es[i]? =some es[i]:=vaa (by omega)
      obtain⟨ci,y,hy,hc,hl,hv,_,_⟩:=hq i _ hx
      obtain⟨_,hcl,hcc⟩:=World.cells?_some hc
      exact⟨_,ci,hx,hcc k hk,hcl,hl,hv⟩
     have hspot:a.spot=none:=by
      obtain⟨x,ci,_,h2,h3,_,_⟩:=hcell 0 (by omega) 0 hz
      rw[vcJ,PN,PN,vaa (by omega)]at h2
      exact T9 h2
     obtain⟨ab,ao,asp⟩:=a
     simp only at hspot;subst hspot
     have hadd:∀i k,((⟨ab,ao,none⟩:Addr).add (i * P.cellsOf e)).add k=⟨ab,ao+i * P.cellsOf e+k,none⟩:=fun i k=>by
      rw[PM ⟨ab,ao,none⟩ _ rfl,PM _ _ rfl]
     have hcl:∀(i:Nat) x (k:Nat) q,es[i]? =some x->x[k]? =some q->∃v,W.cell? ⟨ab,ao+i * P.cellsOf e+k,none⟩=some v/\VR (Aj W) [] W q v:=fun i x k q hx hqk=>by
      have hi:i<len:=by have:=aq hx;omega
      obtain⟨ci,y,hy,hc,hl,hv,_,_⟩:=hq i x hx
      obtain⟨_,hcl,hcc⟩:=World.cells?_some hc
      have hk:k<P.cellsOf e:=by have:=aq hqk;omega
      have hck:ci[k]? =some ci[k]:=vaa (by omega)
      refine⟨ci[k],?_,hv k q _ hqk hck⟩
      rw[<-hadd,hcc k hk,hck]
     have hlen:∀(i:Nat) x,es[i]? =some x->x.length=P.cellsOf e:=fun i x hx=>by
      obtain⟨ci,y,hy,hc,hl,_,_,_⟩:=hq i x hx
      exact hl.trans (World.cells?_some hc).2.1
     obtain⟨c,ty,fr,hh⟩:∃c ty fr,W.heap[ab]? =some (.cells c ty fr):=by
      obtain⟨x,ci,h1,h2,h3,h4,_⟩:=hcell 0 (by omega) 0 hz
      rw[hadd,vaa (by omega)]at h2
      unfold World.cell? at h2
      split at h2
      ·rename_i c ty fr hh;exact⟨c,ty,fr,hh⟩
      ·cases h2
     have hin:ao+es.length * P.cellsOf e<=c.size:=by
      obtain⟨x,ci,h1,h2,h3,h4,_⟩:=hcell (len - 1) (by omega) (P.cellsOf e - 1) (by omega)
      rw[hadd,vaa (by omega),cell_of_row W _ _ c ty fr hh]at h2
      have:=(vae.1 h2).1
      have e1:(len - 1) * P.cellsOf e+P.cellsOf e=len * P.cellsOf e:=by
       have:len=(len - 1)+1:=by omega
       conv=>rhs;rw[this,vbe,vbQ]
      rw[hes];omega
     have:=VR.slice (Γ:=Aj W) (bs:=[]) (w:=W) es ab ao cap c.size (P.cellsOf e) (fun i k=>(W.cell? ⟨ab,ao+i * P.cellsOf e+k,none⟩).getD undef) hz (by omega) (Nn hh) hin hlen
      (fun i x k q hx hqk=>by obtain⟨v,h1,_⟩:=hcl i x k q hx hqk;rw[h1];rfl)
      (fun i x k q hx hqk=>by obtain⟨v,h1,h2⟩:=hcl i x k q hx hqk;rw[h1];exact h2)
     rw[hes]at this
     exact this
   |_=>exact other fun l=>by unfold Sh;rw[hu];trivial
end
end Go.Proofs.YtkdahfeiedaahaaGreatDoor
namespace Go.Proofs.YtkdahfeiedaahaaGreatDoor
open Go
set_option linter.unusedVariables false
abbrev In(P:Program)(t:TypeId){α:Type}(c:α->List PVal):Prop:=∀n l,Sh P n t l->∃x,l=c x
section
variable{P:Program}{t e:TypeId}{α:Type}{c:α->List PVal}
theorem Tl{k:IntKind}(hu:P.underlying t=some (.int k)):In P t (cI k):=fun n l h=>by
 cases n with
 |zero=>exact h.elim
 |succ n=>
  unfold Sh at h
  rw[hu]at h
  obtain⟨i,rfl,_⟩:=h
  exact⟨i,rfl⟩
theorem qbj(hu:P.underlying t=some .bool):In P t cB:=fun n l h=>by
 cases n with
 |zero=>exact h.elim
 |succ n=>
  unfold Sh at h
  rw[hu]at h
  obtain⟨i,rfl⟩:=h
  exact⟨i,rfl⟩
theorem od(hu:P.underlying t=some .string):In P t cS:=fun n l h=>by
 cases n with
 |zero=>exact h.elim
 |succ n=>
  unfold Sh at h
  rw[hu]at h
  obtain⟨i,rfl,_⟩:=h
  exact⟨i,rfl⟩
theorem Qp:∀{es:List (List PVal)},(∀x∈es,∃y,x=c y)->∃ys:List α,es=ys.map c
 |[],_=>⟨[],rfl⟩
 |x::es,h=>by
  obtain⟨y,rfl⟩:=h x (by simp)
  obtain⟨ys,rfl⟩:=Qp fun z hz=>h z (vaU _ hz)
  exact⟨y::ys,rfl⟩
theorem Qf(hu:P.underlying t=some (.slice e)){n:Nat}(hE:∀m,m<n->∀l,Sh P m e l->∃x,l=c x)(l:List PVal)(h:Sh P n t l):∃xs,l=cL c xs:=by
 cases n with
 |zero=>exact h.elim
 |succ n=>
  unfold Sh at h
  rw[hu]at h
  obtain⟨es,rfl,_,h⟩:=h
  obtain⟨ys,rfl⟩:=Qp fun x hx=>hE n (vb1 n) x (h x hx)
  exact⟨ys,rfl⟩
theorem qB(hu:P.underlying t=some (.slice e))(hE:In P e c):In P t (cL c):=fun n l h=>Qf hu (fun m _=>hE m) l h
theorem QH:∀(es:List (List PVal)),(∀x∈es,1<=jM x)->es.length<=cN es
 |[],_=>by simp[cN]
 |x::es,h=>by
  have h1:=h x (by simp)
  have h2:=QH es fun y hy=>h y (vaU _ hy)
  simp only[cN,vaO];omega
theorem QI:∀{es:List (List PVal)} {x:List PVal},x∈es->jM x<=cN es
 | y :: es,x,h => by
  simp only[cN]
  rcases vay.1 h with rfl|h
  ·omega
  ·have:=QI h;omega
end
section
variable{H:Type}{enc:TypeId×Value->H}{P:Program}{W:World}{base b0:Nat}{sp:Nat->Bool}{held:Bool}{t e:TypeId}{v:Value}{d:DataW H}{p:List MemPlace}{L:List TypeId}
theorem Tm(hF:SZ P L)(hL:t∈L){fs:Array Field}(hu:P.underlying t=some (.struct fs))(h:DataW.Trod enc P W base sp held t v d p)(hv:Value.okWide P W .any b0 t v):∃n l,VR (Aj W) [] W (.agg l) v/\Sh P n t l/\jM l<=Rows.uptoBulk d:=by
 obtain⟨n,h⟩:=h
 unfold Value.okWide at hv
 rw[hu]at hv
 obtain⟨cs,rfl,_,_⟩:=hv
 obtain⟨l,h1,h2,h3,h4⟩:=RE hF n t hL _ d p h
 refine⟨n,l,.agg l cs ?_ fun i q u hq hu'=>h2 i q u hq ?_,h3,h4⟩
 ·have:(Value.agg cs).cells.toList.length=cs.size:=by simp[Value.cells]
  omega
 ·show cs.toList[i]? =some u
  rw[vaH];exact hu'
theorem XZ(hF:SZ P L)(hL:t∈L)(hc:v.cells.toList=[v])(h:DataW.Trod enc P W base sp held t v d p):∃n q,VR (Aj W) [] W q v/\Sh P n t [q]/\pm q<=Rows.uptoBulk d:=by
 obtain⟨n,h⟩:=h
 rw[hc]at h
 obtain⟨l,h1,h2,h3,h4⟩:=RE hF n t hL _ d p h
 match l,h1 with
 |[q],_=>exact⟨n,q,h2 0 q v rfl rfl,h3,by simpa[jM]using h4⟩
theorem Sw(hF:SZ P L)(hL:t∈L)(hu:P.underlying t=some .string)(h:DataW.Trod enc P W base sp held t v d p)(hv:Value.okWide P W .any b0 t v):∃n q,VR (Aj W) [] W q v/\Sh P n t [q]/\pm q<=Rows.uptoBulk d:=by
 unfold Value.okWide at hv
 rw[hu]at hv
 have hv':Cell.okWide P W .any b0 t v:=hv
 unfold Cell.okWide at hv'
 refine XZ hF hL ?_ h
 cases v<;>simp[hu,Cell.ok]at hv'<;>rfl
theorem Vg{α:Type}{c:α->List PVal}{f:α->PVal}{q:PVal}{x:α}(hc:c x=[f x])(h:[q]=c x):q=f x:=by
 rw[hc]at h
 exact List.head_eq_of_cons_eq h
end
def XV(n:Nat):aC->Prop
 |.dead=>True
 |.cells cs _=>jl n cs
 |.map es=>∀x∈es,x.1.cl n/\x.2.cl n
def OE(n:Nat):List aC->Prop
 |[]=>True
 |B::l=>XV n B/\OE n l
theorem P6{k:Nat}:∀{ps qs:List PVal},NF ps qs=qs->jl k qs->xe k ps qs
 |[],[],_,_=>trivial
 |[],_::_,h,_=>by simp[NF]at h
 |p::ps,[],h,_=>by simp[NF]at h
 |p::ps,q::qs,h,hc=>by
  obtain⟨hc1,hc2⟩:=hc
  cases q<;>simp only[NF,vbH]at h<;>refine⟨?_,P6 h.2 hc2⟩<;>first|exact .inl rfl|exact .inr ⟨h.1,hc1⟩
theorem Th{k:Nat}{p q:aC}(h:Cj p q=q)(hc:XV k q):tq k p q:=by
 cases q with
 |dead=>cases p<;>simp[tq]
 | cells cs own =>
  cases p with
  | cells cs0 own0 =>
   simp only[Cj,aC.cells.injEq]at h
   obtain⟨rfl,h⟩:=h
   refine⟨rfl,hc,fun x hx=>?_⟩
   split at h
   ·rename_i ha
    simpa using vau.1 ha x hx
   ·rw[h];exact hx
  |map es=>simp[Cj]at h
  |dead=>simp[Cj]at h
 |map es=>
  have h':p=.map es:=by cases p<;>simp[Cj]at h ⊢<;>exact h
  subst h'
  exact⟨rfl,hc⟩
theorem Gn{k:Nat}:∀{ps qs:List aC},PC (ps.take qs.length) qs=qs->OE k qs->dF k ps qs
 |_,[],_,_=>by unfold dF;trivial
 |[],_::_,h,_=>by simp[PC]at h
 |p::ps,q::qs,h,hc=>by
  obtain⟨hc1,hc2⟩:=hc
  rw[vaO,List.take_succ_cons]at h
  simp only[PC,vbH]at h
  exact⟨Th h.1 hc1,Gn h.2 hc2⟩
def qas(m:Nat)(st st0:aB):Prop:=NF st.tmps st0.tmps=st0.tmps/\PC (st.boxes.take st0.boxes.length) st0.boxes=st0.boxes/\(st0.own.all fun x=>decide (x∈st.own))=true/\decide (m % 1000<=st0.boxes.length)=true/\
 jl st0.boxes.length st0.tmps/\OE st0.boxes.length st0.boxes
theorem qas.weak{P:Program}{m:Nat}{st st0:aB}(h:qas m st st0):Bq P m st st0:=by
 obtain⟨h1,h2,h3,h4,h5,h6⟩:=h
 exact .of_less ⟨P6 h1 h5,Gn h2 h6,fun x hx=>by simpa using vau.1 h3 x hx⟩ (by simpa using h4)
def YC(m:Nat)(e0:Exit)(st0:aB):Exit->List It->aB->Prop:=fun e _ st=>e0=e/\qas m st st0
section
variable{P:Program}{GE:List (Nat×List PVal)}{A:List Nat}{m:Nat}
theorem Vp(hf:P.follows .mixedOrders=true){c:Code}{e0:Exit}{st0 st:aB}(sc:List It)(h:xO P GE A m c sc st (YC m e0 st0)):aW P GE m c (EX e0 st0) st:=
 (iV hf c sc st _ h).mono fun _ _ hx=>by
  obtain⟨_,hx⟩:=hx
  exact⟨st0,hx.2.weak,hx.1.symm,rfl⟩
theorem Zl(hf:P.follows .mixedOrders=true){σ X:Type}{S:σ->aB}{ex:X->Exit}{so:X->aB}{c:Code}{s:σ}{st:aB}(sc:List It)(h:xO P GE A m c sc st (YC m .normal (S s))):aW P GE m c (LQ S ex so (.inl s)) st:=
 (Vp hf sc h).imp fun _ _ hx=>⟨hx.1,hx.2⟩
theorem Zr(hf:P.follows .mixedOrders=true){σ X:Type}{S:σ->aB}{ex:X->Exit}{so:X->aB}{c:Code}{x:X}{st:aB}(sc:List It)(hn:ex x≠.normal)(h:xO P GE A m c sc st (YC m (ex x) (so x))):aW P GE m c (LQ S ex so (.inr x)) st:=
 (Vp hf sc h).imp fun _ _ hx=>⟨by rw[hx.1];exact hn,hx.1,hx.2⟩
end
mutual
theorem Sm{n m:Nat}(hnm:n<=m):∀(p:PVal),p.cl n->p.cl m
 |.undef,_=>by simp[PVal.cl]
 |.int _ _,_=>by simp[PVal.cl]
 |.bool _,_=>by simp[PVal.cl]
 |.str _,_=>by simp[PVal.cl]
 |.val _,_=>by simp[PVal.cl]
 |.agg cs,h=>by simp only[PVal.cl]at h ⊢;exact tI hnm cs h
 |.tuple cs,h=>by simp only[PVal.cl]at h ⊢;exact tI hnm cs h
 |.slice es,h=>by simp only[PVal.cl]at h ⊢;exact Nu hnm es h
 |.eptr cs,h=>by simp only[PVal.cl]at h ⊢;exact tI hnm cs h
 |.bptr i _,h=>by simp only[PVal.cl]at h ⊢;omega
 |.bsl i _ _,h=>by simp only[PVal.cl]at h ⊢;omega
 |.mapr i,h=>by simp only[PVal.cl]at h ⊢;omega
 |.func _ f c,h=>by simp only[PVal.cl]at h ⊢;exact⟨tI hnm f h.1,tI hnm c h.2⟩
theorem tI{n m:Nat}(hnm:n<=m):∀(l:List PVal),jl n l->jl m l
 |[],_=>by simp[jl]
 |p::l,h=>by simp only[jl]at h ⊢;exact⟨Sm hnm p h.1,tI hnm l h.2⟩
theorem Nu{n m:Nat}(hnm:n<=m):∀(l:List (List PVal)),xh n l->xh m l
 |[],_=>by simp[xh]
 |p::l,h=>by simp only[xh]at h ⊢;exact⟨tI hnm p h.1,Nu hnm l h.2⟩
end
theorem a8{n:Nat}{l:List PVal}(h:jl 0 l):jl n l:=tI (va1 n) l h
theorem up{n:Nat}{p:PVal}(h:p.cl 0):p.cl n:=Sm (va1 n) p h
theorem aT{i n:Nat}(h:decide (i<n)=true):i<n:=va3 h
theorem qb{n:Nat}{α:Type}(f:α->PVal)(h:∀x,(f x).cl 0)(l:List (ae×α)):XV n (.map (aL f l)):=by
 intro x hx
 obtain⟨y,_,rfl⟩:=vah.1 hx
 exact⟨trivial,up (h y.2)⟩
theorem qcN(m:Nat)(st:aB)(h4:decide (m % 1000<=st.boxes.length)=true)(h5:jl st.boxes.length st.tmps)(h6:OE st.boxes.length st.boxes):st.tmps=st.tmps/\st.boxes=st.boxes/\true=true/\decide (m % 1000<=st.boxes.length)=true/\jl st.boxes.length st.tmps/\OE st.boxes.length st.boxes:=⟨rfl,rfl,rfl,h4,h5,h6⟩
def YI:TypeDesc->Bool
 |.struct _=>true
 |.array _ _=>true
 |_=>false
theorem oe{P:Program}{t:TypeId}{l r:List PVal}(h:(P.underlying t).any YI=true)(hc:P.cellsOf t=l.length):bo P t (l++r)=some (.agg l):=by
 unfold bo
 split
 ·rw[vax (by rw[hc];simp),hc,vcc]
 ·rw[vax (by rw[hc];simp),hc,vcc]
 ·rename_i d h1 h2 hd
  rw[hd]at h
  cases d<;>simp_all[YI]
 ·rename_i hd;rw[hd]at h;cases h
theorem Ee{k:Nat}{B:aC}:∀{ps qs:List aC} {i:Nat},qs.length<=i->dF k ps qs->dF k (ps.set i B) qs
 |_,[],_,_,_=>by unfold dF;trivial
 |[],_::_,_,_,h=>by simpa using h
 |p::ps,q::qs,0,hi,_=>by simp at hi
 |p::ps,q::qs,i+1,hi,h=>by
  simp only[List.set_cons_succ]
  exact⟨h.1,Ee (by simpa using hi) h.2⟩
def GX(P:Program)(rs:List ResultVar)(r:PVal)(ro:List (Nat×TypeId))(H':List aC)(st:aB):Prop:=
 ∃(t:Tmp) (ty:TypeId) (i off:Nat) (cs:List PVal) (own:List (Nat×TypeId)) (l:List PVal),rs=[.cell t ty]/\(∃fs,P.underlying ty=some (.struct fs))/\st.tmps.getD t .undef=.bptr i off/\st.boxes[i]? =some (.cells cs own)/\
  r=.agg l/\bo P ty (cs.drop off)=some (.agg l)/\r.cl H'.length/\H'.length<=i/\dF H'.length st.boxes H'/\(∀x∈ro,(off+x.1,x.2)∈own/\x.1<l.length)/\(ro.map (·.1)).Nodup
def SP(P:Program)(rs:List ResultVar)(r:PVal)(ro:List (Nat×TypeId))(H':List aC)(e:Exit)(st:aB):Prop:=
 ZA P rs r ro H' e st\/((e=.normal\/e=.ret)/\GX P rs r ro H' st)
section
variable{P:Program}{E:rD}{Γ:aU}{bs:bD}{ow:Nat->Option lX}{w:World}{a:Array Value}{st:aB}
theorem SR.finishCellG(h:SR P E Γ bs ow w a st){fn:Func}{r:PVal}{ro:List (Nat×TypeId)}{H':List aC}(hr:GX P fn.results.toList r ro H' st):∃v ow',(results fn a).run P w=.ok v w/\SR P E Γ (bs.take H'.length) ow' w #[v] ⟨[r],H',ro.map fun x=>((0,x.1),x.2)⟩:=by
 obtain⟨t,ty,i,off,cs,own,l,hrs,⟨fs,hfs⟩,ht,hB,rfl,hp,hcl,hi,hbl,hro,hnd⟩:=hr
 have hrv:Fr P st fn.results.toList=some (.agg l):=by
  rw[hrs]
  show kV P ty (st.tmps.getD t .undef) st.boxes=_
  rw[ht]
  simp only[kV,hB,hp]
 obtain⟨v,e1,e2,_⟩:=tT h hrv
 have hvt:=h.getD t
 rw[ht]at hvt
 generalize hva:a.getD t undef=vt at hvt
 cases hvt with
 |bptr _ _ b hb=>
 obtain⟨v2,q1,q2,q3⟩:=Fd h hb hB hp
 have hvv:v2=v:=by
  have hres:fn.results=#[.cell t ty]:=by
   have:fn.results=fn.results.toList.toArray:=by simp
   rw[this,hrs]
  have hrun:(results fn a).run P w=.ok v2 w:=by
   simp[results,hres,asAddr]
   have hva':a[t]?.getD undef=.pointer (some ⟨b,off,none⟩):=by rw[<-vas];exact hva
   rw[hva']
   simp[q1]
  rw[e1]at hrun
  cases hrun
  rfl
 subst hvv
 have g1:=h.pushed e2
 obtain⟨ow',g2⟩:=SR.takeOwns (off:=off) (d:=a.size) (u:=v2) hb (by simp) ro g1 hB (fun x hx=>(hro x hx).1) hnd fun x hx=>by
  have:=q3 ⟨_,hfs,trivial⟩ x.1 (hro x hx).2
  obtain⟨v',z1,_⟩:=h.ob i (off+x.1) x.2 cs own b hB (hro x hx).1 hb
  exact⟨v',this.trans z1,z1⟩
 refine⟨v2,y5 (fun k=>(a.size,k)) ro ow',e1,?_⟩
 exact g2.finish (H':=H') (src:=fun k=>(a.size,k)) (ro:=ro) e2 hcl (Ee hi hbl) (fun x hx=>⟨va0 _ (vb2.2 (vah.2 ⟨x,hx,rfl⟩)),fun u v' hu hv'=>by simp at hu;subst hu;exact hv'⟩) (fun x _ y _ e=>by simpa using e)
end
theorem C.ofSatG{P:Program}{GE:List (Nat×List PVal)}{m:Nat}{f:FuncId}{fn:Func}{c:Code}{args:List PVal}{oa:List ((Nat×Nat)×TypeId)}{H:List aC}{r:PVal}{ro:List (Nat×TypeId)}{H':List aC}(hm:m % 1000=H.length)(hm0:m≠0)
  (hcall:∀vs w,(callFunc f vs).run P w=.ok (.enter f vs) w) (hfn:P.funcs[f]? =some fn) (hb:fn.body=some c) (hH:H'.length=H.length)
  (hp:aW P GE m c (SP P fn.results.toList r ro H') ⟨args++List.replicate (fn.ntmps - args.length) .undef,H,oa⟩):C P GE f args oa H r ro H':=by
 refine⟨hcall,fun Γ bs ow w vs h=>calls_of_wp hfn hb ?_⟩
 have hbl:bs.length=H.length:=h.bl
 have h0:SR P ⟨GE,Γ,w,bj bs ow⟩ Γ bs ow w (vs++Array.replicate (fn.ntmps - vs.size) undef) ⟨args++List.replicate (fn.ntmps - args.length) .undef,H,oa⟩:=by
  have hsz:vs.size=args.length:=h.sz
  exact{h with
   sz:=by simp[hsz]
   tm:=fun t p v hp hv=>by
    simp only at hp
    by_cases ht:t<args.length
    ·rw[vac ht]at hp
     rw[vaR (by omega)]at hv
     exact h.tm t p v hp hv
    ·rw[vaf (by omega),vaW]at hp
     split at hp<;>cases hp
     exact .undef v
   ot:=fun t k e he=>by
    obtain⟨u,v,h1,h2⟩:=h.ot t k e he
    exact⟨u,v,by rw[vaR (vae.1 h1).1];exact h1,h2⟩}
 have hE:tC GE m ⟨GE,Γ,w,bj bs ow⟩:={
  ge:=rfl
  low:=fun b n hb=>h.lt_of_ghost hb
  nt:=fun h0=>absurd h0 hm0
  gl:=fun g cs hg=>(h.gl g cs hg).restrict (n:=0) (by simp only[PVal.cl];exact h.gc g cs hg) (fun i b hi _=>absurd hi (vaK _))}
 have hwp:=hp none ⟨GE,Γ,w,bj bs ow⟩ bs ⟨vs++Array.replicate (fn.ntmps - vs.size) undef,[]⟩ w hE (by rw[hbl,hm]) ⟨Γ,bs,ow,h0,fun i _=>rfl⟩
 refine wp_mono hwp fun e a w' hq=>?_
 obtain⟨hd,st,⟨Γ1,bs1,ow1,hS,hk⟩,hQ⟩:=hq
 have htake:H'.length<=bs1.length->bs1.take H'.length=bs:=by
  intro hl1
  refine va2 fun i=>?_
  by_cases hi:i<H'.length
  ·rw[vak hi];exact hk i (by omega)
  ·rw[vb6 (by omega),vaE (by omega)]
 have hlen:∀{B:List aC},dF H'.length B H'->B.length=bs1.length->H'.length<=bs1.length:=fun hB he=>by
  obtain⟨hl,_⟩:=oE hB;omega
 have key:(Fr P st fn.results.toList=some r/\r.cl H'.length/\dF H'.length st.boxes H'/\(∀x∈ro,(dH fn.results.toList x.1,x.2)∈st.own/\qP st fn.results.toList x.1)/\
   (∀x∈ro,∀y∈ro,dH fn.results.toList x.1=dH fn.results.toList y.1->x.1=y.1))->
   a.defers=[]/\∃v,(results fn a.tmps).run P w'=.ok v w'/\∃v' Γ' ow',Ending.returned v=.returned v'/\SR P ⟨GE,Γ,w,bj bs ow⟩ Γ' bs ow' w' #[v'] ⟨[r],H',ro.map fun x=>((0,x.1),x.2)⟩:=by
  rintro⟨k1,k2,k3,k4,k5⟩
  obtain⟨v,e1,e2,e3⟩:=tT hS k1
  refine⟨hd,v,e1,v,Γ1,y5 (dH fn.results.toList) ro ow1,rfl,?_⟩
  have hf:=hS.finish (H':=H') (src:=dH fn.results.toList) (ro:=ro) e2 k2 k3 (fun x hx=>⟨(k4 x hx).1,fun u v'=>e3 x.1 u v' (k4 x hx).2⟩) k5
  rw[htake (hlen k3 hS.bl.symm)]at hf
  exact hf
 have key2:GX P fn.results.toList r ro H' st->
   a.defers=[]/\∃v,(results fn a.tmps).run P w'=.ok v w'/\∃v' Γ' ow',Ending.returned v=.returned v'/\SR P ⟨GE,Γ,w,bj bs ow⟩ Γ' bs ow' w' #[v'] ⟨[r],H',ro.map fun x=>((0,x.1),x.2)⟩:=by
  intro hc
  obtain⟨v,ow',e1,e2⟩:=hS.finishCellG hc
  obtain⟨_,_,_,_,_,_,_,_,_,_,_,_,_,_,_,hbl2,_,_⟩:=hc
  rw[htake (hlen hbl2 hS.bl.symm)]at e2
  exact⟨hd,v,e1,v,Γ1,ow',rfl,e2⟩
 rcases hQ with hQ|⟨he,hQ⟩
 ·cases e with
  |normal=>exact key hQ
  |ret=>exact key hQ
  |exit id=>exact hQ.elim
  |goto l=>exact hQ.elim
  |panic c=>exact hQ.elim
  |outgrown=>exact hQ.elim
 ·rcases he with rfl|rfl
  ·exact key2 hQ
  ·exact key2 hQ
def QU(P:Program)(rs:List ResultVar)(ro:List (Nat×TypeId))(n:Nat)(st:aB):Bool:=match rs with
 | [.cell t ty] => match P.underlying ty with
  | some (.struct _) => match st.tmps.getD t .undef with
   |.bptr i off=>decide (n<=i)&&match st.boxes[i]? with
    |some (.cells _ own)=>ro.all (fun x=>decide ((off+x.1,x.2)∈own)&&decide (x.1<P.cellsOf ty))&&ug (ro.map (·.1))
    |_=>false
   |_=>false
  |_=>false
 |_=>false
def Uo(P:Program)(rs:List ResultVar)(r:PVal)(ro:List (Nat×TypeId))(H':List aC)(st:aB):Prop:=match DB rs ro st with
 |true=>match Fr P st rs with
  |some p=>p=r/\r.cl H'.length/\PC (st.boxes.take H'.length) H'=H'/\OE H'.length H'
  |none=>False
 | false => match QU P rs ro H'.length st with
  |true=>match Fr P st rs with
   |some p=>p=r/\r.cl H'.length/\PC (st.boxes.take H'.length) H'=H'/\OE H'.length H'/\r.isAgg=true
   |none=>False
  |false=>False
def W3(P:Program)(rs:List ResultVar)(r:PVal)(ro:List (Nat×TypeId))(H':List aC):Exit->List It->aB->Prop:=fun e _ st=>match e with
 |.normal=>Uo P rs r ro H' st
 |.ret=>Uo P rs r ro H' st
 |_=>False
theorem Pt{rs:List ResultVar}{ro:List (Nat×TypeId)}{st:aB}(hc:DB rs ro st=true):(∀x∈ro,(dH rs x.1,x.2)∈st.own/\qP st rs x.1)/\(∀x∈ro,∀y∈ro,dH rs x.1=dH rs y.1->x.1=y.1):=by
 have:=L9 (r:=.undef) (P:=default) (rs:=rs) (ro:=ro) (st:=⟨st.tmps,st.boxes,st.own⟩) hc
 by_cases hr:Fr default st rs=some .undef
 ·exact(this hr trivial).2.2.2
 ·clear this
  unfold DB at hc
  rw[vad]at hc
  obtain⟨c1,c2⟩:=hc
  refine⟨fun x hx=>?_,fun x hx y hy hxy=>?_⟩
  ·have:=vau.1 c1 x hx
   rw[vad]at this
   refine⟨by simpa using this.1,?_⟩
   have h2:=this.2
   clear this c1 c2 hr
   rcases rs with _|⟨y,_|⟨z,rs⟩⟩
   ·simp at h2
   ·cases y with
    |tmp t=>trivial
    |cell t ty=>cases h2
   ·have key:∀o:Option ResultVar,(match o with
     |some (.tmp t)=>(st.tmps.getD t .undef).isSlice
     |_=>false)=true->(match o with
     |some (.tmp t)=>(st.tmps.getD t .undef).isSlice=true
     |_=>False):=by
     intro o
     cases o with
     |none=>intro h;cases h
     |some q=>cases q<;>intro h<;>first|exact h|cases h
    cases y with
    |tmp t=>exact key _ h2
    |cell t ty=>exact key _ h2
  ·have:=vau.1 (vau.1 c2 x hx) y hy
   simpa[hxy]using this
theorem Uo.to{P:Program}{rs:List ResultVar}{r:PVal}{ro:List (Nat×TypeId)}{H':List aC}{st:aB}{e:Exit}(he:e=.normal\/e=.ret)(h:Uo P rs r ro H' st):SP P rs r ro H' e st:=by
 unfold Uo at h
 split at h
 ·rename_i hc
  split at h
  ·rename_i p hp
   obtain⟨rfl,hcl,hfg,hcb⟩:=h
   obtain⟨s1,s2⟩:=Pt hc
   have:Fr P st rs=some p/\p.cl H'.length/\dF H'.length st.boxes H'/\_/\_:=⟨hp,hcl,Gn hfg hcb,s1,s2⟩
   rcases he with rfl|rfl<;>exact .inl this
  ·exact h.elim
 ·split at h
  ·rename_i hc
   split at h
   ·rename_i p hp
    obtain⟨rfl,hcl,hfg,hcb,hagg⟩:=h
    refine .inr ⟨he,?_⟩
    unfold QU at hc
    split at hc
    ·rename_i t ty _
     split at hc
     ·rename_i fs hfs
      split at hc
      ·rename_i i off ht
       rw[vad,vai]at hc
       obtain⟨hi,hc⟩:=hc
       split at hc
       ·rename_i cs own hB
        rw[vad]at hc
        obtain⟨c1,c2⟩:=hc
        have hpl:bo P ty (cs.drop off)=some p:=by
         have hp':kV P ty (st.tmps.getD t .undef) st.boxes=some p:=hp
         rw[ht]at hp'
         simpa only[kV,hB]using hp'
        cases p<;>simp only[PVal.isAgg]at hagg<;>first|(cases hagg;done)|skip
        rename_i l
        have hlen:l.length=P.cellsOf ty:=by
         have hq:=hpl
         unfold bo at hq
         rw[hfs]at hq
         simp only at hq
         split at hq
         ·rename_i hh;cases hq;rw[vbk];omega
         ·cases hq
        refine⟨t,ty,i,off,cs,own,l,rfl,⟨fs,hfs⟩,ht,hB,rfl,hpl,hcl,hi,Gn hfg hcb,fun x hx=>?_,pP c2⟩
        have:=vau.1 c1 x hx
        simp only[vad,vai]at this
        exact⟨this.1,by rw[hlen];exact this.2⟩
       ·cases hc
      ·cases hc
     ·cases hc
    ·cases hc
   ·exact h.elim
  ·exact h.elim
theorem W3.to{P:Program}{rs:List ResultVar}{r:PVal}{ro:List (Nat×TypeId)}{H':List aC}{e:Exit}{sc:List It}{st:aB}(h:W3 P rs r ro H' e sc st):SP P rs r ro H' e st:=by
 unfold W3 at h
 split at h
 ·exact h.to (.inl rfl)
 ·exact h.to (.inr rfl)
 ·exact h.elim
theorem C.evG{P:Program}{GE:List (Nat×List PVal)}{A:List Nat}(hf:P.follows .mixedOrders=true){m:Nat}{f:FuncId}{fn:Func}{c:Code}{args:List PVal}{oa:List ((Nat×Nat)×TypeId)}{H:List aC}{r:PVal}{ro:List (Nat×TypeId)}{H':List aC}
  (hm:decide (m % 1000=H.length)&&decide (m≠0)&&decide (H'.length=H.length)=true) (hcall:∀vs w,(callFunc f vs).run P w=.ok (.enter f vs) w) (hfn:P.funcs[f]? =some fn) (hb:fn.body=some c) (sc:List It)
  (h:xO P GE A m c sc ⟨args++List.replicate (fn.ntmps - args.length) .undef,H,oa⟩ (W3 P fn.results.toList r ro H')):C P GE f args oa H r ro H':=by
 simp only[vad,vai]at hm
 exact C.ofSatG hm.1.1 hm.1.2 hcall hfn hb hm.2 ((iV hf c sc _ _ h).imp fun e st hx=>by obtain⟨sc',hx⟩:=hx;exact hx.to)
section
variable{X Y:Type}
def Yr(F:(X->Option Y)->X->Option Y):Nat->X->Option Y
 |0,_=>none
 |n+1,x=>F (Yr F n) x
end
theorem rT:true=true:=rfl
theorem rL(l:List aC):l=l:=rfl
theorem rB(B:aC):B=B:=rfl
theorem rW(l:List (Nat×TypeId)):l=l:=rfl
theorem rM(l:List (PVal×PVal)):l=l:=rfl
theorem xR(ρ:List Nat)(p:PVal)(h:p.cl 0):B6 ρ p p:=.refl p h
theorem xB(ρ:List Nat)(i j off:Nat)(h:ρ[i]? =some j):B6 ρ (.bptr j off) (.bptr i off):=.bptr i j off h
theorem xM(ρ:List Nat)(i j:Nat)(h:ρ[i]? =some j):B6 ρ (.mapr j) (.mapr i):=.mapr i j h
theorem xF(ρ:List Nat)(fn:Fn)(f c f' c':List PVal)(h:JU ρ f f')(h':JU ρ c c'):B6 ρ (.func fn f c) (.func fn f' c'):=.func fn f c f' c' h.len h'.len h.get h'.get
theorem ZD{n:Nat}{l:List PVal}(h:jl 0 l):(PVal.agg l).cl n:=by simp only[PVal.cl];exact a8 h
theorem xA(ρ:List Nat)(f f':List PVal)(h:JU ρ f f'):B6 ρ (.agg f) (.agg f'):=.agg f f' h.len h.get
theorem ij{a a':PVal}{l l':List PVal}(h:a=a')(h':l=l'):a::l=a'::l':=by rw[h,h']
open Go Go.Shelf Go.RowKit Go.Lib
variable{P:Program}{ρ:Ren}
theorem Ov{w:World}(base:Nat)(t ty e:TypeId)(i:TypeInfo)(z:Value)(ht:P.underlying t=some (.slice e))(hi:P.info? e=some i)(hz:i.zero=some z)
  (v:Value) (n:Nat) (xs:List Value) (hown:w.ownsRow base e i.size v n xs)
  (a:Addr) (m c:Nat) (news:List Value) (hl:news.length=m * i.size) (hnews:∀j u,news[j]? =some u->w.cell? (a.add j)=some u) (h1:∀u∈news,u.oneCell'=true)
  (h63:n+m<=maxLen) (hbytes:(n+m) * i.bytes<=140737488355328) {v':Value} {w':World} (hr:(Builtin.append_ #[t,t] ty #[v,.slice (some a) m c]).run P w=.ok v' w'):w.drawn<=w'.drawn:=by
 have hsmall:n+m<=9223372036854775807:=by simp only[maxLen]at h63;omega
 rcases hown.2 with⟨rfl,rfl⟩|⟨g,cap,cur,rfl,hbg,hg,hnc,hcm,hcs,htake⟩
 ·by_cases hm:m=0
  ·subst hm
   have hn:news=[]:=vao (by simpa using hl)
   subst hn
   have:(Builtin.append_ #[t,t] ty #[.slice none 0 0,.slice (some a) 0 c]).run P w=.ok (.slice none 0 0) w:=by
    simp[Builtin.append_,run_underlying ht,Go.sizeOf,typeInfo,hi,Builtin.lenOf,Builtin.firstCells,loadCells,loadCellsFrom]
   rw[this]at hr;cases hr;exact vam _
  ·rw[run_append_nil (P:=P) w t ty e i z ht hi hz a m c news hl hnews (by omega) (by omega) (by have hb:=hbytes;simp only[vaI]at hb;omega)]at hr
   cases hr;exact vci _
 ·by_cases hroom:n+m<=cap
  ·have hfit:n * i.size+news.length<=cur.size:=by rw[hl,hcs,<-vbe];exact va5 _ hroom
   rw[run_append_room (P:=P) w t ty e i ht hi g n cap cur hg a m c news hl hnews h1 hroom hfit]at hr
   cases hr;exact vam _
  ·have holds:∀j u,xs[j]? =some u->w.cell? ((⟨g,0,none⟩:Addr).add j)=some u:=hown.cells (g:=g) rfl
   rw[run_append_grow (P:=P) w t ty e i z ht hi hz ⟨g,0,none⟩ n cap xs hown.1 holds a m c news hl hnews (by omega) (by omega) (growslice_fits (by omega) hbytes)]at hr
   cases hr;exact vci _
theorem Mt(w:World){o:Oper}{a:Act}{K:Act->World->Prop}{Q:Exit->Act->World->Prop}(s x:Operand)(t:TypeId)
  (ho:o.op=.call {callee:=.builtin .append,args:=#[s,x],argTypes:=#[t,t]})
  (base:Nat) (e:TypeId) (i:TypeInfo) (z:Value) (size bytes:Nat) (ht:P.underlying t=some (.slice e)) (hi:P.info? e=some i) (hz:i.zero=some z)
  (hsize:i.size=size) (hby:i.bytes=bytes) (hzs:z.cells.size=size) (hsz:0<size)
  (v:Value) (n:Nat) (xs:List Value) (hs:a.eval s=v) (hown:w.ownsRow base e size v n xs)
  (ad:Addr) (m c:Nat) (news:List Value) (hx:a.eval x=.slice (some ad) m c) (hl:news.length=m * size) (hnews:∀j u,news[j]? =some u->w.cell? (ad.add j)=some u) (h1:∀u∈news,u.oneCell'=true)
  (h63:n+m<=maxLen) (hbytes:(n+m) * bytes<=140737488355328) (hbase:base<=w.heap.size)
  (h:∀v' w',w'.ownsRow base e size v' (n+m) (xs++news)->w.grownBy w' v.ownBlock->w.drawn<=w'.drawn->K (a.put o.dst v') w'):o.wp P a w K Q:=by
 obtain⟨v',w',hr,h2,h3,_⟩:=run_append_own (P:=P) w base t o.type e i z size bytes ht hi hz hsize hby hzs hsz v n xs hown ad m c news hl hnews h1 h63 hbytes hbase
 subst hsize
 subst hby
 have hd:=Ov (P:=P) base t o.type e i z ht hi hz v n xs hown ad m c news hl hnews h1 h63 hbytes hr
 unfold Oper.wp execOp
 simp only[ho,resolve,invoke,builtin,Sem.run_bind,Sem.run_pure,Result.andThen_ok,List.map_toArray,vaD,vbK,hs,hx,hr]
 exact h v' w' h2 h3 hd
theorem xf(w:World){ops:Array Oper}{rest:List Oper}{o:Oper}{a:Act}{Q:Exit->Act->World->Prop}(hgd:o.guard=none)(s x:Operand)(t:TypeId)
  (ho:o.op=.call {callee:=.builtin .append,args:=#[s,x],argTypes:=#[t,t]})
  (base:Nat) (e:TypeId) (i:TypeInfo) (z:Value) (size bytes:Nat) (ht:P.underlying t=some (.slice e)) (hi:P.info? e=some i) (hz:i.zero=some z)
  (hsize:i.size=size) (hby:i.bytes=bytes) (hzs:z.cells.size=size) (hsz:0<size)
  (v:Value) (n:Nat) (xs:List Value) (hs:a.eval s=v) (hown:w.ownsRow base e size v n xs)
  (ad:Addr) (m c:Nat) (news:List Value) (hx:a.eval x=.slice (some ad) m c) (hl:news.length=m * size) (hnews:∀j u,news[j]? =some u->w.cell? (ad.add j)=some u) (h1:∀u∈news,u.oneCell'=true)
  (h63:n+m<=maxLen) (hbytes:(n+m) * bytes<=140737488355328) (hbase:base<=w.heap.size)
  (h:∀v' w',w'.ownsRow base e size v' (n+m) (xs++news)->w.grownBy w' v.ownBlock->w.drawn<=w'.drawn->wpList P ops Q rest (a.put o.dst v') w'):wpList P ops Q (o::rest) a w:=
 wpList_plain hgd fun _ hK=>Mt w s x t ho base e i z size bytes ht hi hz hsize hby hzs hsz v n xs hs hown ad m c news hx hl hnews h1 h63 hbytes hbase fun v' w' h2 h3 h4=>hK _ _ (h v' w' h2 h3 h4)
set_option maxHeartbeats 2000000 in
set_option maxRecDepth 100000 in
theorem Rx(L:SlLaysE0.n41 P ρ)(i0:TypeInfo)(z:Value)(size bytes:Nat)(hi:P.info? (ρ.t 23)=some i0)(hz0:i0.zero=some z)(hz1:i0.size=size)(hz2:i0.bytes=bytes)(hzs:z.cells.size=size)(hsz:0<size)
  (z23:∀w,(Go.sizeOf (ρ.t 23)).run P w=.ok size w) (b off n c:Nat) (news:List Value) (w:World) (hl:news.length=n * size) (hn:n<=maxLen) (hbig:n * bytes<=140737488355328)
  (hc:∀j u,news[j]? =some u->w.cell? ⟨b,off+j,none⟩=some u) (h1:∀u∈news,u.oneCell'=true):
  Calls P (ρ.f 41) #[.slice (some ⟨b,off,none⟩) n c] w fun e w'=>∃v',e=.returned v'/\w'.ownsRow w.heap.size (ρ.t 23) size v' n news/\(Below w.heap.size w w'/\w.drawn<=w'.drawn):=by
 have mixed:=L.mixed;have t4:=L.t4;have a4:=L.a4;have z4:=L.z4;have v4:=L.v4;have t22:=L.t22;have a22:=L.a22;have z22:=L.z22;have v22:=L.v22
 have q22:∀(w:World) (a:Option Addr) (n c n' c':Nat),(binOp .eql (ρ.t 22) (.slice a n c) (.slice none n' c')).run P w=.ok (.bool a.isNone) w:=fun w a n c n' c'=>Lib.run_eql_slice_nil w _ _ a n c n' c' L.t22
 have u22:∀w,Sem.run P (underlying (ρ.t 22)) w=.ok (TypeDesc.slice (ρ.t 23)) w:=run_underlying t22
 have A:Aside (∀j u,news[j]? =some u->w.cell? ⟨b,off+j,none⟩=some u):=hc
 clear hc
 obtain⟨_,_,FG⟩:=L.f41
 go_enter FG,SlBodyN.n41_ntmps ρ
 go_wp2_with (at_builtin;refine xf _ rfl _ _ (ρ.t 22) rfl w.heap.size (ρ.t 23) i0 z size bytes t22 hi hz0 hz1 hz2 hzs hsz _ _ _ rfl (World.ownsRow_made w #[] 0 (vam _) (va1 _) (by simp)) ⟨b,off,none⟩ n c news rfl ?qc1 ?qc2 ?qc3 ?qc4 ?qc5 ?qc6 ?_)
 case qc1=>exact hl
 case qc2=>
  intro j u hj
  rw[Addr.add_lit]
  exact Lib.cell?_alloc_some _ (A.out j u hj)
 case qc3=>exact h1
 case qc4=>rw[vaI];exact hn
 case qc5=>rw[vaI];exact hbig
 case qc6=>simp
 intro v' w1 hown hgrow hdr
 go_wp2
 go_ret
 refine⟨v',rfl,by simpa using hown,?_,hdr⟩
 exact((Below.refl _ w).alloc (vam _) _).grown hgrow (by simp) (by intro k hk;simp[Value.ownBlock]at hk;omega)
set_option maxHeartbeats 2000000 in
set_option maxRecDepth 100000 in
theorem PZ(L:SlLaysE0.n41 P ρ)(i0:TypeInfo)(z:Value)(hi:P.info? (ρ.t 23)=some i0)(hz0:i0.zero=some z)(hzs:z.cells.size=i0.size)(hsz:0<i0.size)
  (z23:∀w,(Go.sizeOf (ρ.t 23)).run P w=.ok i0.size w) (ad:Addr) (c:Nat) (w:World):
  Calls P (ρ.f 41) #[.slice (some ad) 0 c] w fun r w'=>∃v',r=.returned v'/\w'.ownsRow w.heap.size (ρ.t 23) i0.size v' 0 []/\(Below w.heap.size w w'/\w.drawn<=w'.drawn):=by
 have mixed:=L.mixed;have t4:=L.t4;have a4:=L.a4;have z4:=L.z4;have v4:=L.v4;have t22:=L.t22;have a22:=L.a22;have z22:=L.z22;have v22:=L.v22
 have q22:∀(w:World) (a:Option Addr) (n c n' c':Nat),(binOp .eql (ρ.t 22) (.slice a n c) (.slice none n' c')).run P w=.ok (.bool a.isNone) w:=fun w a n c n' c'=>Lib.run_eql_slice_nil w _ _ a n c n' c' L.t22
 have u22:∀w,Sem.run P (underlying (ρ.t 22)) w=.ok (TypeDesc.slice (ρ.t 23)) w:=run_underlying t22
 obtain⟨_,_,FG⟩:=L.f41
 go_enter FG,SlBodyN.n41_ntmps ρ
 go_wp2_with (at_builtin;refine xf _ rfl _ _ (ρ.t 22) rfl w.heap.size (ρ.t 23) i0 z i0.size i0.bytes t22 hi hz0 rfl rfl hzs hsz _ _ _ rfl (World.ownsRow_made w #[] 0 (vam _) (va1 _) (by simp)) ad 0 c [] rfl (by simp) (by simp) (by simp) (by simp) (by simp) (by simp) ?_)
 intro v' w1 hown hgrow hdr
 go_wp2
 go_ret
 exact⟨v',rfl,by simpa using hown,((Below.refl _ w).alloc (vam _) _).grown hgrow (by simp) (by intro k hk;simp[Value.ownBlock]at hk;omega),hdr⟩
theorem Tc(L:SlLaysE0.n41 P ρ)(i0:TypeInfo)(z:Value)(hi:P.info? (ρ.t 23)=some i0)(hz0:i0.zero=some z)(hzs:z.cells.size=i0.size)(hsz:0<i0.size)(hby:i0.bytes<=65536)
  (hcall:∀vs w,(callFunc (ρ.f 41) vs).run P w=.ok (.enter (ρ.f 41) vs) w):tZ P (ρ.f 41) (ρ.t 23):=by
 have hc:P.cellsOf (ρ.t 23)=i0.size:=by simp[Program.cellsOf,hi]
 have z23:∀w,(Go.sizeOf (ρ.t 23)).run P w=.ok i0.size w:=fun w=>by rw[<-hc];exact run_sizeOf w hi
 refine⟨hcall,fun w x n news hx hl h1 hn=>?_⟩
 rw[hc]at hl ⊢
 rcases hx with⟨rfl,rfl⟩|⟨a,c,rfl,hcell⟩
 ·have hnews:news=[]:=vao (by simpa using hl)
  subst hnews
  refine(AnyE.slices_Clone_nil L 0 0 w).mono fun r w' hr=>?_
  obtain⟨rfl,rfl⟩:=hr
  exact⟨_,rfl,World.ownsRow_nil _ _ _ _,Below.refl _ _,vam _⟩
 ·by_cases h0:n=0
  ·subst h0
   have hnews:news=[]:=vao (by simpa using hl)
   subst hnews
   exact PZ L i0 z hi hz0 hzs hsz z23 a c w
  ·have hpos:0<news.length:=by rw[hl];exact vcL (Nat.pos_of_ne_zero h0) hsz
   have hsp:a.spot=none:=by
    have hk:=hcell 0 _ (vaa hpos)
    unfold Addr.add at hk
    simp only[if_true]at hk
    unfold World.cell? at hk
    split at hk
    ·split at hk
     ·cases hk
     ·rename_i hs;simpa using hs
    ·cases hk
   obtain⟨b,off,sp⟩:=a
   simp only at hsp
   subst hsp
   refine Rx L i0 z i0.size i0.bytes hi hz0 rfl rfl hzs hsz z23 b off n c news w hl (by unfold maxLen;unfold dw at hn;omega) ?_ (fun j u hj=>by rw[<-Addr.add_lit];exact hcell j u hj) h1
   have:n * i0.bytes<=1073741824 * 65536:=vcy (by unfold dw at hn;omega) hby
   omega
theorem Ny(L:SlLaysE0.n41 P ρ){f:FuncId}{e:TypeId}(hf:ρ.f 41=f)(he:ρ.t 23=e)(hq:(P.info? e).any (fun i=>(i.zero.any fun z=>z.cells.size==i.size)&&decide (0<i.size)&&decide (i.bytes<=65536))=true)
  (hcall:∀vs w,(callFunc f vs).run P w=.ok (.enter f vs) w):tZ P f e:=by
 subst hf;subst he
 cases hi:P.info? (ρ.t 23)with
 |none=>rw[hi]at hq;cases hq
 | some i0 =>
  rw[hi]at hq
  simp only[Option.any_some,vad,vai]at hq
  obtain⟨⟨h1,h2⟩,h3⟩:=hq
  cases hz:i0.zero with
  |none=>rw[hz]at h1;cases h1
  |some z=>
   rw[hz]at h1
   simp only[Option.any_some,vaZ]at h1
   exact Tc L i0 z hi hz h1 h2 h3 hcall
end Go.Proofs.YtkdahfeiedaahaaGreatDoor
namespace Go.Proofs.YtkdahfeiedaahaaGreatDoor
open Go
def pC{α:Type}(l:List α):Option (List α):=if l.length<=dw then some l else none
section
variable{P:Program}{GE:List (Nat×List PVal)}{T e:TypeId}{α:Type}{c:α->List PVal}
theorem PY{l r:List α}(h:pC l=some r):l.length<=dw/\r=l:=by
 unfold pC at h
 split at h
 ·rename_i hl;cases h;exact⟨hl,rfl⟩
 ·cases h
theorem JV.mapOk(s:JV P T e c)(l:List α):∀x∈l.map c,x.length=P.cellsOf e/\∀q∈x,q.one=true:=fun x hx=>by
 obtain⟨y,_,rfl⟩:=vah.1 hx
 exact⟨s.hc y,s.ho y⟩
theorem JV.cloneCC(s:JV P T e c){f:FuncId}(hC:tZ P f e){l r:List α}(h:pC l=some r):CC P GE f [sl c l] (sl c r) [(0,e)]:=by
 obtain⟨hl,rfl⟩:=PY h
 exact CC.clone hC ⟨aj s.cl r,trivial⟩ s.hp (s.mapOk r) (by simpa using hl)
end
theorem CN.ofSat{P:Program}{GE:List (Nat×List PVal)}{f:FuncId}{fn:Func}{c:Code}{args:List PVal}{r:PVal}{ro:List (Nat×TypeId)}{H':List aC}
  (hcall:∀vs w,(callFunc f vs).run P w=.ok (.enter f vs) w) (hfn:P.funcs[f]? =some fn) (hb:fn.body=some c)
  (hp:aW P GE 0 c (SP P fn.results.toList r ro H') ⟨args++List.replicate (fn.ntmps - args.length) .undef,[],[]⟩):CN P GE f args r ro H':=by
 refine⟨hcall,fun Γ w vs h=>calls_of_wp hfn hb ?_⟩
 have hT:∀b,¬bj [] (fun _=>none) b:=fun b hb=>by
  rcases hb with⟨i,hi⟩|hb
  ·simp at hi
  ·exact hb rfl
 have h0:SR P ⟨GE,Γ,w,bj [] fun _=>none⟩ Γ [] (fun _=>none) w (vs++Array.replicate (fn.ntmps - vs.size) undef) ⟨args++List.replicate (fn.ntmps - args.length) .undef,[],[]⟩:=by
  have hsz:vs.size=args.length:=h.sz
  exact{h with
   sz:=by simp[hsz]
   tm:=fun t p v hp hv=>by
    simp only at hp
    by_cases ht:t<args.length
    ·rw[vac ht]at hp
     rw[vaR (by omega)]at hv
     exact h.tm t p v hp hv
    ·rw[vaf (by omega),vaW]at hp
     split at hp<;>cases hp
     exact .undef v
   ot:=fun t k e he=>by simp at he}
 have hE:tC GE 0 ⟨GE,Γ,w,bj [] fun _=>none⟩:={
  ge:=rfl
  low:=fun b n hb=>h.lt_of_ghost hb
  nt:=fun _=>hT
  gl:=fun g cs hg=>(h.gl g cs hg).restrict (n:=0) (by simp only[PVal.cl];exact h.gc g cs hg) (fun i b hi _=>absurd hi (vaK _))}
 have hwp:=hp none ⟨GE,Γ,w,bj [] fun _=>none⟩ [] ⟨vs++Array.replicate (fn.ntmps - vs.size) undef,[]⟩ w hE rfl ⟨Γ,[],fun _=>none,h0,fun i _=>rfl⟩
 refine wp_mono hwp fun e a w' hq=>?_
 obtain⟨hd,st,⟨Γ1,bs1,ow1,hS,hk⟩,hQ⟩:=hq
 have key:(Fr P st fn.results.toList=some r/\r.cl H'.length/\dF H'.length st.boxes H'/\(∀x∈ro,(dH fn.results.toList x.1,x.2)∈st.own/\qP st fn.results.toList x.1)/\
   (∀x∈ro,∀y∈ro,dH fn.results.toList x.1=dH fn.results.toList y.1->x.1=y.1))->
   a.defers=[]/\∃v,(results fn a.tmps).run P w'=.ok v w'/\∃v' Γ' bs' ow',Ending.returned v=.returned v'/\SR P ⟨GE,Γ,w,bj [] fun _=>none⟩ Γ' bs' ow' w' #[v'] ⟨[r],H',ro.map fun x=>((0,x.1),x.2)⟩:=by
  rintro⟨k1,k2,k3,k4,k5⟩
  obtain⟨v,e1,e2,e3⟩:=tT hS k1
  refine⟨hd,v,e1,v,Γ1,bs1.take H'.length,y5 (dH fn.results.toList) ro ow1,rfl,?_⟩
  exact hS.finish (H':=H') (src:=dH fn.results.toList) (ro:=ro) e2 k2 k3 (fun x hx=>⟨(k4 x hx).1,fun u v'=>e3 x.1 u v' (k4 x hx).2⟩) k5
 have key2:GX P fn.results.toList r ro H' st->
   a.defers=[]/\∃v,(results fn a.tmps).run P w'=.ok v w'/\∃v' Γ' bs' ow',Ending.returned v=.returned v'/\SR P ⟨GE,Γ,w,bj [] fun _=>none⟩ Γ' bs' ow' w' #[v'] ⟨[r],H',ro.map fun x=>((0,x.1),x.2)⟩:=by
  intro hc
  obtain⟨v,ow',e1,e2⟩:=hS.finishCellG hc
  exact⟨hd,v,e1,v,Γ1,bs1.take H'.length,ow',rfl,e2⟩
 rcases hQ with hQ|⟨he,hQ⟩
 ·cases e with
  |normal=>exact key hQ
  |ret=>exact key hQ
  |exit id=>exact hQ.elim
  |goto l=>exact hQ.elim
  |panic c=>exact hQ.elim
  |outgrown=>exact hQ.elim
 ·rcases he with rfl|rfl
  ·exact key2 hQ
  ·exact key2 hQ
theorem CN.evN{P:Program}{GE:List (Nat×List PVal)}{A:List Nat}(hf:P.follows .mixedOrders=true){f:FuncId}{fn:Func}{c:Code}{args:List PVal}{r:PVal}{ro:List (Nat×TypeId)}{H':List aC}
  (hcall:∀vs w,(callFunc f vs).run P w=.ok (.enter f vs) w) (hfn:P.funcs[f]? =some fn) (hb:fn.body=some c) (sc:List It)
  (h:xO P GE A 0 c sc ⟨args++List.replicate (fn.ntmps - args.length) .undef,[],[]⟩ (W3 P fn.results.toList r ro H')):CN P GE f args r ro H':=
 CN.ofSat hcall hfn hb ((iV hf c sc _ _ h).imp fun e st hx=>by obtain⟨sc',hx⟩:=hx;exact hx.to)
def PS(_:List It)(F:Prop):Prop:=F
section
variable{sc:List It}{F X Y:Prop}
theorem en(h:F):PS [] F:=h
theorem sv{o:Option PVal}{p:PVal}(h:o=some p)(r:PS sc F):PS (.v p::sc) (o=some p/\F):=⟨h,r⟩
theorem bQ{o:List aC->Option PVal}{p:PVal}(h:∀H,o H=some p)(r:PS sc F):PS (.v p::sc) ((∀H,o H=some p)/\F):=⟨h,r⟩
theorem sx{o:Option (List PVal)}{l:List PVal}(h:o=some l)(r:PS sc F):PS (.x l::sc) (o=some l/\F):=⟨h,r⟩
theorem se{o:Option (List PVal)}{l:List PVal}(h:o=some l)(r:PS sc F):PS (.e l::sc) (o=some l/\F):=⟨h,r⟩
theorem sg(n:Nat){x b:Bool}(h:x=b)(r:PS sc F):PS (.g n b::sc) (x=b/\F):=⟨h,r⟩
theorem sk(r:PS sc F):PS (.k::sc) F:=r
theorem ss(r:PS sc F):PS (.s::sc) F:=r
theorem qbQ{o:Option (List PVal)}{l:List PVal}(h:o=some l)(r:PS sc F):PS (.s::sc) (o=some l/\F):=⟨h,r⟩
theorem cD{P:Program}{GE:List (Nat×List PVal)}{g:FuncId}{vs:List PVal}{p:PVal}{ro:List (Nat×TypeId)}(h:CC P GE g vs p ro)(r:PS sc F):PS (.c p ro::sc) (CC P GE g vs p ro/\F):=⟨h,r⟩
theorem sb{P:Program}{T:TypeId}{ps:List (Nat×PVal)}{p:PVal}{L:List (Nat×TypeId)}(h:dG P T ps=some p)(h':Fp P T ps L)(r:PS sc F):PS (.b p L::sc) (dG P T ps=some p/\Fp P T ps L/\F):=⟨h,h',r⟩
theorem sy{l vs:List PVal}(h:l=vs)(r:PS sc F):PS (.y vs::sc) (l=vs/\F):=⟨h,r⟩
theorem qcT{o:Option (List PVal)}{vs:List PVal}(h:o=some vs)(r:PS sc F):PS (.y vs::sc) (o=some vs/\F):=⟨h,r⟩
theorem sz{o:Option PVal}{l:List PVal}(h:o=some (.agg l))(r:PS sc F):PS (.z l::sc) (o=some (.agg l)/\F):=⟨h,r⟩
theorem G0(an:List Nat)(r:PS sc F):PS (.dr an::sc) F:=r
theorem nF(n:Nat)(r:PS sc F):PS (.pa n::sc) F:=r
theorem cT{P:Program}{GE:List (Nat×List PVal)}{m:Nat}{c:Code}{e:Exit}{s0 s1:aB}(h:aW P GE m c (EX e s1) s0)(r:PS sc F):PS (.pc s0 e s1::sc) ((s0.tmps=s0.tmps/\s0.boxes=s0.boxes/\true=true)/\aW P GE m c (EX e s1) s0/\F):=⟨fr s0,h,r⟩
theorem X8(i:It)(r:PS sc F):PS (i::sc) F:=r
theorem si(i:It)(h:X)(r:PS sc F):PS (i::sc) (X/\F):=⟨h,r⟩
theorem sf(h:X)(r:PS sc F):PS sc (X/\F):=⟨h,r⟩
theorem qbw{o:Option (List (PVal×PVal))}{m:List (PVal×PVal)}(h:o=some m)(r:PS sc F):PS (.w 0 (.map m)::sc) (o=some m/\F):=⟨h,r⟩
theorem qbv(i:Nat)(es:List (List PVal))(lv rk:List Nat)(h:X)(h':Y){Z:Prop}(h'':Z)(r:PS sc F):PS (.fz i es lv rk::sc) (X/\Y/\Z/\F):=⟨h,h',h'',r⟩
end
section
variable{P:Program}{GE:List (Nat×List PVal)}{A:List Nat}{m:Nat}
theorem qN(hf:P.follows .mixedOrders=true){c:Code}{e0:Exit}{st0 st:aB}{sc:List It}{F:Prop}(h:PS sc F)(he:F=xO P GE A m c sc st (FN e0 st0)):aW P GE m c (EX e0 st0) st:=piece hf sc (Eq.mp he h)
theorem Zk(hf:P.follows .mixedOrders=true){σ X:Type}{S:σ->aB}{ex:X->Exit}{so:X->aB}{c:Code}{s:σ}{st:aB}{sc:List It}{F:Prop}(h:PS sc F)(he:F=xO P GE A m c sc st (FN .normal (S s))):aW P GE m c (LQ S ex so (.inl s)) st:=next hf sc (Eq.mp he h)
theorem Zq(hf:P.follows .mixedOrders=true){σ X:Type}{S:σ->aB}{ex:X->Exit}{so:X->aB}{c:Code}{x:X}{st:aB}{sc:List It}{F:Prop}(hn:ex x≠.normal)(h:PS sc F)(he:F=xO P GE A m c sc st (FN (ex x) (so x))):aW P GE m c (LQ S ex so (.inr x)) st:=qbm hf sc hn (Eq.mp he h)
theorem C.evp(hf:P.follows .mixedOrders=true){f:FuncId}{fn:Func}{c:Code}{args:List PVal}{r:PVal}{ro:List (Nat×TypeId)}
  (hcall:∀vs w,(callFunc f vs).run P w=.ok (.enter f vs) w) (hfn:P.funcs[f]? =some fn) (hb:fn.body=some c) (hcl:jl 0 args) {sc:List It} {F:Prop} (h:PS sc F)
  (he:F=xO P GE A 0 c sc ⟨args++List.replicate (fn.ntmps - args.length) .undef,[],[]⟩ (FR P fn.results.toList r ro)):CC P GE f args r ro:=C.ev hf hcall hfn hb hcl sc (Eq.mp he h)
theorem C.evGp(hf:P.follows .mixedOrders=true){f:FuncId}{fn:Func}{c:Code}{args:List PVal}{oa:List ((Nat×Nat)×TypeId)}{H:List aC}{r:PVal}{ro:List (Nat×TypeId)}{H':List aC}
  (hm:decide (m % 1000=H.length)&&decide (m≠0)&&decide (H'.length=H.length)=true) (hcall:∀vs w,(callFunc f vs).run P w=.ok (.enter f vs) w) (hfn:P.funcs[f]? =some fn) (hb:fn.body=some c) {sc:List It} {F:Prop} (h:PS sc F)
  (he:F=xO P GE A m c sc ⟨args++List.replicate (fn.ntmps - args.length) .undef,H,oa⟩ (W3 P fn.results.toList r ro H')):C P GE f args oa H r ro H':=C.evG hf hm hcall hfn hb sc (Eq.mp he h)
theorem CN.evNp(hf:P.follows .mixedOrders=true){f:FuncId}{fn:Func}{c:Code}{args:List PVal}{r:PVal}{ro:List (Nat×TypeId)}{H':List aC}
  (hcall:∀vs w,(callFunc f vs).run P w=.ok (.enter f vs) w) (hfn:P.funcs[f]? =some fn) (hb:fn.body=some c) {sc:List It} {F:Prop} (h:PS sc F)
  (he:F=xO P GE A 0 c sc ⟨args++List.replicate (fn.ntmps - args.length) .undef,[],[]⟩ (W3 P fn.results.toList r ro H')):CN P GE f args r ro H':=CN.evN hf hcall hfn hb sc (Eq.mp he h)
end
section
variable{P:Program}{GE:List (Nat×List PVal)}{A:List Nat}{m:Nat}
theorem dy(hf:P.follows .mixedOrders=true){σ X:Type}{S:σ->aB}{ex:X->Exit}{so:X->aB}{c:Code}{s:σ}{st:aB}{sc:List It}{F:Prop}(h:PS sc F)(he:F=xO P GE A m c sc st (YC m .normal (S s))):aW P GE m c (LQ S ex so (.inl s)) st:=Zl hf sc (Eq.mp he h)
theorem sF(hf:P.follows .mixedOrders=true){σ X:Type}{S:σ->aB}{ex:X->Exit}{so:X->aB}{c:Code}{x:X}{st:aB}{sc:List It}{F:Prop}(hn:ex x≠.normal)(h:PS sc F)(he:F=xO P GE A m c sc st (YC m (ex x) (so x))):aW P GE m c (LQ S ex so (.inr x)) st:=Zr hf sc hn (Eq.mp he h)
end
def tm(n:Nat):Nat->List (Nat×PVal)->List PVal
 |k,[]=>List.replicate (n - k) .undef
 |k,x::l=>List.replicate (x.1 - k) .undef++x.2::tm n (x.1+1) l
abbrev aS(n:Nat)(l:List (Nat×PVal))(H:List aC)(o:List ((Nat×Nat)×TypeId)):aB:=⟨tm n 0 l,H,o⟩
def XW(n:Nat):List (Nat×PVal)->Prop
 |[]=>True
 |x::l=>x.2.cl n/\XW n l
theorem OF{n:Nat}{l:List PVal}(h:jl n l):∀k,jl n (List.replicate k .undef++l)
 |0=>h
 |k+1=>by rw[List.replicate_succ,vaF];exact⟨trivial,OF h k⟩
theorem du{n N:Nat}:∀{l:List (Nat×PVal)} {k:Nat},XW n l->jl n (tm N k l)
 |[],k,_=>by unfold tm;have:=OF (n:=n) (l:=[]) trivial (N - k);rwa[va9]at this
 |x::l,k,h=>by unfold tm;exact OF (l:=x.2::tm N (x.1+1) l) (by simp only[jl];exact⟨h.1,du h.2⟩) _
def bits:Nat->Nat->List Bool->List Bool
 |0,_,l=>l
 |k+1,n,l=>if n<=1 then l else bits k (n / 2) ((n % 2==1)::l)
def cA(c:Code)(n:Nat):Code:=bg c (bits 100 n [])
section
variable{X Y:Type}
def rE(F:(X->Option Y)->X->Option Y)(x:X):Option Y:=Yr F Wj x
theorem XN:18446744073709551616<Wj:=by unfold Wj;omega
theorem ek{F:(X->Option Y)->X->Option Y}{M:X->Y->Prop}(hF:∀rec:X->Option Y,(∀x r,rec x=some r->M x r)->∀x r,F rec x=some r->M x r){x:X}{r:Y}(h:rE F x=some r):M x r:=by
 have key:∀n x r,Yr F n x=some r->M x r:=by
  intro n
  induction n with
  |zero=>intro x r h;cases h
  |succ n ih=>intro x r h;exact hF _ ih x r h
 exact key _ x r h
theorem OS{F:(X->Option Y)->X->Option Y}(μ:X->Nat)(Q:X->Prop)(s:X->Y)(h:∀(R:X->Option Y) x,Q x->(∀y,μ y<μ x->Q y->R y=some (s y))->F R x=some (s x))(x:X)(hx:Q x)(hm:μ x<Wj):rE F x=some (s x):=by
 have key:∀n x,μ x<n->Q x->Yr F n x=some (s x):=by
  intro n
  induction n with
  |zero=>intro x hx;omega
  |succ n ih=>intro x hx hq;exact h _ x hq fun y hy hqy=>ih y (by omega) hqy
 exact key _ x hm hx
end
section
variable{P:Program}{GE:List (Nat×List PVal)}{T e:TypeId}{α:Type}{c:α->List PVal}
theorem qba{m b:Nat}(hb:decide (m % 1000<=b)=true)(l:List PVal)(hl:decide (l.length≠0)=true):(m % 1000<=b)/\∃sz,0<sz/\∀x∈[l],x.length=sz:=⟨va3 hb,l.length,by have:=va3 hl;omega,fun x hx=>by rw[vaX.1 hx]⟩
theorem qbb(b:Nat){l:List PVal}(h:jl 0 l):LN b [l]:=Fj b _ ⟨h,trivial⟩
theorem qbp(l:List PVal):l=l:=rfl
theorem qbc{l r:List PVal}(h:r=l):l=[r].flatten:=by rw[h];simp
theorem LS(b:Nat){p:PVal}(h:p.cl 0):p.no b:=LO b p h
theorem J3(b:Nat){p:List PVal}(h:jl 0 p):(PVal.eptr p).no b:=LO b _ h
end
theorem eF(e:Exit)(s:aB):PS [] (e=e/\s.tmps=s.tmps/\s.boxes=s.boxes/\true=true):=⟨rfl,fr s⟩
theorem tr(m:Nat)(e:Exit)(s:aB)(h4:decide (m % 1000<=s.boxes.length)=true)(h5:jl s.boxes.length s.tmps)(h6:OE s.boxes.length s.boxes):PS [] (e=e/\s.tmps=s.tmps/\s.boxes=s.boxes/\true=true/\decide (m % 1000<=s.boxes.length)=true/\jl s.boxes.length s.tmps/\OE s.boxes.length s.boxes):=⟨rfl,qcN m s h4 h5 h6⟩
end Go.Proofs.YtkdahfeiedaahaaGreatDoor
