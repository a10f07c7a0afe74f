/- PROVED: a part of the proof. Conditions: none. -/
import Derived.Test.YtggeppllafbidaaGreatDoorPkB8
import Derived.LaidLaws
import Derived.Test.YtggeppllafbidaaGreatDoorRows
import Derived.Test.YtggeppllafbidaaGreatDoorPkB4
import Derived.Shelf.SlicesE.Clone
import Derived.Test.YtggeppllafbidaaGreatDoorChecked
noncomputable section
namespace Go.Proofs.YtggeppllafbidaaGreatDoor
open Go Go.RowKit Go.WideShapes Go.ChangeShapes Go.ChangeAt
section
variable{P:Program}{W:World}
theorem Ct:∀{laid:List (String×DataW Unit)} {ps:List MemPlace} {name:String} {d:DataW Unit},DataW.LaidVars P W laid ps->(name,d)∈laid->
  ∃g t cs fuel p,P.globalNamed name=some g/\(P.globals[g]?).map (·.type)=some t/\W.var? P name=some cs/\DataW.trod (fun _=>()) P W 0 (fun _=>true) false fuel t cs.toList=some (d,p)
 |[],_,_,_,_,hm=>by cases hm
 |(n,d')::r,ps,name,d,⟨g,t,cs,fuel,p,q,h1,h2,h3,h4,h5,_⟩,hm=>by
  cases hm with
  |head=>exact⟨g,t,cs,fuel,p,h1,h2,h3,h4⟩
  |tail _ hm=>exact Ct h5 hm
theorem GR{name:String}{g:Nat}{cs:Array Value}(hg:P.globalNamed name=some g)(h:W.var? P name=some cs):∃t fr,W.heap[g]? =some (.cells cs t fr):=by
 unfold World.var? at h
 rw[hg]at h
 simp only[vab]at h
 split at h
 ·rename_i c t fr hh
  cases h
  exact⟨t,fr,hh⟩
 ·cases h
def FB{H:Type}(l:List ai):DataW H:=.agg (l.map fun s=>.lit (.string s))
theorem DG{H:Type}{enc:TypeId×Value->H}{base:Nat}{sp:Nat->Bool}{held:Bool}{fuel:Nat}{t e:TypeId}{n:Nat}{cs:List Value}{zs:List ai}{p:List MemPlace}
  (ht:P.underlying t=some (.array n e)) (he:P.underlying e=some .string) (hce:P.cellsOf e=1) (hct:P.cellsOf t=n)
  (h:DataW.trod enc P W base sp held fuel t cs=some (FB zs,p)):cs=zs.map fun z=>Value.string ⟨z.toArray⟩:=by
 cases fuel with
 |zero=>simp[DataW.trod]at h
 | succ fuel =>
  simp only[DataW.trod,ht,hce,hct,vbW]at h
  split at h
  ·rename_i hl
   obtain⟨xs,hm,hx⟩:=vaA.1 h
   have hxs:xs.map (·.1)=zs.map fun z=>(DataW.lit (.string z):DataW H):=by
    have:=vbe Prod.fst hx
    simpa[FB]using this
   have hxl:xs.length=n:=by simpa using Lib.mapM_length hm
   have hzl:zs.length=n:=by
    have:=vbe List.length hxs
    simp at this
    omega
   apply va5
   intro i
   by_cases hi:i<n
   ·obtain⟨b,hb,hf⟩:=Lib.mapM_at hm i i (by simp[hi])
    obtain⟨z,hc,rfl,_⟩:=DataW.trod_string he hf
    have h1:cs[i]? =some (.string z):=by
     have:=vbe (·[0]?) hc
     simpa[List.getElem?_take,vaX]using this
    have h2:(xs.map (·.1))[i]? =some (DataW.lit (.string z.data.toList):DataW H):=by simp[hb]
    rw[hxs]at h2
    simp only[vat,vaA,DataW.lit.injEq,Lit.string.injEq]at h2
    obtain⟨z',hz',h3⟩:=h2
    simp only[h1,vat,hz',vad,h3]
   ·rw[vax (by omega),vax (by simp;omega)]
  ·cases h
theorem J0{x:Nat}{pv:List PVal}{cs:Array Value}{t:TypeId}{fr:Nat×Nat}(hh:W.heap[x]? =some (.cells cs t fr))(hcl:hX 0 pv)(hs:cs.size=pv.length)(hv:∀(i:Nat) p v,pv[i]? =some p->cs[i]? =some v->VR (rh W) [] W p v):Nt W (x,pv):=
 ⟨hcl,cs,t,fr,hh,hs,hv⟩
theorem Ck{laid:List (String×DataW Unit)}{name:String}{d:DataW Unit}{g:Nat}{t e:TypeId}{n:Nat}{k:IntKind}{zs:List Int}(hL:laidMet P laid W)(hm:(name,d)∈laid)(hd:d=Lib.tabData k zs)
  (hg:P.globalNamed name=some g) (hty:(P.globals[g]?).map (·.type)=some t) (ht:P.underlying t=some (.array n e)) (he:P.underlying e=some (.int k)) (hce:P.cellsOf e=1) (hct:P.cellsOf t=n):Nt W (g,zs.map (PVal.int k)):=by
 obtain⟨ps,hV,_⟩:=hL
 obtain⟨g',t',cs,fuel,p,h1,h2,h3,h4⟩:=Ct hV hm
 obtain rfl:=vbd (hg.symm.trans h1)
 obtain rfl:=vbd (hty.symm.trans h2)
 subst hd
 have hc:=Lib.cells_of_tab ht he hce hct h4
 obtain⟨ty,fr,hh⟩:=GR hg h3
 refine J0 hh (Hd fun q hq=>?_) (by simpa using vbe List.length hc) (fun i q v hq hv=>?_)
 ·obtain⟨z,_,rfl⟩:=van.1 hq
  simp[PVal.cl]
 ·rw[<-vaJ,hc]at hv
  simp only[vat,vaA]at hq hv
  obtain⟨z,hz,rfl⟩:=hq
  obtain⟨z',hz',rfl⟩:=hv
  cases hz.symm.trans hz'
  exact .int _ _
theorem J1{laid:List (String×DataW Unit)}{name:String}{d:DataW Unit}{g:Nat}{t e:TypeId}{n:Nat}{zs:List ai}(hL:laidMet P laid W)(hm:(name,d)∈laid)(hd:d=FB zs)
  (hg:P.globalNamed name=some g) (hty:(P.globals[g]?).map (·.type)=some t) (ht:P.underlying t=some (.array n e)) (he:P.underlying e=some .string) (hce:P.cellsOf e=1) (hct:P.cellsOf t=n):Nt W (g,zs.map PVal.str):=by
 obtain⟨ps,hV,_⟩:=hL
 obtain⟨g',t',cs,fuel,p,h1,h2,h3,h4⟩:=Ct hV hm
 obtain rfl:=vbd (hg.symm.trans h1)
 obtain rfl:=vbd (hty.symm.trans h2)
 subst hd
 have hc:=DG ht he hce hct h4
 obtain⟨ty,fr,hh⟩:=GR hg h3
 refine J0 hh (Hd fun q hq=>?_) (by simpa using vbe List.length hc) (fun i q v hq hv=>?_)
 ·obtain⟨z,_,rfl⟩:=van.1 hq
  simp[PVal.cl]
 ·rw[<-vaJ,hc]at hv
  simp only[vat,vaA]at hq hv
  obtain⟨z,hz,rfl⟩:=hq
  obtain⟨z',hz',rfl⟩:=hv
  cases hz.symm.trans hz'
  exact .str _
end
def N3(w:World)(l:List (Nat×Array Value)):World:={w with heap:=l.foldl (fun h x=>h.modify x.1 fun|.cells _ t fr=>.cells x.2 t fr|o=>o) w.heap}
def Q7:PVal->Value
 |.int k n=>.int k n
 |.str s=>.string ⟨s.toArray⟩
 |.bool b=>.bool b
 |_=>undef
def MY(l:List (Nat×List PVal)):List (Nat×Array Value):=l.map fun x=>(x.1,(x.2.map Q7).toArray)
set_option linter.unusedVariables false
mutual
def pm:PVal->Nat
 |.str s=>s.length+1
 |.slice es=>mY es+1
 |.int _ _=>1
 |.bool _=>1
 |_=>0
def vQ:List PVal->Nat
 |[]=>0
 |p::l=>pm p+vQ l
def mY:List (List PVal)->Nat
 |[]=>0
 |x::r=>vQ x+mY r
end
theorem rA:∀(a b:List PVal),vQ (a++b)=vQ a+vQ b
 |[],b=>by simp[vQ]
 |p::a,b=>by simp only[vbo,vQ,rA a b];omega
def OK(P:Program)(S:TypeId->List PVal->Prop):List Field->List PVal->Prop
 |[],l=>l=[]
 |f::fs,l=>∃a b,l=a++b/\a.length=P.cellsOf f.type/\S f.type a/\OK P S fs b
def Sh(P:Program):Nat->TypeId->List PVal->Prop
 |0,_,_=>False
 |n+1,t,l=>match P.underlying t with
  |some .bool=>∃b,l=[.bool b]
  |some (.int k)=>∃i,l=[.int k i]/\(Lit.int k i).wf=true
  |some .string=>∃s:ai,l=[.str s]/\s.length<=maxLen
  |some (.slice e)=>∃es,l=[.slice es]/\es.length<=maxLen/\∀x∈es,Sh P n e x
  |some (.struct fs)=>OK P (Sh P n) fs.toList l
  |_=>True
def uy(P:Program):Nat->List Field->Nat->Bool
 |o,[],n=>decide (o=n)
 |o,f::fs,n=>decide (f.offset=o)&&uy P (o+P.cellsOf f.type) fs n
theorem Ia{α:Type}{Q:Nat->α->Prop}:∀{n:Nat},(∀i,i<n->∃x,Q i x)->∃l:List α,l.length=n/\∀(i:Nat) x,l[i]? =some x->Q i x
 |0,_=>⟨[],rfl,fun i x h=>by simp at h⟩
 | n + 1,h => by
  obtain⟨l,hl,hq⟩:=Ia (n:=n) fun i hi=>h i (by omega)
  obtain⟨x,hx⟩:=h n (by omega)
  refine⟨l++[x],by simp[hl],fun i y hy=>?_⟩
  by_cases hi:i<l.length
  ·rw[vac hi]at hy;exact hq i y hy
  ·have hlt:=aj hy
   simp at hlt
   have:i=l.length:=by omega
   subst this
   rw[vae (vaq _)]at hy
   simp at hy;subst hy;rw[hl];exact hx
theorem HS{H:Type}:∀{es:List (List PVal)} {ds:List (DataW H)},es.length=ds.length->(∀(i:Nat) x d,es[i]? =some x->ds[i]? =some d->vQ x<=Rows.uptoBulk d)->mY es<=Rows.uptoBulkAll ds
 |[],[],_,_=>by simp[mY,Rows.uptoBulkAll]
 |x::es,d::ds,hl,h=>by
  have h1:=h 0 x d rfl rfl
  have h2:=HS (es:=es) (ds:=ds) (by simpa using hl) fun i x d hx hd=>h (i+1) x d (by simpa using hx) (by simpa using hd)
  simp only[mY,Rows.uptoBulkAll];omega
section
variable{H:Type}{enc:TypeId×Value->H}{P:Program}{W:World}{base:Nat}{sp:Nat->Bool}{held:Bool}
def Nu(P:Program)(W:World)(n:Nat)(t:TypeId)(cs:List Value)(b:Nat):Prop:=
 ∃l:List PVal,l.length=cs.length/\(∀(i:Nat) p v,l[i]? =some p->cs[i]? =some v->VR (rh W) [] W p v)/\Sh P n t l/\vQ l<=b
theorem Nu.one{n:Nat}{t:TypeId}{p:PVal}{v:Value}{b:Nat}(h:VR (rh W) [] W p v)(hs:Sh P n t [p])(hb:pm p<=b):Nu P W n t [v] b:=
 ⟨[p],rfl,fun i q u hq hu=>by
  cases i with
  |zero=>simp at hq hu;subst hq;subst hu;exact h
  |succ i=>simp at hq,hs,by simp only[vQ];omega⟩
theorem Ei{L:List TypeId}{fuel:Nat}(ih:∀(t:TypeId),t∈L->∀(cs:List Value) (d:DataW H) (p:List MemPlace),DataW.trod enc P W base sp held fuel t cs=some (d,p)->Nu P W fuel t cs (Rows.uptoBulk d)){cs:List Value}:∀{fs:List Field} {o n:Nat} {xs:List (DataW H×List MemPlace)},(∀f∈fs,f.type∈L)->n<=cs.length->uy P o fs n=true->fs.mapM (fun f=>DataW.trod enc P W base sp held fuel f.type ((cs.drop f.offset).take (P.cellsOf f.type)))=some xs->
   o<=n/\∃l:List PVal,l.length=n - o/\(∀(i:Nat) p v,l[i]? =some p->cs[o+i]? =some v->VR (rh W) [] W p v)/\OK P (Sh P fuel) fs l/\vQ l<=Rows.uptoBulkAll (xs.map (·.1))
 |[],o,n,xs,_,hn,hc,h=>by
  unfold uy at hc
  have:o=n:=by simpa using hc
  subst this
  exact⟨vaq _,[],by simp,fun i p v hp=>by simp at hp,rfl,by simp[vQ]⟩
 | f :: fs,o,n,xs,hL,hn,hc,h => by
  unfold uy at hc
  simp only[vah,vap]at hc
  obtain⟨hfo,hc⟩:=hc
  simp only[vbK,Option.bind_eq_bind,va6,Option.pure_def,vao]at h
  obtain⟨⟨d,p⟩,hd,xs',hxs,rfl⟩:=h
  obtain⟨ho,l2,k1,k2,k3,k4⟩:=Ei ih (fun g hg=>hL g (vaM _ hg)) hn hc hxs
  obtain⟨l1,q1,q2,q3,q4⟩:=ih _ (hL f (by simp)) _ _ _ hd
  have hl1:l1.length=P.cellsOf f.type:=by rw[q1,vbf,vbz,hfo];omega
  refine⟨by omega,l1++l2,by simp[hl1,k1];omega,fun i q v hq hv=>?_,⟨l1,l2,rfl,hl1,q3,k3⟩,by rw[rA];simp only[vaQ,Rows.uptoBulkAll];omega⟩
  by_cases hi:i<l1.length
  ·rw[vac hi]at hq
   refine q2 i q v hq ?_
   rw[vak (by omega),vaX,hfo]
   exact hv
  ·rw[vae (by omega)]at hq
   refine k2 (i - l1.length) q v hq ?_
   rw[<-hv,hl1]
   congr 1
   rw[hl1]at hi
   omega
theorem LK{fuel:Nat}{t:TypeId}{cs:List Value}{x:DataW H×List MemPlace}(ht:P.underlying t=some .bool)(h:DataW.trod enc P W base sp held (fuel+1) t cs=some x):∃b,cs=[.bool b]/\x.1=.lit (.bool b):=by
 unfold DataW.trod at h
 rw[ht]at h
 split at h<;>simp_all
 exact h▸rfl
theorem MZ{fuel:Nat}{t:TypeId}{cs:List Value}{k:IntKind}{x:DataW H×List MemPlace}(ht:P.underlying t=some (.int k))(h:DataW.trod enc P W base sp held (fuel+1) t cs=some x):∃n,cs=[.int k n]/\(Lit.int k n).wf=true/\x.1=.lit (.int k n):=by
 unfold DataW.trod at h
 rw[ht]at h
 cases cs with
 |nil=>simp at h
 | cons v r =>
  cases r with
  |cons _ _=>simp at h
  |nil=>
   cases v<;>simp at h
   obtain⟨⟨rfl,h1⟩,rfl⟩:=h
   exact⟨_,rfl,h1,rfl⟩
theorem Jn{fuel:Nat}{t:TypeId}{cs:List Value}{x:DataW H×List MemPlace}(ht:P.underlying t=some .string)(h:DataW.trod enc P W base sp held (fuel+1) t cs=some x):∃s:ByteArray,cs=[.string s]/\s.size<=maxLen/\x.1=.lit (.string s.data.toList):=by
 unfold DataW.trod at h
 rw[ht]at h
 split at h<;>simp_all
 exact h.2▸rfl
theorem KH{fuel:Nat}{t e:TypeId}{cs:List Value}{x:DataW H×List MemPlace}(ht:P.underlying t=some (.slice e))(h:DataW.trod enc P W base sp held (fuel+1) t cs=some x):(cs=[.slice none 0 0]/\x.1=.nil)\/∃a len cap elems rest,cs=[.slice (some a) len cap]/\len<=cap/\cap<=maxLen/\x.1=.slice (elems.map (·.1)) rest/\
   (List.range len).mapM (fun i=>(W.cells? base (a.add (i * P.cellsOf e)) (P.cellsOf e)).bind (DataW.trod enc P W base sp held fuel e))=some elems:=by
 unfold DataW.trod at h
 rw[ht]at h
 cases cs with
 |nil=>simp at h
 | cons v r =>
  cases r with
  |cons _ _=>simp at h
  | nil =>
   cases v<;>try (simp at h;done)
   rename_i ad len cap
   cases ad with
   |none=>
    left
    match len,cap,h with
    |0,0,h=>simp at h;exact⟨rfl,h▸rfl⟩
    |0,c+1,h=>simp at h
    |n+1,c,h=>simp at h
   | some a =>
    right
    simp only at h
    split at h
    ·rename_i hc
     obtain⟨elems,h1,h2⟩:=va6.1 h
     obtain⟨rest,h3,h4⟩:=vaA.1 h2
     exact⟨a,len,cap,elems,rest.map (·.1),rfl,hc.2.1,hc.2.2,by rw[<-h4],h1⟩
    ·cases h
theorem Jo{fuel:Nat}{t:TypeId}{cs:List Value}{fs:Array Field}{x:DataW H×List MemPlace}(ht:P.underlying t=some (.struct fs))(h:DataW.trod enc P W base sp held (fuel+1) t cs=some x):cs.length=P.cellsOf t/\∃xs,fs.toList.mapM (fun f=>DataW.trod enc P W base sp held fuel f.type ((cs.drop f.offset).take (P.cellsOf f.type)))=some xs/\x.1=.agg (xs.map (·.1)):=by
 unfold DataW.trod at h
 rw[ht]at h
 simp only at h
 split at h
 ·rename_i hl
  obtain⟨xs,h1,h2⟩:=vaA.1 h
  exact⟨hl,xs,h1,by rw[<-h2]⟩
 ·cases h
theorem FQ(a:Addr):a.add 0=a:=by unfold Addr.add;simp
theorem Jk{w:World}{a:Addr}{v:Value}(h:w.cell? a=some v):a.spot=none:=by
 unfold World.cell? at h
 split at h
 ·split at h
  ·cases h
  ·rename_i hs;simpa using hs
 ·cases h
structure Iv(P:Program)(L:List TypeId):Prop where
 st:∀t∈L,∀fs,P.underlying t=some (.struct fs)->uy P 0 fs.toList (P.cellsOf t)=true/\∀f∈fs.toList,f.type∈L
 sl:∀t∈L,∀e,P.underlying t=some (.slice e)->0<P.cellsOf e/\e∈L
def JY(P:Program)(L:List TypeId)(t:TypeId):Bool:=match P.underlying t with
 |some (.struct fs)=>uy P 0 fs.toList (P.cellsOf t)&&fs.toList.all fun f=>L.contains f.type
 |some (.slice e)=>decide (0<P.cellsOf e)&&L.contains e
 |_=>true
theorem Ll{L:List TypeId}(h:L.all (JY P L)=true):Iv P L:=by
 refine⟨fun t ht fs hu=>?_,fun t ht e hu=>?_⟩
 ·have:=vau.1 h t ht
  unfold JY at this
  rw[hu]at this
  simp only[vah,vau,List.contains_iff_mem]at this
  exact this
 ·have:=vau.1 h t ht
  unfold JY at this
  rw[hu]at this
  simpa using this
theorem Ho{L:List TypeId}(hF:Iv P L):∀(fuel:Nat) (t:TypeId),t∈L->∀(cs:List Value) (d:DataW H) (p:List MemPlace),DataW.trod enc P W base sp held fuel t cs=some (d,p)->Nu P W fuel t cs (Rows.uptoBulk d)
 |0,t,_,cs,d,p,h=>by simp[DataW.trod]at h
 | fuel + 1,t,htL,cs,d,p,h => by
  have ih:=Ho hF fuel
  have other:(∀l,Sh P (fuel+1) t l)->Nu P W (fuel+1) t cs (Rows.uptoBulk d):=fun hs=>by
   refine⟨cs.map .val,by simp,fun i q v hq hv=>?_,hs _,?_⟩
   ·simp only[vat,hv,vad,vao]at hq
    subst hq;exact .val v
   ·have:∀cs:List Value,vQ (cs.map .val)=0:=by
     intro cs
     induction cs with
     |nil=>rfl
     |cons c cs ih=>simp only[vaQ,vQ,ih,pm]
    rw[this];exact vaL _
  cases hu:P.underlying t with
  |none=>exact other fun l=>by unfold Sh;rw[hu];trivial
  | some u =>
   cases u with
   |bool=>
    obtain⟨b,rfl,hx⟩:=LK hu h
    simp only at hx;subst hx
    exact .one (.bool b) (by unfold Sh;rw[hu];exact⟨b,rfl⟩) (by simp[pm,Rows.uptoBulk])
   |int k=>
    obtain⟨n,rfl,hw,hx⟩:=MZ hu h
    simp only at hx;subst hx
    exact .one (.int k n) (by unfold Sh;rw[hu];exact⟨n,rfl,hw⟩) (by simp[pm,Rows.uptoBulk])
   |string=>
    obtain⟨s,rfl,hl,hx⟩:=Jn hu h
    simp only at hx;subst hx
    exact .one (.str s.data.toList) (by unfold Sh;rw[hu];exact⟨s.data.toList,rfl,by rw[Array.length_toList];exact hl⟩) (by simp[pm,Rows.uptoBulk])
   |struct fs=>
    obtain⟨hl,xs,hxs,hx⟩:=Jo hu h
    simp only at hx;subst hx
    obtain⟨_,l,k1,k2,k3,k4⟩:=Ei ih (hF.st t htL fs hu).2 (by omega) (hF.st t htL fs hu).1 hxs
    refine⟨l,by omega,fun i q v hq hv=>k2 i q v hq (by rw[vaB];exact hv),by unfold Sh;rw[hu];exact k3,by simp only[Rows.uptoBulk];omega⟩
   | slice e =>
    obtain⟨hz,heL⟩:=hF.sl t htL e hu
    rcases KH hu h with⟨rfl,hx⟩|⟨a,len,cap,elems,rest,rfl,hlc,hcm,hx,hm⟩
    ·simp only at hx;subst hx
     exact .one .sliceNil (by unfold Sh;rw[hu];exact⟨[],rfl,by simp,by simp⟩) (by simp[pm,mY,Rows.uptoBulk])
    simp only at hx;subst hx
    have hel:elems.length=len:=by simpa using Lib.mapM_length hm
    have hat:∀i,i<len->∃x:List PVal,∃ci y,elems[i]? =some y/\W.cells? base (a.add (i * P.cellsOf e)) (P.cellsOf e)=some ci/\x.length=ci.length/\(∀(k:Nat) q v,x[k]? =some q->ci[k]? =some v->VR (rh W) [] W q v)/\Sh P fuel e x/\vQ x<=Rows.uptoBulk y.1:=fun i hi=>by
     obtain⟨y,hy,hb⟩:=Lib.mapM_at hm i i (by simp[hi])
     obtain⟨ci,hci,hd⟩:=va6.1 hb
     obtain⟨x,k1,k2,k3,k4⟩:=ih e heL ci y.1 y.2 hd
     exact⟨x,ci,y,hy,hci,k1,k2,k3,k4⟩
    obtain⟨es,hes,hq⟩:=Ia hat
    have hbulk:mY es<=Rows.uptoBulkAll (elems.map (·.1)):=HS (by simp[hes,hel]) fun i x d hx hd=>by
     obtain⟨ci,y,hy,_,_,_,_,hle⟩:=hq i x hx
     simp only[vat,hy,vad,vao]at hd
     subst hd;exact hle
    have hsh:Sh P (fuel+1) t [.slice es]:=by
     unfold Sh;rw[hu]
     refine⟨es,rfl,by omega,fun x hx=>?_⟩
     obtain⟨i,hi⟩:=va4.1 hx
     obtain⟨_,_,_,_,_,_,hs,_⟩:=hq i x hi
     exact hs
    refine .one ?_ hsh (by simp only[pm,Rows.uptoBulk];omega)
    by_cases h0:len=0
    ·subst h0
     obtain rfl:es=[]:=vai hes
     exact .sliceE a cap
    ·have hcell:∀i,i<len->∀k,k<P.cellsOf e->∃(x:List PVal) (ci:List Value),es[i]? =some x/\W.cell? ((a.add (i * P.cellsOf e)).add k)=ci[k]?/\ci.length=P.cellsOf e/\x.length=ci.length/\(∀(k:Nat) q v,x[k]? =some q->ci[k]? =some v->VR (rh W) [] W q v):=fun i hi k hk=>by
      have hx:es[i]? =some es[i]:=vaa (by omega)
      obtain⟨ci,y,hy,hc,hl,hv,_,_⟩:=hq i _ hx
      obtain⟨_,hcl,hcc⟩:=World.cells?_some hc
      exact⟨_,ci,hx,hcc k hk,hcl,hl,hv⟩
     have hspot:a.spot=none:=by
      obtain⟨x,ci,_,h2,h3,_,_⟩:=hcell 0 (by omega) 0 hz
      rw[vci,FQ,FQ,vaa (by omega)]at h2
      exact Jk h2
     obtain⟨ab,ao,asp⟩:=a
     simp only at hspot;subst hspot
     have hadd:∀i k,((⟨ab,ao,none⟩:Addr).add (i * P.cellsOf e)).add k=⟨ab,ao+i * P.cellsOf e+k,none⟩:=fun i k=>by
      rw[FP ⟨ab,ao,none⟩ _ rfl,FP _ _ rfl]
     have hcl:∀(i:Nat) x (k:Nat) q,es[i]? =some x->x[k]? =some q->∃v,W.cell? ⟨ab,ao+i * P.cellsOf e+k,none⟩=some v/\VR (rh W) [] W q v:=fun i x k q hx hqk=>by
      have hi:i<len:=by have:=aj hx;omega
      obtain⟨ci,y,hy,hc,hl,hv,_,_⟩:=hq i x hx
      obtain⟨_,hcl,hcc⟩:=World.cells?_some hc
      have hk:k<P.cellsOf e:=by have:=aj hqk;omega
      have hck:ci[k]? =some ci[k]:=vaa (by omega)
      refine⟨ci[k],?_,hv k q _ hqk hck⟩
      rw[<-hadd,hcc k hk,hck]
     have hlen:∀(i:Nat) x,es[i]? =some x->x.length=P.cellsOf e:=fun i x hx=>by
      obtain⟨ci,y,hy,hc,hl,_,_,_⟩:=hq i x hx
      exact hl.trans (World.cells?_some hc).2.1
     obtain⟨c,ty,fr,hh⟩:∃c ty fr,W.heap[ab]? =some (.cells c ty fr):=by
      obtain⟨x,ci,h1,h2,h3,h4,_⟩:=hcell 0 (by omega) 0 hz
      rw[hadd,vaa (by omega)]at h2
      unfold World.cell? at h2
      split at h2
      ·rename_i c ty fr hh;exact⟨c,ty,fr,hh⟩
      ·cases h2
     have hin:ao+es.length * P.cellsOf e<=c.size:=by
      obtain⟨x,ci,h1,h2,h3,h4,_⟩:=hcell (len - 1) (by omega) (P.cellsOf e - 1) (by omega)
      rw[hadd,vaa (by omega),cell_of_row W _ _ c ty fr hh]at h2
      have:=(vam.1 h2).1
      have e1:(len - 1) * P.cellsOf e+P.cellsOf e=len * P.cellsOf e:=by
       have:len=(len - 1)+1:=by omega
       conv=>rhs;rw[this,vaN,vbi]
      rw[hes];omega
     have:=VR.slice (Γ:=rh W) (bs:=[]) (w:=W) es ab ao cap c.size (P.cellsOf e) (fun i k=>(W.cell? ⟨ab,ao+i * P.cellsOf e+k,none⟩).getD undef) hz (by omega) (D4 hh) hin hlen
      (fun i x k q hx hqk=>by obtain⟨v,h1,_⟩:=hcl i x k q hx hqk;rw[h1];rfl)
      (fun i x k q hx hqk=>by obtain⟨v,h1,h2⟩:=hcl i x k q hx hqk;rw[h1];exact h2)
     rw[hes]at this
     exact this
   |_=>exact other fun l=>by unfold Sh;rw[hu];trivial
end
end Go.Proofs.YtggeppllafbidaaGreatDoor
namespace Go.Proofs.YtggeppllafbidaaGreatDoor
open Go
set_option linter.unusedVariables false
abbrev In(P:Program)(t:TypeId){α:Type}(c:α->List PVal):Prop:=∀n l,Sh P n t l->∃x,l=c x
section
variable{P:Program}{t e:TypeId}{α:Type}{c:α->List PVal}
theorem MJ{k:IntKind}(hu:P.underlying t=some (.int k)):In P t (cI k):=fun n l h=>by
 cases n with
 |zero=>exact h.elim
 |succ n=>
  unfold Sh at h
  rw[hu]at h
  obtain⟨i,rfl,_⟩:=h
  exact⟨i,rfl⟩
theorem Hp(hu:P.underlying t=some .string):In P t cS:=fun n l h=>by
 cases n with
 |zero=>exact h.elim
 |succ n=>
  unfold Sh at h
  rw[hu]at h
  obtain⟨i,rfl,_⟩:=h
  exact⟨i,rfl⟩
theorem Gi:∀{es:List (List PVal)},(∀x∈es,∃y,x=c y)->∃ys:List α,es=ys.map c
 |[],_=>⟨[],rfl⟩
 |x::es,h=>by
  obtain⟨y,rfl⟩:=h x (by simp)
  obtain⟨ys,rfl⟩:=Gi fun z hz=>h z (vaM _ hz)
  exact⟨y::ys,rfl⟩
theorem J3(hu:P.underlying t=some (.slice e)){n:Nat}(hE:∀m,m<n->∀l,Sh P m e l->∃x,l=c x)(l:List PVal)(h:Sh P n t l):∃xs,l=cL c xs:=by
 cases n with
 |zero=>exact h.elim
 |succ n=>
  unfold Sh at h
  rw[hu]at h
  obtain⟨es,rfl,_,h⟩:=h
  obtain⟨ys,rfl⟩:=Gi fun x hx=>hE n (vcy n) x (h x hx)
  exact⟨ys,rfl⟩
theorem J2(hu:P.underlying t=some (.slice e))(hE:In P e c):In P t (cL c):=fun n l h=>J3 hu (fun m _=>hE m) l h
theorem yi:∀(es:List (List PVal)),(∀x∈es,1<=vQ x)->es.length<=mY es
 |[],_=>by simp[mY]
 |x::es,h=>by
  have h1:=h x (by simp)
  have h2:=yi es fun y hy=>h y (vaM _ hy)
  simp only[mY,vaS];omega
theorem Gw:∀{es:List (List PVal)} {x:List PVal},x∈es->vQ x<=mY es
 | y :: es,x,h => by
  simp only[mY]
  rcases vaD.1 h with rfl|h
  ·omega
  ·have:=Gw h;omega
end
section
variable{H:Type}{enc:TypeId×Value->H}{P:Program}{W:World}{base b0:Nat}{sp:Nat->Bool}{held:Bool}{t e:TypeId}{v:Value}{d:DataW H}{p:List MemPlace}{L:List TypeId}
theorem IV(hF:Iv P L)(hL:t∈L){fs:Array Field}(hu:P.underlying t=some (.struct fs))(h:DataW.Trod enc P W base sp held t v d p)(hv:Value.okWide P W .any b0 t v):∃n l,VR (rh W) [] W (.agg l) v/\Sh P n t l/\vQ l<=Rows.uptoBulk d:=by
 obtain⟨n,h⟩:=h
 unfold Value.okWide at hv
 rw[hu]at hv
 obtain⟨cs,rfl,_,_⟩:=hv
 obtain⟨l,h1,h2,h3,h4⟩:=Ho hF n t hL _ d p h
 refine⟨n,l,.agg l cs ?_ fun i q u hq hu'=>h2 i q u hq ?_,h3,h4⟩
 ·have:(Value.agg cs).cells.toList.length=cs.size:=by simp[Value.cells]
  omega
 ·show cs.toList[i]? =some u
  rw[vaJ];exact hu'
theorem MK(hF:Iv P L)(hL:t∈L)(hc:v.cells.toList=[v])(h:DataW.Trod enc P W base sp held t v d p):∃n q,VR (rh W) [] W q v/\Sh P n t [q]/\pm q<=Rows.uptoBulk d:=by
 obtain⟨n,h⟩:=h
 rw[hc]at h
 obtain⟨l,h1,h2,h3,h4⟩:=Ho hF n t hL _ d p h
 match l,h1 with
 |[q],_=>exact⟨n,q,h2 0 q v rfl rfl,h3,by simpa[vQ]using h4⟩
theorem Gd(hF:Iv P L)(hL:t∈L)(hu:P.underlying t=some (.slice e))(h:DataW.Trod enc P W base sp held t v d p)(hv:Value.okWide P W .any b0 t v):∃n q,VR (rh W) [] W q v/\Sh P n t [q]/\pm q<=Rows.uptoBulk d:=by
 unfold Value.okWide at hv
 rw[hu]at hv
 have hv':Cell.okWide P W .any b0 t v:=hv
 unfold Cell.okWide at hv'
 refine MK hF hL ?_ h
 cases v<;>simp[hu,Cell.ok]at hv'<;>rfl
theorem Ki{α:Type}{c:α->List PVal}{f:α->PVal}{q:PVal}{x:α}(hc:c x=[f x])(h:[q]=c x):q=f x:=by
 rw[hc]at h
 exact List.head_eq_of_cons_eq h
end
def NR(n:Nat):aw->Prop
 |.dead=>True
 |.cells cs _=>hX n cs
 |.map es=>∀x∈es,x.1.cl n/\x.2.cl n
def Hb(n:Nat):List aw->Prop
 |[]=>True
 |B::l=>NR n B/\Hb n l
theorem F9{k:Nat}:∀{ps qs:List PVal},A2 ps qs=qs->hX k qs->oe k ps qs
 |[],[],_,_=>trivial
 |[],_::_,h,_=>by simp[A2]at h
 |p::ps,[],h,_=>by simp[A2]at h
 |p::ps,q::qs,h,hc=>by
  obtain⟨hc1,hc2⟩:=hc
  cases q<;>simp only[A2,vbl]at h<;>refine⟨?_,F9 h.2 hc2⟩<;>first|exact .inl rfl|exact .inr ⟨h.1,hc1⟩
theorem IP{k:Nat}{p q:aw}(h:DK p q=q)(hc:NR k q):lH k p q:=by
 cases q with
 |dead=>cases p<;>simp[lH]
 | cells cs own =>
  cases p with
  | cells cs0 own0 =>
   simp only[DK,aw.cells.injEq]at h
   obtain⟨rfl,h⟩:=h
   refine⟨rfl,hc,fun x hx=>?_⟩
   split at h
   ·rename_i ha
    simpa using vau.1 ha x hx
   ·rw[h];exact hx
  |map es=>simp[DK]at h
  |dead=>simp[DK]at h
 |map es=>
  have h':p=.map es:=by cases p<;>simp[DK]at h ⊢<;>exact h
  subst h'
  exact⟨rfl,hc⟩
theorem F7{k:Nat}:∀{ps qs:List aw},F6 (ps.take qs.length) qs=qs->Hb k qs->dW k ps qs
 |_,[],_,_=>by unfold dW;trivial
 |[],_::_,h,_=>by simp[F6]at h
 |p::ps,q::qs,h,hc=>by
  obtain⟨hc1,hc2⟩:=hc
  rw[vaS,List.take_succ_cons]at h
  simp only[F6,vbl]at h
  exact⟨IP h.1 hc1,F7 h.2 hc2⟩
def OJ(m:Nat)(st st0:aq):Prop:=A2 st.tmps st0.tmps=st0.tmps/\F6 (st.boxes.take st0.boxes.length) st0.boxes=st0.boxes/\(st0.own.all fun x=>decide (x∈st.own))=true/\decide (m % 1000<=st0.boxes.length)=true/\
 hX st0.boxes.length st0.tmps/\Hb st0.boxes.length st0.boxes
theorem OJ.weak{P:Program}{m:Nat}{st st0:aq}(h:OJ m st st0):mO P m st st0:=by
 obtain⟨h1,h2,h3,h4,h5,h6⟩:=h
 exact .of_less ⟨F9 h1 h5,F7 h2 h6,fun x hx=>by simpa using vau.1 h3 x hx⟩ (by simpa using h4)
def Nr(m:Nat)(e0:Exit)(st0:aq):Exit->List It->aq->Prop:=fun e _ st=>e0=e/\OJ m st st0
section
variable{P:Program}{GE:List (Nat×List PVal)}{A:List Nat}{m:Nat}
theorem Ks(hf:P.follows .mixedOrders=true){c:Code}{e0:Exit}{st0 st:aq}(sc:List It)(h:rS P GE A m c sc st (Nr m e0 st0)):aC P GE m c (EX e0 st0) st:=
 (fG hf c sc st _ h).mono fun _ _ hx=>by
  obtain⟨_,hx⟩:=hx
  exact⟨st0,hx.2.weak,hx.1.symm,rfl⟩
theorem N7(hf:P.follows .mixedOrders=true){σ X:Type}{S:σ->aq}{ex:X->Exit}{so:X->aq}{c:Code}{s:σ}{st:aq}(sc:List It)(h:rS P GE A m c sc st (Nr m .normal (S s))):aC P GE m c (LQ S ex so (.inl s)) st:=
 (Ks hf sc h).imp fun _ _ hx=>⟨hx.1,hx.2⟩
theorem Oa(hf:P.follows .mixedOrders=true){σ X:Type}{S:σ->aq}{ex:X->Exit}{so:X->aq}{c:Code}{x:X}{st:aq}(sc:List It)(hn:ex x≠.normal)(h:rS P GE A m c sc st (Nr m (ex x) (so x))):aC P GE m c (LQ S ex so (.inr x)) st:=
 (Ks hf sc h).imp fun _ _ hx=>⟨by rw[hx.1];exact hn,hx.1,hx.2⟩
end
mutual
theorem HT{n m:Nat}(hnm:n<=m):∀(p:PVal),p.cl n->p.cl m
 |.undef,_=>by simp[PVal.cl]
 |.int _ _,_=>by simp[PVal.cl]
 |.bool _,_=>by simp[PVal.cl]
 |.str _,_=>by simp[PVal.cl]
 |.val _,_=>by simp[PVal.cl]
 |.agg cs,h=>by simp only[PVal.cl]at h ⊢;exact lR hnm cs h
 |.tuple cs,h=>by simp only[PVal.cl]at h ⊢;exact lR hnm cs h
 |.slice es,h=>by simp only[PVal.cl]at h ⊢;exact Ec hnm es h
 |.eptr cs,h=>by simp only[PVal.cl]at h ⊢;exact lR hnm cs h
 |.bptr i _,h=>by simp only[PVal.cl]at h ⊢;omega
 |.bsl i _ _,h=>by simp only[PVal.cl]at h ⊢;omega
 |.mapr i,h=>by simp only[PVal.cl]at h ⊢;omega
 |.func _ f c,h=>by simp only[PVal.cl]at h ⊢;exact⟨lR hnm f h.1,lR hnm c h.2⟩
theorem lR{n m:Nat}(hnm:n<=m):∀(l:List PVal),hX n l->hX m l
 |[],_=>by simp[hX]
 |p::l,h=>by simp only[hX]at h ⊢;exact⟨HT hnm p h.1,lR hnm l h.2⟩
theorem Ec{n m:Nat}(hnm:n<=m):∀(l:List (List PVal)),sK n l->sK m l
 |[],_=>by simp[sK]
 |p::l,h=>by simp only[sK]at h ⊢;exact⟨lR hnm p h.1,Ec hnm l h.2⟩
end
theorem eu{n:Nat}{l:List PVal}(h:hX 0 l):hX n l:=lR (vaL n) l h
theorem up{n:Nat}{p:PVal}(h:p.cl 0):p.cl n:=HT (vaL n) p h
theorem co{i n:Nat}(h:decide (i<n)=true):i<n:=va2 h
theorem QH(m:Nat)(st:aq)(h4:decide (m % 1000<=st.boxes.length)=true)(h5:hX st.boxes.length st.tmps)(h6:Hb st.boxes.length st.boxes):st.tmps=st.tmps/\st.boxes=st.boxes/\true=true/\decide (m % 1000<=st.boxes.length)=true/\hX st.boxes.length st.tmps/\Hb st.boxes.length st.boxes:=⟨rfl,rfl,rfl,h4,h5,h6⟩
def Nz:TypeDesc->Bool
 |.struct _=>true
 |.array _ _=>true
 |_=>false
theorem rz{P:Program}{t:TypeId}{l r:List PVal}(h:(P.underlying t).any Nz=true)(hc:P.cellsOf t=l.length):ch P t (l++r)=some (.agg l):=by
 unfold ch
 split
 ·rw[var (by rw[hc];simp),hc,vb2]
 ·rw[var (by rw[hc];simp),hc,vb2]
 ·rename_i d h1 h2 hd
  rw[hd]at h
  cases d<;>simp_all[Nz]
 ·rename_i hd;rw[hd]at h;cases h
section
variable{X Y:Type}
def N0(F:(X->Option Y)->X->Option Y):Nat->X->Option Y
 |0,_=>none
 |n+1,x=>F (N0 F n) x
end
theorem rT:true=true:=rfl
theorem HU{a a':PVal}{l l':List PVal}(h:a=a')(h':l=l'):a::l=a'::l':=by rw[h,h']
open Go Go.Shelf Go.RowKit Go.Lib
variable{P:Program}{ρ:Ren}
set_option maxHeartbeats 2000000 in
set_option maxRecDepth 100000 in
theorem F3(L:SlLaysE0.n41 P ρ)(i0:TypeInfo)(z:Value)(hi:P.info? (ρ.t 23)=some i0)(hz0:i0.zero=some z)(hzs:z.cells.size=i0.size)(hsz:0<i0.size)
  (z23:∀w,(Go.sizeOf (ρ.t 23)).run P w=.ok i0.size w) (ad:Addr) (c:Nat) (w:World):
  Calls P (ρ.f 41) #[.slice (some ad) 0 c] w fun r w'=>∃v',r=.returned v'/\w'.ownsRow w.heap.size (ρ.t 23) i0.size v' 0 []/\Below w.heap.size w w':=by
 have mixed:=L.mixed;have t4:=L.t4;have a4:=L.a4;have z4:=L.z4;have v4:=L.v4;have t22:=L.t22;have a22:=L.a22;have z22:=L.z22;have v22:=L.v22
 have q22:∀(w:World) (a:Option Addr) (n c n' c':Nat),(binOp .eql (ρ.t 22) (.slice a n c) (.slice none n' c')).run P w=.ok (.bool a.isNone) w:=fun w a n c n' c'=>Lib.run_eql_slice_nil w _ _ a n c n' c' L.t22
 have u22:∀w,Sem.run P (underlying (ρ.t 22)) w=.ok (TypeDesc.slice (ρ.t 23)) w:=run_underlying t22
 obtain⟨_,_,FG⟩:=L.f41
 go_enter FG,SlBodyN.n41_ntmps ρ
 go_wp2_with (at_builtin;refine wpList_append_own _ rfl _ _ (ρ.t 22) rfl w.heap.size (ρ.t 23) i0 z i0.size i0.bytes t22 hi hz0 rfl rfl hzs hsz _ _ _ rfl (World.ownsRow_made w #[] 0 (vaq _) (vaL _) (by simp)) ad 0 c [] rfl (by simp) (by simp) (by simp) (by simp) (by simp) (by simp) ?_)
 intro v' w1 hown hgrow _
 go_wp2
 go_ret
 exact⟨v',rfl,by simpa using hown,((Below.refl _ w).alloc (vaq _) _).grown hgrow (by simp) (by intro k hk;simp[Value.ownBlock]at hk;omega)⟩
theorem IE(L:SlLaysE0.n41 P ρ)(i0:TypeInfo)(z:Value)(hi:P.info? (ρ.t 23)=some i0)(hz0:i0.zero=some z)(hzs:z.cells.size=i0.size)(hsz:0<i0.size)(hby:i0.bytes<=65536)
  (hcall:∀vs w,(callFunc (ρ.f 41) vs).run P w=.ok (.enter (ρ.f 41) vs) w):kT P (ρ.f 41) (ρ.t 23):=by
 have hc:P.cellsOf (ρ.t 23)=i0.size:=by simp[Program.cellsOf,hi]
 have z23:∀w,(Go.sizeOf (ρ.t 23)).run P w=.ok i0.size w:=fun w=>by rw[<-hc];exact run_sizeOf w hi
 refine⟨hcall,fun w x n news hx hl h1 hn=>?_⟩
 rw[hc]at hl ⊢
 rcases hx with⟨rfl,rfl⟩|⟨a,c,rfl,hcell⟩
 ·have hnews:news=[]:=vai (by simpa using hl)
  subst hnews
  refine(AnyE.slices_Clone_nil L 0 0 w).mono fun r w' hr=>?_
  obtain⟨rfl,rfl⟩:=hr
  exact⟨_,rfl,World.ownsRow_nil _ _ _ _,Below.refl _ _⟩
 ·by_cases h0:n=0
  ·subst h0
   have hnews:news=[]:=vai (by simpa using hl)
   subst hnews
   exact F3 L i0 z hi hz0 hzs hsz z23 a c w
  ·have hpos:0<news.length:=by rw[hl];exact vcq (Nat.pos_of_ne_zero h0) hsz
   have hsp:a.spot=none:=by
    have hk:=hcell 0 _ (vaa hpos)
    unfold Addr.add at hk
    simp only[if_true]at hk
    unfold World.cell? at hk
    split at hk
    ·split at hk
     ·cases hk
     ·rename_i hs;simpa using hs
    ·cases hk
   obtain⟨b,off,sp⟩:=a
   simp only at hsp
   subst hsp
   refine(AnyE.slices_Clone L i0 z i0.size i0.bytes hi hz0 rfl rfl hzs hsz z23 b off n c news w hl (by unfold maxLen;unfold di at hn;omega) ?_ (fun j u hj=>by rw[<-Addr.add_lit];exact hcell j u hj) h1).mono fun r w' hr=>?_
   ·have:n * i0.bytes<=1073741824 * 65536:=vbL (by unfold di at hn;omega) hby
    omega
   ·obtain⟨v',k1,k2,_,k3⟩:=hr
    exact⟨v',k1,k2,k3⟩
theorem ID(L:SlLaysE0.n41 P ρ){f:FuncId}{e:TypeId}(hf:ρ.f 41=f)(he:ρ.t 23=e)(hq:(P.info? e).any (fun i=>(i.zero.any fun z=>z.cells.size==i.size)&&decide (0<i.size)&&decide (i.bytes<=65536))=true)
  (hcall:∀vs w,(callFunc f vs).run P w=.ok (.enter f vs) w):kT P f e:=by
 subst hf;subst he
 cases hi:P.info? (ρ.t 23)with
 |none=>rw[hi]at hq;cases hq
 | some i0 =>
  rw[hi]at hq
  simp only[Option.any_some,vah,vap]at hq
  obtain⟨⟨h1,h2⟩,h3⟩:=hq
  cases hz:i0.zero with
  |none=>rw[hz]at h1;cases h1
  |some z=>
   rw[hz]at h1
   simp only[Option.any_some,vaP]at h1
   exact IE L i0 z hi hz h1 h2 h3 hcall
end Go.Proofs.YtggeppllafbidaaGreatDoor
namespace Go.Proofs.YtggeppllafbidaaGreatDoor
open Go
def qJ{α:Type}(c:α->List PVal)(l:List α):List PVal:=(l.map c).flatten
def ri{α:Type}(l:List α):Option (List α):=if l.length<=di then some l else none
def Oz{α:Type}(l:List α)(i:Int)(x:α):Option (List α):=if 0<=i/\i.toNat<l.length then some (l.set i.toNat x)else none
abbrev zZ(P:Program)(e:TypeId)(i:Int):Nat:=0+i.toNat * P.cellsOf e
section
variable{P:Program}{GE:List (Nat×List PVal)}{T e:TypeId}{α:Type}{c:α->List PVal}
theorem An{l r:List α}(h:ri l=some r):l.length<=di/\r=l:=by
 unfold ri at h
 split at h
 ·rename_i hl;cases h;exact⟨hl,rfl⟩
 ·cases h
theorem sO.mapOk(s:sO P T e c)(l:List α):∀x∈l.map c,x.length=P.cellsOf e/\∀q∈x,q.one=true:=fun x hx=>by
 obtain⟨y,_,rfl⟩:=van.1 hx
 exact⟨s.hc y,s.ho y⟩
theorem sO.cloneCC(s:sO P T e c){f:FuncId}(hC:kT P f e){l r:List α}(h:ri l=some r):CC P GE f [sl c l] (sl c r) [(0,e)]:=by
 obtain⟨hl,rfl⟩:=An h
 exact CC.clone hC ⟨ak s.cl r,trivial⟩ s.hp (s.mapOk r) (by simpa using hl)
theorem sO.cloneR(s:sO P T e c){f:FuncId}(hC:kT P f e){l r:List α}(h:ri l=some r):kT P f e/\(0<P.cellsOf e/\(∀x∈l.map c,x.length=P.cellsOf e/\∀q∈x,q.one=true)/\(l.map c).length<=di)/\(r.length=(l.map c).length/\qJ c r=(l.map c).flatten):=by
 obtain⟨hl,rfl⟩:=An h
 exact⟨hC,⟨s.hp,s.mapOk r,by simpa using hl⟩,by simp,rfl⟩
theorem sO.flat_len(s:sO P T e c)(l:List α):(qJ c l).length=l.length * P.cellsOf e:=by
 unfold qJ
 rw[Go.Proofs.YtggeppllafbidaaGreatDoor.flat_len (sz:=P.cellsOf e) (fun x hx=>(s.mapOk l x hx).1)]
 simp
theorem zm(hc:∀x,(c x).length=P.cellsOf e):∀{l:List α} {i:Nat} {x:α},l[i]? =some x->qJ c l=(qJ c l).take (i * P.cellsOf e)++c x++(qJ c l).drop (i * P.cellsOf e+P.cellsOf e)/\∀y,qJ c (l.set i y)=(qJ c l).take (i * P.cellsOf e)++c y++(qJ c l).drop (i * P.cellsOf e+P.cellsOf e)
 |[],i,x,h=>by simp at h
 |z::l,0,x,h=>by
  simp at h;subst h
  have e1:qJ c (z::l)=c z++qJ c l:=by simp[qJ]
  have e2:∀y,qJ c ((z::l).set 0 y)=c y++qJ c l:=fun y=>by simp[qJ]
  rw[e1]
  simp only[e2,vci,vaB,List.take_zero,va7]
  rw[<-hc z,List.drop_left]
  exact⟨rfl,fun _=>rfl⟩
 | z :: l,i + 1,x,h => by
  obtain⟨h1,h2⟩:=zm hc (l:=l) (i:=i) (x:=x) (by simpa using h)
  have e1:qJ c (z::l)=c z++qJ c l:=by simp[qJ]
  have e2:∀y,qJ c ((z::l).set (i+1) y)=c z++qJ c (l.set i y):=fun y=>by simp[qJ]
  have hz:=hc z
  have t1:(c z++qJ c l).take ((i+1) * P.cellsOf e)=c z++(qJ c l).take (i * P.cellsOf e):=by
   rw[List.take_append,vaN,vbi,hz,List.take_of_length_le (by omega),Nat.add_sub_cancel]
  have t2:(c z++qJ c l).drop ((i+1) * P.cellsOf e+P.cellsOf e)=(qJ c l).drop (i * P.cellsOf e+P.cellsOf e):=by
   rw[vcz,vaN,vbi,hz,vbG (by omega),va7]
   congr 1;omega
  rw[e1,t1,t2]
  refine⟨?_,fun y=>?_⟩
  ·conv=>lhs;rw[h1]
   simp only[vbI]
  ·rw[e2,h2];simp only[vbI]
theorem sO.ldR(s:sO P T e c){l:List α}{i:Int}{x:α}{p:PVal}(hl:∀r,ch P e (c x++r)=some p)(h:eh l i=some x):ch P e ((qJ c l).drop (zZ P e i))=some p:=by
 obtain⟨h0,h1⟩:=xP h
 obtain⟨h2,_⟩:=zm (P:=P) (e:=e) s.hc h1
 have hlen:=s.flat_len l
 have hlt:=aj h1
 have hle:i.toNat * P.cellsOf e<=l.length * P.cellsOf e:=vaG _ (vbO hlt)
 rw[zZ,vaB]
 have:(qJ c l).drop (i.toNat * P.cellsOf e)=c x++(qJ c l).drop (i.toNat * P.cellsOf e+P.cellsOf e):=by
  conv=>lhs;rw[h2]
  rw[vbI,vcz,vbG (by simp;omega),va7]
  have:((qJ c l).take (i.toNat * P.cellsOf e)).length=i.toNat * P.cellsOf e:=by simp;omega
  rw[this,vbC,vby]
 rw[this];exact hl _
theorem KI{l r:List α}{i:Int}{x:α}(h:Oz l i x=some r):0<=i/\i.toNat<l.length/\r=l.set i.toNat x:=by
 unfold Oz at h
 split at h
 ·rename_i hh;cases h;exact⟨hh.1,hh.2,rfl⟩
 ·cases h
theorem sO.stR(s:sO P T e c){l r:List α}{i:Int}{x:α}{v:PVal}(hv:bZ v=some (c x))(h:Oz l i x=some r):cH P e (.bptr 0 (zZ P e i)) v [.cells (qJ c l) []]=some [.cells (qJ c r) []]:=by
 obtain⟨h0,h1,rfl⟩:=KI h
 obtain⟨_,h2⟩:=zm (P:=P) (e:=e) s.hc (vaa h1)
 have hlen:=s.flat_len l
 have hle:i.toNat * P.cellsOf e+P.cellsOf e<=l.length * P.cellsOf e:=by
  have:=vaG (P.cellsOf e) h1
  rw[Nat.succ_mul]at this;exact this
 unfold cH
 simp only[hv,List.getElem?_cons_zero,zZ,vaB]
 rw[var ⟨s.hc x,s.hi,by rw[s.hc x];omega,vau.2 (s.ho x)⟩,h2,s.hc x]
 simp
end
def PS(_:List It)(F:Prop):Prop:=F
section
variable{sc:List It}{F X Y:Prop}
theorem en(h:F):PS [] F:=h
theorem sv{o:Option PVal}{p:PVal}(h:o=some p)(r:PS sc F):PS (.v p::sc) (o=some p/\F):=⟨h,r⟩
theorem cx{o:List aw->Option PVal}{p:PVal}(h:∀H,o H=some p)(r:PS sc F):PS (.v p::sc) ((∀H,o H=some p)/\F):=⟨h,r⟩
theorem sx{o:Option (List PVal)}{l:List PVal}(h:o=some l)(r:PS sc F):PS (.x l::sc) (o=some l/\F):=⟨h,r⟩
theorem se{o:Option (List PVal)}{l:List PVal}(h:o=some l)(r:PS sc F):PS (.e l::sc) (o=some l/\F):=⟨h,r⟩
theorem sg(n:Nat){x b:Bool}(h:x=b)(r:PS sc F):PS (.g n b::sc) (x=b/\F):=⟨h,r⟩
theorem ss(r:PS sc F):PS (.s::sc) F:=r
theorem KS{o:Option (List PVal)}{l:List PVal}(h:o=some l)(r:PS sc F):PS (.s::sc) (o=some l/\F):=⟨h,r⟩
theorem bg{P:Program}{GE:List (Nat×List PVal)}{g:FuncId}{vs:List PVal}{p:PVal}{ro:List (Nat×TypeId)}(h:CC P GE g vs p ro)(r:PS sc F):PS (.c p ro::sc) (CC P GE g vs p ro/\F):=⟨h,r⟩
theorem sb{P:Program}{T:TypeId}{ps:List (Nat×PVal)}{p:PVal}{L:List (Nat×TypeId)}(h:dc P T ps=some p)(h':rB P T ps L)(r:PS sc F):PS (.b p L::sc) (dc P T ps=some p/\rB P T ps L/\F):=⟨h,h',r⟩
theorem sy{l vs:List PVal}(h:l=vs)(r:PS sc F):PS (.y vs::sc) (l=vs/\F):=⟨h,r⟩
theorem KF{o:Option (List PVal)}{vs:List PVal}(h:o=some vs)(r:PS sc F):PS (.y vs::sc) (o=some vs/\F):=⟨h,r⟩
theorem sz{o:Option PVal}{l:List PVal}(h:o=some (.agg l))(r:PS sc F):PS (.z l::sc) (o=some (.agg l)/\F):=⟨h,r⟩
theorem ue(an:List Nat)(r:PS sc F):PS (.dr an::sc) F:=r
theorem mG(n:Nat)(r:PS sc F):PS (.pa n::sc) F:=r
theorem cC{P:Program}{GE:List (Nat×List PVal)}{m:Nat}{c:Code}{e:Exit}{s0 s1:aq}(h:aC P GE m c (EX e s1) s0)(r:PS sc F):PS (.pc s0 e s1::sc) ((s0.tmps=s0.tmps/\s0.boxes=s0.boxes/\true=true)/\aC P GE m c (EX e s1) s0/\F):=⟨fr s0,h,r⟩
theorem PY(i:It)(r:PS sc F):PS (i::sc) F:=r
theorem sf(h:X)(r:PS sc F):PS sc (X/\F):=⟨h,r⟩
theorem QW{o:Option (List aw)}{B:aw}(h:o=some [B])(r:PS sc F):PS (.w 0 B::sc) (o=some [B]/\F):=⟨h,r⟩
theorem PZ{o:Option (List (PVal×PVal))}{m:List (PVal×PVal)}(h:o=some m)(r:PS sc F):PS (.w 0 (.map m)::sc) (o=some m/\F):=⟨h,r⟩
theorem QV(i:Nat)(e:TypeId){n k:Nat}{cs fs:List PVal}(h:X/\Y/\(n=k/\cs=fs))(r:PS sc F):PS (.ar i e n cs::sc) (X/\Y/\(n=k/\cs=fs)/\F):=⟨h.1,h.2.1,h.2.2,r⟩
theorem Pe(i:Nat)(es:List (List PVal))(lv rk:List Nat)(h:X)(h':Y){Z:Prop}(h'':Z)(r:PS sc F):PS (.fz i es lv rk::sc) (X/\Y/\Z/\F):=⟨h,h',h'',r⟩
end
section
variable{P:Program}{GE:List (Nat×List PVal)}{A:List Nat}{m:Nat}
theorem dH(hf:P.follows .mixedOrders=true){c:Code}{e0:Exit}{st0 st:aq}{sc:List It}{F:Prop}(h:PS sc F)(he:F=rS P GE A m c sc st (FN e0 st0)):aC P GE m c (EX e0 st0) st:=piece hf sc (Eq.mp he h)
theorem N6(hf:P.follows .mixedOrders=true){σ X:Type}{S:σ->aq}{ex:X->Exit}{so:X->aq}{c:Code}{s:σ}{st:aq}{sc:List It}{F:Prop}(h:PS sc F)(he:F=rS P GE A m c sc st (FN .normal (S s))):aC P GE m c (LQ S ex so (.inl s)) st:=jh hf sc (Eq.mp he h)
theorem N9(hf:P.follows .mixedOrders=true){σ X:Type}{S:σ->aq}{ex:X->Exit}{so:X->aq}{c:Code}{x:X}{st:aq}{sc:List It}{F:Prop}(hn:ex x≠.normal)(h:PS sc F)(he:F=rS P GE A m c sc st (FN (ex x) (so x))):aC P GE m c (LQ S ex so (.inr x)) st:=O9 hf sc hn (Eq.mp he h)
theorem C.evp(hf:P.follows .mixedOrders=true){f:FuncId}{fn:Func}{c:Code}{args:List PVal}{r:PVal}{ro:List (Nat×TypeId)}
  (hcall:∀vs w,(callFunc f vs).run P w=.ok (.enter f vs) w) (hfn:P.funcs[f]? =some fn) (hb:fn.body=some c) (hcl:hX 0 args) {sc:List It} {F:Prop} (h:PS sc F)
  (he:F=rS P GE A 0 c sc ⟨args++List.replicate (fn.ntmps - args.length) .undef,[],[]⟩ (FR P fn.results.toList r ro)):CC P GE f args r ro:=C.ev hf hcall hfn hb hcl sc (Eq.mp he h)
end
section
variable{P:Program}{GE:List (Nat×List PVal)}{A:List Nat}{m:Nat}
theorem cd(hf:P.follows .mixedOrders=true){σ X:Type}{S:σ->aq}{ex:X->Exit}{so:X->aq}{c:Code}{s:σ}{st:aq}{sc:List It}{F:Prop}(h:PS sc F)(he:F=rS P GE A m c sc st (Nr m .normal (S s))):aC P GE m c (LQ S ex so (.inl s)) st:=N7 hf sc (Eq.mp he h)
theorem gg(hf:P.follows .mixedOrders=true){σ X:Type}{S:σ->aq}{ex:X->Exit}{so:X->aq}{c:Code}{x:X}{st:aq}{sc:List It}{F:Prop}(hn:ex x≠.normal)(h:PS sc F)(he:F=rS P GE A m c sc st (Nr m (ex x) (so x))):aC P GE m c (LQ S ex so (.inr x)) st:=Oa hf sc hn (Eq.mp he h)
end
def tm(n:Nat):Nat->List (Nat×PVal)->List PVal
 |k,[]=>List.replicate (n - k) .undef
 |k,x::l=>List.replicate (x.1 - k) .undef++x.2::tm n (x.1+1) l
abbrev aP(n:Nat)(l:List (Nat×PVal))(H:List aw)(o:List ((Nat×Nat)×TypeId)):aq:=⟨tm n 0 l,H,o⟩
def ME(n:Nat):List (Nat×PVal)->Prop
 |[]=>True
 |x::l=>x.2.cl n/\ME n l
theorem E2{n:Nat}{l:List PVal}(h:hX n l):∀k,hX n (List.replicate k .undef++l)
 |0=>h
 |k+1=>by rw[List.replicate_succ,vbo];exact⟨trivial,E2 h k⟩
theorem bS{n N:Nat}:∀{l:List (Nat×PVal)} {k:Nat},ME n l->hX n (tm N k l)
 |[],k,_=>by unfold tm;have:=E2 (n:=n) (l:=[]) trivial (N - k);rwa[vbm]at this
 |x::l,k,h=>by unfold tm;exact E2 (l:=x.2::tm N (x.1+1) l) (by simp only[hX];exact⟨h.1,bS h.2⟩) _
def bits:Nat->Nat->List Bool->List Bool
 |0,_,l=>l
 |k+1,n,l=>if n<=1 then l else bits k (n / 2) ((n % 2==1)::l)
def cA(c:Code)(n:Nat):Code:=cT c (bits 100 n [])
section
variable{X Y:Type}
def kY(F:(X->Option Y)->X->Option Y)(x:X):Option Y:=N0 F LU x
theorem MC:18446744073709551616<LU:=by unfold LU;omega
theorem cw{F:(X->Option Y)->X->Option Y}{M:X->Y->Prop}(hF:∀rec:X->Option Y,(∀x r,rec x=some r->M x r)->∀x r,F rec x=some r->M x r){x:X}{r:Y}(h:kY F x=some r):M x r:=by
 have key:∀n x r,N0 F n x=some r->M x r:=by
  intro n
  induction n with
  |zero=>intro x r h;cases h
  |succ n ih=>intro x r h;exact hF _ ih x r h
 exact key _ x r h
theorem jx{F:(X->Option Y)->X->Option Y}(μ:X->Nat)(Q:X->Prop)(s:X->Y)(h:∀(R:X->Option Y) x,Q x->(∀y,μ y<μ x->Q y->R y=some (s y))->F R x=some (s x))(x:X)(hx:Q x)(hm:μ x<LU):kY F x=some (s x):=by
 have key:∀n x,μ x<n->Q x->N0 F n x=some (s x):=by
  intro n
  induction n with
  |zero=>intro x hx;omega
  |succ n ih=>intro x hx hq;exact h _ x hq fun y hy hqy=>ih y (by omega) hqy
 exact key _ x hm hx
end
def L3{α:Type}(n:Nat)(l:List α)(i:Int):Option α:=if 0<=i/\i.toNat<n then l[i.toNat]? else none
def NY{α:Type}(n:Nat)(l:List α):Option (List α):=if n=l.length then some l else none
theorem Ln{α:Type}{n:Nat}{l:List α}{i:Int}{x:α}(h:L3 n l i=some x):eh l i=some x:=by
 unfold L3 at h
 split at h
 ·rename_i hh;unfold eh;rw[var hh.1];exact h
 ·cases h
theorem Ci{α:Type}{n:Nat}{l r:List α}(h:NY n l=some r):n=l.length/\r=l:=by
 unfold NY at h
 split at h
 ·cases h;exact⟨by assumption,rfl⟩
 ·cases h
section
variable{P:Program}{GE:List (Nat×List PVal)}{T e:TypeId}{α:Type}{c:α->List PVal}
theorem sO.iaN(s:sO P T e c)(b:Nat){n:Nat}{l:List α}{i:Int}{k:IntKind}{x:α}(h:L3 n l i=some x):il P T (.bsl b 0 n) (.int k i)=some (.bptr b (zZ P e i)):=by
 unfold L3 at h
 split at h
 ·rename_i hh
  unfold il
  rw[s.hu]
  simp only
  rw[var ⟨hh.1,by omega,s.hi⟩]
 ·cases h
theorem sO.ldN(s:sO P T e c){n:Nat}{l:List α}{i:Int}{x:α}{p:PVal}(hl:∀r,ch P e (c x++r)=some p)(h:L3 n l i=some x):ch P e ((qJ c l).drop (zZ P e i))=some p:=s.ldR hl (Ln h)
theorem sO.fz1(s:sO P T e c){m b:Nat}(hb:decide (m % 1000<=b)=true)(l:List α):(m % 1000<=b)/\∃sz,0<sz/\∀x∈l.map c,x.length=sz:=⟨va2 hb,_,s.hp,fun x hx=>(s.mapOk l x hx).1⟩
theorem sO.fz2(s:sO P T e c)(b:Nat)(l:List α):Bb b (l.map c):=rv b _ (E1 fun p hp=>by obtain⟨x,_,rfl⟩:=van.1 hp;exact s.cl x)
theorem QI(c:α->List PVal){n:Nat}{l r:List α}(h:NY n l=some r):qJ c l=(r.map c).flatten:=by rw[(Ci h).2];rfl
theorem QJ(c:α->List PVal){n:Nat}{l r:List α}(h:NY n l=some r):n=(r.map c).length:=by rw[(Ci h).2,va8];exact(Ci h).1
theorem PM{m b:Nat}(hb:decide (m % 1000<=b)=true)(l:List PVal)(hl:decide (l.length≠0)=true):(m % 1000<=b)/\∃sz,0<sz/\∀x∈[l],x.length=sz:=⟨va2 hb,l.length,by have:=va2 hl;omega,fun x hx=>by rw[vbh.1 hx]⟩
theorem PN(b:Nat){l:List PVal}(h:hX 0 l):Bb b [l]:=rv b _ ⟨h,trivial⟩
theorem PO{l r:List PVal}(h:r=l):l=[r].flatten:=by rw[h];simp
theorem Js(b:Nat){p:PVal}(h:p.cl 0):p.no b:=Gp b p h
end
theorem Ov{α:Type}{c:α->List PVal}(n:Nat)(h:∀x,hX 0 (c x)):∀(l:List α),hX n (qJ c l)
 |[]=>trivial
 |x::l=>by
  have e:qJ c (x::l)=c x++qJ c l:=by simp[qJ]
  rw[e]
  exact wG.2 ⟨eu (h x),Ov n h l⟩
theorem eF(e:Exit)(s:aq):PS [] (e=e/\s.tmps=s.tmps/\s.boxes=s.boxes/\true=true):=⟨rfl,fr s⟩
theorem jw(m:Nat)(e:Exit)(s:aq)(h4:decide (m % 1000<=s.boxes.length)=true)(h5:hX s.boxes.length s.tmps)(h6:Hb s.boxes.length s.boxes):PS [] (e=e/\s.tmps=s.tmps/\s.boxes=s.boxes/\true=true/\decide (m % 1000<=s.boxes.length)=true/\hX s.boxes.length s.tmps/\Hb s.boxes.length s.boxes):=⟨rfl,QH m s h4 h5 h6⟩
open Go Go.Proofs.Tryz
set_option maxRecDepth 100000
noncomputable abbrev Pg:=Tryz.prog
theorem mixed:Pg.follows .mixedOrders=true:=by kernel_rfl
inductive aa where
 |mk (Op:Int) (Name:ai) (N:Int) (Kids:(List aa))
def aa.Op:aa->Int
 |⟨x,_,_,_⟩=>x
def aa.Name:aa->ai
 |⟨_,x,_,_⟩=>x
def aa.N:aa->Int
 |⟨_,_,x,_⟩=>x
def aa.Kids:aa->(List aa)
 |⟨_,_,_,x⟩=>x
mutual
def ac:aa->List PVal
 |⟨x0,x1,x2,x3⟩=>[.int .i64 x0,.str x1,.int .i64 x2,.slice (oL x3)]
def oL:List aa->List (List PVal)
 |[]=>[]
 |x::r=>ac x::oL r
end
theorem Cr:∀(l:List aa),oL l=l.map ac
 |[]=>by simp[oL]
 |x::r=>by simp[oL,Cr r]
mutual
theorem ag:∀(x:aa),hX 0 (ac x)
 |⟨x0,x1,x2,x3⟩=>by rw[ac];exact(aI trivial (aI trivial (aI trivial (aI (Ed x3) trivial))))
theorem Ed:∀(l:List aa),sK 0 (oL l)
 |[]=>by simp[oL,sK]
 |x::r=>by rw[oL];exact⟨ag x,Ed r⟩
end
theorem ax:∀(x:aa),ac x=[.int .i64 x.Op,.str x.Name,.int .i64 x.N,sl ac x.Kids]
 |⟨x0,x1,x2,x3⟩=>by
  simp only[ac,Cr]
  rfl
abbrev b9(x:aa):PVal:=.agg (ac x)
theorem zq(x:aa):(ac x).length=4:=by rw[ax];rfl
theorem bj(x:aa):bZ (.agg (ac x))=some (ac x):=rfl
theorem aV(x:aa):bZ (b9 x)=some (ac x):=rfl
theorem aW(x:aa):bZ (.agg (ac x))=some [.int .i64 x.Op,.str x.Name,.int .i64 x.N,sl ac x.Kids]:=by rw[ax];rfl
theorem I4(x:aa):∀q∈ac x,q.one=true:=by
 intro q hq
 rw[ax]at hq
 simp only[vaD,vbA,or_false]at hq
 rcases hq with rfl|rfl|rfl|rfl<;>rfl
theorem Lf:Pg.cellsOf 28=4:=by kernel_rfl
theorem aB(x:aa):ch Pg 28 (ac x)=some (.agg (ac x)):=by
 have:=rz (P:=Pg) (t:=28) (l:=ac x) (r:=[]) (by kernel_rfl) (Lf.trans (zq x).symm)
 rwa[vbm]at this
theorem aD(x:aa)(r:List PVal):ch Pg 28 ([.int .i64 x.Op,.str x.Name,.int .i64 x.N,sl ac x.Kids]++r)=some (.agg (ac x)):=by
 rw[<-ax];exact rz (by kernel_rfl) (Lf.trans (zq x).symm)
theorem bR(x:aa):PVal.agg [.int .i64 x.Op,.str x.Name,.int .i64 x.N,sl ac x.Kids]=.agg (ac x):=by rw[ax]
theorem nA:dc Pg 28 []=some (.agg (ac (⟨0,([]:ai),0,([]:List aa)⟩:aa))):=by
 simp only[ax]
 kernel_rfl
theorem ny:rB Pg 28 [] [(3,28)]:=by
 exact⟨[.int .i64 0,.str ([]:ai),.int .i64 0,.val lW],by kernel_rfl,(aI rfl trivial)⟩
theorem mS(x0:Int)(x1:ai):dc Pg 28 [(0,.int .i64 x0),(1,.str x1)]=some (.agg (ac (⟨x0,x1,0,([]:List aa)⟩:aa))):=by
 simp only[ax]
 kernel_rfl
theorem mP(x0:Int)(x1:ai):rB Pg 28 [(0,.int .i64 x0),(1,.str x1)] [(3,28)]:=by
 exact⟨[.int .i64 x0,.str x1,.int .i64 0,.val lW],by kernel_rfl,(aI rfl trivial)⟩
theorem kf(x0:Int)(x1:ai)(x2:Int):dc Pg 28 [(0,.int .i64 x0),(1,.str x1),(2,.int .i64 x2)]=some (.agg (ac (⟨x0,x1,x2,([]:List aa)⟩:aa))):=by
 simp only[ax]
 kernel_rfl
theorem ke(x0:Int)(x1:ai)(x2:Int):rB Pg 28 [(0,.int .i64 x0),(1,.str x1),(2,.int .i64 x2)] [(3,28)]:=by
 exact⟨[.int .i64 x0,.str x1,.int .i64 x2,.val lW],by kernel_rfl,(aI rfl trivial)⟩
theorem zl(x0:Int)(x1:ai)(x2:Int)(x3:(List aa)):dc Pg 28 [(0,.int .i64 x0),(1,.str x1),(2,.int .i64 x2),(3,sl ac x3)]=some (.agg (ac (⟨x0,x1,x2,x3⟩:aa))):=by
 simp only[ax]
 kernel_rfl
theorem mT(x0:Int)(x2:Int):dc Pg 28 [(0,.int .i64 x0),(2,.int .i64 x2)]=some (.agg (ac (⟨x0,([]:ai),x2,([]:List aa)⟩:aa))):=by
 simp only[ax]
 kernel_rfl
theorem mQ(x0:Int)(x2:Int):rB Pg 28 [(0,.int .i64 x0),(2,.int .i64 x2)] [(3,28)]:=by
 exact⟨[.int .i64 x0,.str ([]:ai),.int .i64 x2,.val lW],by kernel_rfl,(aI rfl trivial)⟩
theorem mU(x0:Int)(x3:(List aa)):dc Pg 28 [(0,.int .i64 x0),(3,sl ac x3)]=some (.agg (ac (⟨x0,([]:ai),0,x3⟩:aa))):=by
 simp only[ax]
 kernel_rfl
theorem G8(x0:Int):dc Pg 28 [(0,.int .i64 x0)]=some (.agg (ac (⟨x0,([]:ai),0,([]:List aa)⟩:aa))):=by
 simp only[ax]
 kernel_rfl
theorem G6(x0:Int):rB Pg 28 [(0,.int .i64 x0)] [(3,28)]:=by
 exact⟨[.int .i64 x0,.str ([]:ai),.int .i64 0,.val lW],by kernel_rfl,(aI rfl trivial)⟩
theorem aE(x:aa):cE Pg 28 (.eptr (ac x)) 0=some (.eptr ((ac x).drop 0)):=by rw[ax];kernel_rfl
theorem bo(x:aa):cE Pg 28 (.eptr (ac x)) 1=some (.eptr ((ac x).drop 1)):=by rw[ax];kernel_rfl
theorem bU(x:aa):cE Pg 28 (.eptr (ac x)) 2=some (.eptr ((ac x).drop 2)):=by rw[ax];kernel_rfl
theorem ay(x:aa):cE Pg 28 (.eptr (ac x)) 3=some (.eptr ((ac x).drop 3)):=by rw[ax];kernel_rfl
theorem aF(x:aa):ch Pg 25 ((ac x).drop 0)=some (.int .i64 x.Op):=by rw[ax];kernel_rfl
theorem bD(x:aa):ch Pg 9 ((ac x).drop 1)=some (.str x.Name):=by rw[ax];kernel_rfl
theorem ce(x:aa):ch Pg 3 ((ac x).drop 2)=some (.int .i64 x.N):=by rw[ax];kernel_rfl
theorem az(x:aa):ch Pg 26 ((ac x).drop 3)=some (sl ac x.Kids):=by rw[ax];kernel_rfl
inductive ae where
 |mk (Op:Int) (Name:ai) (Args:(List ae)) (Names:(List ai)) (Pred:aa) (Preds:(List aa))
def ae.Op:ae->Int
 |⟨x,_,_,_,_,_⟩=>x
def ae.Name:ae->ai
 |⟨_,x,_,_,_,_⟩=>x
def ae.Args:ae->(List ae)
 |⟨_,_,x,_,_,_⟩=>x
def ae.Names:ae->(List ai)
 |⟨_,_,_,x,_,_⟩=>x
def ae.Pred:ae->aa
 |⟨_,_,_,_,x,_⟩=>x
def ae.Preds:ae->(List aa)
 |⟨_,_,_,_,_,x⟩=>x
mutual
def af:ae->List PVal
 |⟨x0,x1,x2,x3,x4,x5⟩=>[.int .i64 x0,.str x1,.slice (oM x2),sl cS x3]++(ac x4++([sl ac x5]))
def oM:List ae->List (List PVal)
 |[]=>[]
 |x::r=>af x::oM r
end
theorem Cs:∀(l:List ae),oM l=l.map af
 |[]=>by simp[oM]
 |x::r=>by simp[oM,Cs r]
mutual
theorem al:∀(x:ae),hX 0 (af x)
 |⟨x0,x1,x2,x3,x4,x5⟩=>by rw[af];exact wG.2 (aI ((aI trivial (aI trivial (aI (Ee x2) (aI (ak hZ x3) trivial))))) (wG.2 (aI (ag x4) ((aI (ak ag x5) trivial)))))
theorem Ee:∀(l:List ae),sK 0 (oM l)
 |[]=>by simp[oM,sK]
 |x::r=>by rw[oM];exact⟨al x,Ee r⟩
end
theorem aO:∀(x:ae),af x=[.int .i64 x.Op,.str x.Name,sl af x.Args,sl cS x.Names,.int .i64 x.Pred.Op,.str x.Pred.Name,.int .i64 x.Pred.N,sl ac x.Pred.Kids,sl ac x.Preds]
 |⟨x0,x1,x2,x3,x4,x5⟩=>by
  simp only[af,Cs,ax,vbo,va7]
  rfl
abbrev pp(x:ae):PVal:=.agg (af x)
theorem zr(x:ae):(af x).length=9:=by rw[aO];rfl
theorem bY(x:ae):bZ (.agg (af x))=some (af x):=rfl
theorem li(x:ae):bZ (pp x)=some (af x):=rfl
theorem cB(x:ae):bZ (.agg (af x))=some [.int .i64 x.Op,.str x.Name,sl af x.Args,sl cS x.Names,.int .i64 x.Pred.Op,.str x.Pred.Name,.int .i64 x.Pred.N,sl ac x.Pred.Kids,sl ac x.Preds]:=by rw[aO];rfl
theorem I5(x:ae):∀q∈af x,q.one=true:=by
 intro q hq
 rw[aO]at hq
 simp only[vaD,vbA,or_false]at hq
 rcases hq with rfl|rfl|rfl|rfl|rfl|rfl|rfl|rfl|rfl<;>rfl
theorem Lg:Pg.cellsOf 30=9:=by kernel_rfl
theorem bA(x:ae):ch Pg 30 (af x)=some (.agg (af x)):=by
 have:=rz (P:=Pg) (t:=30) (l:=af x) (r:=[]) (by kernel_rfl) (Lg.trans (zr x).symm)
 rwa[vbm]at this
theorem bk(x:ae)(r:List PVal):ch Pg 30 ([.int .i64 x.Op,.str x.Name,sl af x.Args,sl cS x.Names,.int .i64 x.Pred.Op,.str x.Pred.Name,.int .i64 x.Pred.N,sl ac x.Pred.Kids,sl ac x.Preds]++r)=some (.agg (af x)):=by
 rw[<-aO];exact rz (by kernel_rfl) (Lg.trans (zr x).symm)
theorem cG(x:ae):PVal.agg [.int .i64 x.Op,.str x.Name,sl af x.Args,sl cS x.Names,.int .i64 x.Pred.Op,.str x.Pred.Name,.int .i64 x.Pred.N,sl ac x.Pred.Kids,sl ac x.Preds]=.agg (af x):=by rw[aO]
theorem G9:dc Pg 30 []=some (.agg (af (⟨0,([]:ai),([]:List ae),([]:List ai),(⟨0,([]:ai),0,([]:List aa)⟩:aa),([]:List aa)⟩:ae))):=by
 simp only[aO]
 kernel_rfl
theorem G7:rB Pg 30 [] [(2,30),(3,9),(7,28),(8,28)]:=by
 exact⟨[.int .i64 0,.str ([]:ai),.val lW,.val lW,.int .i64 0,.str ([]:ai),.int .i64 0,.val lW,.val lW],by kernel_rfl,(aI rfl (aI rfl (aI rfl (aI rfl trivial))))⟩
theorem pX(x0:Int)(x1:ai)(x3:(List ai))(x4:aa):dc Pg 30 [(0,.int .i64 x0),(1,.str x1),(3,sl cS x3),(4,.agg (ac x4))]=some (.agg (af (⟨x0,x1,([]:List ae),x3,x4,([]:List aa)⟩:ae))):=by
 simp only[aO,ax]
 kernel_rfl
theorem pW(x0:Int)(x1:ai)(x3:(List ai))(x4:aa):rB Pg 30 [(0,.int .i64 x0),(1,.str x1),(3,sl cS x3),(4,.agg (ac x4))] [(2,30),(8,28)]:=by
 simp only[ax]
 exact⟨[.int .i64 x0,.str x1,.val lW,sl cS x3,.int .i64 x4.Op,.str x4.Name,.int .i64 x4.N,sl ac x4.Kids,.val lW],by kernel_rfl,(aI rfl (aI rfl trivial))⟩
theorem nB(x0:Int)(x1:ai)(x3:(List ai))(x4:aa)(x5:(List aa)):dc Pg 30 [(0,.int .i64 x0),(1,.str x1),(3,sl cS x3),(4,.agg (ac x4)),(5,sl ac x5)]=some (.agg (af (⟨x0,x1,([]:List ae),x3,x4,x5⟩:ae))):=by
 simp only[aO,ax]
 kernel_rfl
theorem nz(x0:Int)(x1:ai)(x3:(List ai))(x4:aa)(x5:(List aa)):rB Pg 30 [(0,.int .i64 x0),(1,.str x1),(3,sl cS x3),(4,.agg (ac x4)),(5,sl ac x5)] [(2,30)]:=by
 simp only[ax]
 exact⟨[.int .i64 x0,.str x1,.val lW,sl cS x3,.int .i64 x4.Op,.str x4.Name,.int .i64 x4.N,sl ac x4.Kids,sl ac x5],by kernel_rfl,(aI rfl trivial)⟩
theorem B8(x0:Int)(x3:(List ai))(x2:(List ae)):dc Pg 30 [(0,.int .i64 x0),(3,sl cS x3),(2,sl af x2)]=some (.agg (af (⟨x0,([]:ai),x2,x3,(⟨0,([]:ai),0,([]:List aa)⟩:aa),([]:List aa)⟩:ae))):=by
 simp only[aO]
 kernel_rfl
theorem B7(x0:Int)(x3:(List ai))(x2:(List ae)):rB Pg 30 [(0,.int .i64 x0),(3,sl cS x3),(2,sl af x2)] [(7,28),(8,28)]:=by
 exact⟨[.int .i64 x0,.str ([]:ai),sl af x2,sl cS x3,.int .i64 0,.str ([]:ai),.int .i64 0,.val lW,.val lW],by kernel_rfl,(aI rfl (aI rfl trivial))⟩
theorem E0(x0:Int)(x4:aa):dc Pg 30 [(0,.int .i64 x0),(4,.agg (ac x4))]=some (.agg (af (⟨x0,([]:ai),([]:List ae),([]:List ai),x4,([]:List aa)⟩:ae))):=by
 simp only[aO,ax]
 kernel_rfl
theorem EZ(x0:Int)(x4:aa):rB Pg 30 [(0,.int .i64 x0),(4,.agg (ac x4))] [(2,30),(3,9),(8,28)]:=by
 simp only[ax]
 exact⟨[.int .i64 x0,.str ([]:ai),.val lW,.val lW,.int .i64 x4.Op,.str x4.Name,.int .i64 x4.N,sl ac x4.Kids,.val lW],by kernel_rfl,(aI rfl (aI rfl (aI rfl trivial)))⟩
theorem sJ(x0:Int)(x1:ai)(b3 n3:Nat)(x4:aa)(x5:(List aa)):dc Pg 30 [(0,.int .i64 x0),(1,.str x1),(3,.bsl b3 0 n3),(4,.agg (ac x4)),(5,sl ac x5)]=some (.agg [.int .i64 x0,.str x1,sl af ([]:List ae),.bsl b3 0 n3,.int .i64 x4.Op,.str x4.Name,.int .i64 x4.N,sl ac x4.Kids,sl ac x5]):=by
 simp only[ax]
 kernel_rfl
theorem sI(x0:Int)(x1:ai)(b3 n3:Nat)(x4:aa)(x5:(List aa)):rB Pg 30 [(0,.int .i64 x0),(1,.str x1),(3,.bsl b3 0 n3),(4,.agg (ac x4)),(5,sl ac x5)] [(2,30)]:=by
 simp only[ax]
 exact⟨[.int .i64 x0,.str x1,.val lW,.bsl b3 0 n3,.int .i64 x4.Op,.str x4.Name,.int .i64 x4.N,sl ac x4.Kids,sl ac x5],by kernel_rfl,(aI rfl trivial)⟩
theorem aH(x:ae):cE Pg 30 (.eptr (af x)) 0=some (.eptr ((af x).drop 0)):=by rw[aO];kernel_rfl
theorem cF(x:ae):cE Pg 30 (.eptr (af x)) 1=some (.eptr ((af x).drop 1)):=by rw[aO];kernel_rfl
theorem aL(x:ae):cE Pg 30 (.eptr (af x)) 2=some (.eptr ((af x).drop 2)):=by rw[aO];kernel_rfl
theorem aY(x:ae):cE Pg 30 (.eptr (af x)) 3=some (.eptr ((af x).drop 3)):=by rw[aO];kernel_rfl
theorem bw(x:ae):cE Pg 30 (.eptr (af x)) 4=some (.eptr ((af x).drop 4)):=by rw[aO];kernel_rfl
theorem bp(x:ae):cE Pg 30 (.eptr (af x)) 5=some (.eptr ((af x).drop 8)):=by rw[aO];kernel_rfl
theorem aJ(x:ae):ch Pg 22 ((af x).drop 0)=some (.int .i64 x.Op):=by rw[aO];kernel_rfl
theorem cO(x:ae):ch Pg 9 ((af x).drop 1)=some (.str x.Name):=by rw[aO];kernel_rfl
theorem aM(x:ae):ch Pg 23 ((af x).drop 2)=some (sl af x.Args):=by rw[aO];kernel_rfl
theorem aZ(x:ae):ch Pg 24 ((af x).drop 3)=some (sl cS x.Names):=by rw[aO];kernel_rfl
theorem bz(x:ae):ch Pg 28 ((af x).drop 4)=some (.agg (ac x.Pred)):=by
 rw[aO,ax];kernel_rfl
theorem bu(x:ae):ch Pg 26 ((af x).drop 8)=some (sl ac x.Preds):=by rw[aO];kernel_rfl
structure ah where
 names:(List ai)
 by_:(List aa)
def am(x:ah):List PVal:=[sl cS x.names,sl ac x.by_]
theorem bM(x:ah):am x=[sl cS x.names,sl ac x.by_]:=rfl
theorem aR(x:ah):hX 0 (am x):=(aI (ak hZ x.names) (aI (ak ag x.by_) trivial))
theorem je(x:ah):(am x).length=2:=by rw[bM];rfl
theorem cz(x:ah):bZ (.agg (am x))=some (am x):=rfl
theorem cN(x:ah):bZ (.agg (am x))=some [sl cS x.names,sl ac x.by_]:=by rw[bM];rfl
theorem NX:Pg.cellsOf 71=2:=by kernel_rfl
theorem bN(x:ah):ch Pg 71 (am x)=some (.agg (am x)):=by
 have:=rz (P:=Pg) (t:=71) (l:=am x) (r:=[]) (by kernel_rfl) (NX.trans (je x).symm)
 rwa[vbm]at this
theorem bE(x:ah)(r:List PVal):ch Pg 71 ([sl cS x.names,sl ac x.by_]++r)=some (.agg (am x)):=by
 rw[<-bM];exact rz (by kernel_rfl) (NX.trans (je x).symm)
theorem jo(x:ah):PVal.agg [sl cS x.names,sl ac x.by_]=.agg (am x):=by rw[bM]
theorem ol:dc Pg 71 []=some (.agg (am (⟨([]:List ai),([]:List aa)⟩:ah))):=by
 kernel_rfl
theorem oh:rB Pg 71 [] [(0,9),(1,28)]:=by
 exact⟨[.val lW,.val lW],by kernel_rfl,(aI rfl (aI rfl trivial))⟩
theorem mR(x0:(List ai))(x1:(List aa)):dc Pg 71 [(0,sl cS x0),(1,sl ac x1)]=some (.agg (am (⟨x0,x1⟩:ah))):=by
 kernel_rfl
theorem gm(x:ah):cE Pg 71 (.eptr (am x)) 0=some (.eptr ((am x).drop 0)):=by kernel_rfl
theorem eb(x:ah):cE Pg 71 (.eptr (am x)) 1=some (.eptr ((am x).drop 1)):=by kernel_rfl
theorem gp(x:ah):ch Pg 24 ((am x).drop 0)=some (sl cS x.names):=by kernel_rfl
theorem ec(x:ah):ch Pg 26 ((am x).drop 1)=some (sl ac x.by_):=by kernel_rfl
structure xn where
 Name:ai
 Sort_:ai
deriving DecidableEq
def eC(x:xn):List PVal:=[.str x.Name,.str x.Sort_]
theorem BM(x:xn):eC x=[.str x.Name,.str x.Sort_]:=rfl
theorem mV(x:xn):hX 0 (eC x):=(aI trivial (aI trivial trivial))
theorem Gh(x:xn):(eC x).length=2:=by rw[BM];rfl
theorem Gt(x:xn):bZ (.agg (eC x))=some [.str x.Name,.str x.Sort_]:=by rw[BM];rfl
theorem Kk(x:xn):∀q∈eC x,q.one=true:=by
 intro q hq
 rw[BM]at hq
 simp only[vaD,vbA,or_false]at hq
 rcases hq with rfl|rfl<;>rfl
theorem JO:Pg.cellsOf 119=2:=by kernel_rfl
theorem Ib(x:xn):ch Pg 119 (eC x)=some (.agg (eC x)):=by
 have:=rz (P:=Pg) (t:=119) (l:=eC x) (r:=[]) (by kernel_rfl) (JO.trans (Gh x).symm)
 rwa[vbm]at this
structure aU where
 Name:ai
 Params:(List xn)
deriving DecidableEq
def aN(x:aU):List PVal:=[.str x.Name,sl eC x.Params]
theorem tB(x:aU):aN x=[.str x.Name,sl eC x.Params]:=rfl
theorem bT(x:aU):hX 0 (aN x):=(aI trivial (aI (ak mV x.Params) trivial))
theorem Em(x:aU):(aN x).length=2:=by rw[tB];rfl
theorem zJ(x:aU):bZ (.agg (aN x))=some [.str x.Name,sl eC x.Params]:=by rw[tB];rfl
theorem I3(x:aU):∀q∈aN x,q.one=true:=by
 intro q hq
 rw[tB]at hq
 simp only[vaD,vbA,or_false]at hq
 rcases hq with rfl|rfl<;>rfl
theorem MF:Pg.cellsOf 59=2:=by kernel_rfl
theorem Cu(x:aU):ch Pg 59 (aN x)=some (.agg (aN x)):=by
 have:=rz (P:=Pg) (t:=59) (l:=aN x) (r:=[]) (by kernel_rfl) (MF.trans (Em x).symm)
 rwa[vbm]at this
structure cc where
 Name:ai
 Pred:aa
def aS(x:cc):List PVal:=[.str x.Name]++(ac x.Pred)
theorem xL(x:cc):aS x=[.str x.Name,.int .i64 x.Pred.Op,.str x.Pred.Name,.int .i64 x.Pred.N,sl ac x.Pred.Kids]:=by
 unfold aS
 simp only[ax,vbo,va7]
theorem cj(x:cc):hX 0 (aS x):=by rw[xL];exact(aI trivial (aI trivial (aI trivial (aI trivial (aI (ak ag x.Pred.Kids) trivial)))))
theorem Gg(x:cc):(aS x).length=5:=by rw[xL];rfl
theorem CI(x:cc):bZ (.agg (aS x))=some [.str x.Name,.int .i64 x.Pred.Op,.str x.Pred.Name,.int .i64 x.Pred.N,sl ac x.Pred.Kids]:=by rw[xL];rfl
theorem Kj(x:cc):∀q∈aS x,q.one=true:=by
 intro q hq
 rw[xL]at hq
 simp only[vaD,vbA,or_false]at hq
 rcases hq with rfl|rfl|rfl|rfl|rfl<;>rfl
theorem MG:Pg.cellsOf 61=5:=by kernel_rfl
theorem Fg(x:cc):ch Pg 61 (aS x)=some (.agg (aS x)):=by
 have:=rz (P:=Pg) (t:=61) (l:=aS x) (r:=[]) (by kernel_rfl) (MG.trans (Gg x).symm)
 rwa[vbm]at this
theorem dF:sO Pg 23 30 af:=⟨underlying23,fun x=>(zr x).trans Lg.symm,by kernel_rfl,by rw[Lg];decide,by kernel_rfl,va2 (by kernel_rfl),I5,al⟩
theorem Ow:Pg.cellsOf 9=1:=by kernel_rfl
theorem cn:sO Pg 24 9 cS:=⟨underlying24,fun _=>Ow.symm,by kernel_rfl,by rw[Ow];decide,by kernel_rfl,va2 (by kernel_rfl),O8,hZ⟩
theorem aQ:sO Pg 26 28 ac:=⟨underlying26,fun x=>(zq x).trans Lf.symm,by kernel_rfl,by rw[Lf];decide,by kernel_rfl,va2 (by kernel_rfl),I4,ag⟩
theorem Dg:sO Pg 55 59 aN:=⟨underlying55,fun x=>(Em x).trans MF.symm,by kernel_rfl,by rw[MF];decide,by kernel_rfl,va2 (by kernel_rfl),I3,bT⟩
theorem D0:sO Pg 56 61 aS:=⟨underlying56,fun x=>(Gg x).trans MG.symm,by kernel_rfl,by rw[MG];decide,by kernel_rfl,va2 (by kernel_rfl),Kj,cj⟩
theorem Ji:sO Pg 57 119 eC:=⟨underlying57,fun x=>(Gh x).trans JO.symm,by kernel_rfl,by rw[JO];decide,by kernel_rfl,va2 (by kernel_rfl),Kk,mV⟩
theorem PK:Pg.cellsOf 5=1:=by kernel_rfl
theorem Ob:(Pg.underlying 55).any GN=true:=by kernel_rfl
theorem Oc:(Pg.underlying 56).any GN=true:=by kernel_rfl
theorem Iq:(Pg.underlying 9).any GN=true:=by kernel_rfl
theorem Pr:zS Pg 4=some (PVal.bool false):=by kernel_rfl
theorem dB:gI Pg 28=some [.int .i64 0,.str ([]:ai),.int .i64 0,sl ac ([]:List aa)]:=by kernel_rfl
theorem io:gI Pg 30=some [.int .i64 0,.str ([]:ai),sl af ([]:List ae),sl cS ([]:List ai),.int .i64 0,.str ([]:ai),.int .i64 0,sl ac ([]:List aa),sl ac ([]:List aa)]:=by kernel_rfl
theorem MP:gI Pg 59=some [.str ([]:ai),sl eC ([]:List xn)]:=by kernel_rfl
theorem MQ:gI Pg 61=some [.str ([]:ai),.int .i64 0,.str ([]:ai),.int .i64 0,sl ac ([]:List aa)]:=by kernel_rfl
theorem HG:gI Pg 71=some [sl cS ([]:List ai),sl ac ([]:List aa)]:=by kernel_rfl
theorem L7:gI Pg 119=some [.str ([]:ai),.str ([]:ai)]:=by kernel_rfl
def eI:List ai:=[([97,110,100]:ai),([97,115,115,117,109,101]:ai),([98,111,111,108]:ai),([98,111,117,110,100]:ai),([99,97,115,101]:ai),([99,101,108,108]:ai),([99,108,97,115,115]:ai),([100,97,116,97]:ai),([100,101,102]:ai),([100,105,118]:ai),([101,108,115,101]:ai),([101,110,100]:ai),([102,97,108,115,101]:ai),([102,111,114,97,108,108]:ai),([102,117,110]:ai),([103,101,116]:ai),([105,102]:ai),([105,110]:ai),([105,110,115,116]:ai),([105,110,116]:ai),([105,110,118,97,114,105,97,110,116]:ai),([108,101,116]:ai),([109,97,116,99,104]:ai),([109,101,97,115,117,114,101]:ai),([109,101,116,114,105,99]:ai),([109,111,100]:ai),([109,117]:ai),([110,101,119]:ai),([110,111,116]:ai),([111,102]:ai),([111,114]:ai),([113,117,97,108]:ai),([114,101,102,108,101,99,116]:ai),([115,101,116]:ai),([116,104,101,110]:ai),([116,114,117,101]:ai),([117,115,101]:ai),([118]:ai),([118,97,108]:ai),([116,97,103]:ai),([119,104,101,114,101]:ai),([119,105,116,104]:ai)]
theorem NT:Pg.cellsOf 158=42:=by kernel_rfl
theorem oQ:ch Pg 158 (eI.map PVal.str)=some (.agg (eI.map PVal.str)):=by kernel_rfl
theorem xZ{k:IntKind}{i:Int}{x:ai}(h:eh eI i=some x):ry Pg 158 (.agg (eI.map PVal.str)) (.int k i)=some (PVal.str x):=NA underlying158 Ow (by kernel_rfl) (by kernel_rfl) (by kernel_rfl) h
def gn:List Int:=[1,10,100,1000,10000,100000,1000000,10000000,100000000,1000000000,10000000000,100000000000,1000000000000,10000000000000,100000000000000,1000000000000000,10000000000000000,100000000000000000,1000000000000000000,10000000000000000000]
theorem NU:Pg.cellsOf 165=20:=by kernel_rfl
theorem NS:Pg.cellsOf 138=1:=by kernel_rfl
def qb:List Int:=[0,1,28,2,29,14,24,3,30,22,20,15,25,17,4,8,31,27,13,23,21,19,16,7,26,12,18,6,11,5,10,9]
theorem NV:Pg.cellsOf 167=32:=by kernel_rfl
def qc:List Int:=[0,1,56,2,57,49,28,3,61,58,42,50,38,29,17,4,62,47,59,36,45,43,51,22,53,39,33,30,24,18,12,5,63,55,48,27,60,41,37,16,46,35,44,21,52,32,23,11,54,26,40,15,34,20,31,10,25,14,19,9,13,8,7,6]
theorem NW:Pg.cellsOf 168=64:=by kernel_rfl
def GE:List (Nat×List PVal):=[(0,eI.map PVal.str),(1,gn.map (PVal.int .u64)),(2,qb.map (PVal.int .u8)),(3,qc.map (PVal.int .u8))]
theorem ct(A:List Nat){m:Nat}{c:Code}{sc:List It}{F:Prop}{e0:Exit}{st0 st:aq}(h:PS sc F)(he:F=rS Pg GE A m c sc st (FN e0 st0)):aC Pg GE m c (EX e0 st0) st:=dH mixed h he
theorem Bd(A:List Nat){m:Nat}{c:Code}{sc:List It}{F:Prop}{σ X:Type}{S:σ->aq}{ex:X->Exit}{so:X->aq}{s:σ}{st:aq}(h:PS sc F)(he:F=rS Pg GE A m c sc st (FN .normal (S s))):aC Pg GE m c (LQ S ex so (.inl s)) st:=N6 mixed h he
theorem gZ(A:List Nat){m:Nat}{c:Code}{sc:List It}{F:Prop}{σ X:Type}{S:σ->aq}{ex:X->Exit}{so:X->aq}{x:X}{st:aq}(hn:ex x≠.normal)(h:PS sc F)(he:F=rS Pg GE A m c sc st (FN (ex x) (so x))):aC Pg GE m c (LQ S ex so (.inr x)) st:=N9 mixed hn h he
theorem cb(A:List Nat){f:FuncId}{fn:Func}{c:Code}{args:List PVal}{r:PVal}{ro:List (Nat×TypeId)}(hcall:∀vs w,(callFunc f vs).run Pg w=.ok (.enter f vs) w)(hfn:Pg.funcs[f]? =some fn)(hb:fn.body=some c)(hcl:hX 0 args){sc:List It}{F:Prop}(h:PS sc F)(he:F=rS Pg GE A 0 c sc ⟨args++List.replicate (fn.ntmps - args.length) .undef,[],[]⟩ (FR Pg fn.results.toList r ro)):CC Pg GE f args r ro:=C.evp mixed hcall hfn hb hcl h he
abbrev waA:=List aa
abbrev waB:=List ai
abbrev waC:=List ae
abbrev waD:=List cc
abbrev waE:=List aU
theorem Cn:∀n,(∀l,Sh Pg n 28 l->∃x,l=ac x):=by
 intro n
 induction n using Nat.strongRecOn with
 | ind n ih =>
  cases n with
  |zero=>exact fun l h=>h.elim
  | succ n =>
   exact fun l h=>by
    unfold Sh at h
    rw[underlying28]at h
    obtain⟨a0,b0,rfl,_,h0,a1,b1,rfl,_,h1,a2,b2,rfl,_,h2,a3,b3,rfl,_,h3,rfl⟩:=h
    obtain⟨x0,rfl⟩:=(MJ underlying25) n _ h0
    obtain⟨x1,rfl⟩:=(Hp underlying9) n _ h1
    obtain⟨x2,rfl⟩:=(MJ underlying3) n _ h2
    obtain⟨x3,rfl⟩:=J3 underlying26 (c:=ac) (fun m hm=>(ih m (by omega))) _ h3
    exact⟨(⟨x0,x1,x2,x3⟩:aa),by rw[ax];rfl⟩
theorem J5:∀n,(∀l,Sh Pg n 30 l->∃x,l=af x):=by
 intro n
 induction n using Nat.strongRecOn with
 | ind n ih =>
  cases n with
  |zero=>exact fun l h=>h.elim
  | succ n =>
   exact fun l h=>by
    unfold Sh at h
    rw[underlying30]at h
    obtain⟨a0,b0,rfl,_,h0,a1,b1,rfl,_,h1,a2,b2,rfl,_,h2,a3,b3,rfl,_,h3,a4,b4,rfl,_,h4,a5,b5,rfl,_,h5,rfl⟩:=h
    obtain⟨x0,rfl⟩:=(MJ underlying22) n _ h0
    obtain⟨x1,rfl⟩:=(Hp underlying9) n _ h1
    obtain⟨x2,rfl⟩:=J3 underlying23 (c:=af) (fun m hm=>(ih m (by omega))) _ h2
    obtain⟨x3,rfl⟩:=(J2 underlying24 (Hp underlying9)) n _ h3
    obtain⟨x4,rfl⟩:=Cn n _ h4
    obtain⟨x5,rfl⟩:=(J2 underlying26 Cn) n _ h5
    exact⟨(⟨x0,x1,x2,x3,x4,x5⟩:ae),by rw[aO];(try simp only[ax]);rfl⟩
theorem Lp:∀n,(∀l,Sh Pg n 119 l->∃x,l=eC x):=by
 intro n
 induction n using Nat.strongRecOn with
 | ind n ih =>
  cases n with
  |zero=>exact fun l h=>h.elim
  | succ n =>
   exact fun l h=>by
    unfold Sh at h
    rw[underlying119]at h
    obtain⟨a0,b0,rfl,_,h0,a1,b1,rfl,_,h1,rfl⟩:=h
    obtain⟨x0,rfl⟩:=(Hp underlying9) n _ h0
    obtain⟨x1,rfl⟩:=(Hp underlying117) n _ h1
    exact⟨(⟨x0,x1⟩:xn),by rw[BM];rfl⟩
theorem J4:∀n,(∀l,Sh Pg n 59 l->∃x,l=aN x):=by
 intro n
 induction n using Nat.strongRecOn with
 | ind n ih =>
  cases n with
  |zero=>exact fun l h=>h.elim
  | succ n =>
   exact fun l h=>by
    unfold Sh at h
    rw[underlying59]at h
    obtain⟨a0,b0,rfl,_,h0,a1,b1,rfl,_,h1,rfl⟩:=h
    obtain⟨x0,rfl⟩:=(Hp underlying9) n _ h0
    obtain⟨x1,rfl⟩:=(J2 underlying57 Lp) n _ h1
    exact⟨(⟨x0,x1⟩:aU),by rw[tB];rfl⟩
theorem Lo:∀n,(∀l,Sh Pg n 61 l->∃x,l=aS x):=by
 intro n
 induction n using Nat.strongRecOn with
 | ind n ih =>
  cases n with
  |zero=>exact fun l h=>h.elim
  | succ n =>
   exact fun l h=>by
    unfold Sh at h
    rw[underlying61]at h
    obtain⟨a0,b0,rfl,_,h0,a1,b1,rfl,_,h1,rfl⟩:=h
    obtain⟨x0,rfl⟩:=(Hp underlying9) n _ h0
    obtain⟨x1,rfl⟩:=Cn n _ h1
    exact⟨(⟨x0,x1⟩:cc),by rw[xL];(try simp only[ax]);rfl⟩
end Go.Proofs.YtggeppllafbidaaGreatDoor
