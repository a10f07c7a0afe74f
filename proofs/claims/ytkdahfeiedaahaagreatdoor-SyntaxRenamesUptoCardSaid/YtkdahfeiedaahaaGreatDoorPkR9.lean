/- PROVED: a part of the proof. Conditions: none. -/
import Derived.Test.YtkdahfeiedaahaaGreatDoorPkR8
import Derived.LaidLaws
import Derived.Test.YtkdahfeiedaahaaGreatDoorRows
import Derived.Test.YtkdahfeiedaahaaGreatDoorPkR3
import Derived.Shelf.SlicesE.Clone
set_option linter.unusedSimpArgs false
set_option linter.unusedVariables false
noncomputable section
namespace Go.Proofs.YtkdahfeiedaahaaGreatDoor
open Go Go.RowKit Go.WideShapes Go.ChangeShapes Go.ChangeAt
section
variable{P:Program}{W:World}
theorem Lu:∀{laid:List (String×DataW Unit)} {ps:List MemPlace} {name:String} {d:DataW Unit},DataW.LaidVars P W laid ps->(name,d)∈laid->
  ∃g t cs fuel p,P.globalNamed name=some g/\(P.globals[g]?).map (·.type)=some t/\W.var? P name=some cs/\DataW.trod (λ_=>()) P W 0 (λ_=>true) false fuel t cs.toList=some (d,p)
 |[],_,_,_,_,hm=>by cases hm
 |(n,d')::r,ps,name,d,⟨g,t,cs,fuel,p,q,h1,h2,h3,h4,h5,_⟩,hm=>by
  cases hm with
  |head=>exact⟨g,t,cs,fuel,p,h1,h2,h3,h4⟩
  |tail _ hm=>exact Lu h5 hm
theorem RG{name:String}{g:Nat}{cs:Array Value}(hg:P.globalNamed name=some g)(h:W.var? P name=some cs):∃t fr,W.heap[g]? =some (.cells cs t fr):=by
 unfold World.var? at h
 rw[hg]at h
 simp only[vaa]at h
 split at h
 ·rename_i c t fr hh
  cases h
  exact⟨t,fr,hh⟩
 ·cases h
def P8{H:Type}(l:List ai):DataW H:=.agg (l.map λs=>.lit (.string s))
theorem M0{H:Type}{enc:TypeId×Value->H}{base:Nat}{sp:Nat->Bool}{held:Bool}{fuel:Nat}{t e:TypeId}{n:Nat}{cs:List Value}{zs:List ai}{p:List MemPlace}
  (ht:P.underlying t=some (.array n e)) (he:P.underlying e=some .string) (hce:P.cellsOf e=1) (hct:P.cellsOf t=n)
  (h:DataW.trod enc P W base sp held fuel t cs=some (P8 zs,p)):cs=zs.map λz=>Value.string ⟨z.toArray⟩:=by
 cases fuel with
 |zero=>simp[DataW.trod]at h
 | succ fuel =>
  simp only[DataW.trod,ht,hce,hct,vbT]at h
  split at h
  ·rename_i hl
   obtain⟨xs,hm,hx⟩:=vaJ.1 h
   have hxs:xs.map (·.1)=zs.map λz=>(DataW.lit (.string z):DataW H):=by
    have:=vbd Prod.fst hx
    simpa[P8]using this
   have hxl:xs.length=n:=by simpa using Lib.mapM_length hm
   have hzl:zs.length=n:=by
    have:=vbd List.length hxs
    simp at this
    omega
   apply vbf
   intro i
   by_cases hi:i<n
   ·obtain⟨b,hb,hf⟩:=Lib.mapM_at hm i i (by simp[hi])
    obtain⟨z,hc,rfl,_⟩:=DataW.trod_string he hf
    have h1:cs[i]? =some (.string z):=by
     have:=vbd (·[0]?) hc
     simpa[List.getElem?_take,vbg]using this
    have h2:(xs.map (·.1))[i]? =some (DataW.lit (.string z.data.toList):DataW H):=by simp[hb]
    rw[hxs]at h2
    simp only[vav,vaJ,DataW.lit.injEq,Lit.string.injEq]at h2
    obtain⟨z',hz',h3⟩:=h2
    simp only[h1,vav,hz',vak,h3]
   ·rw[vaK (by omega),vaK (by simp;omega)]
  ·cases h
theorem Wk{x:Nat}{pv:List PVal}{cs:Array Value}{t:TypeId}{fr:Nat×Nat}(hh:W.heap[x]? =some (.cells cs t fr))(hcl:gZ 0 pv)(hs:cs.size=pv.length)(hv:∀(i:Nat) p v,pv[i]? =some p->cs[i]? =some v->VR (xX W) [] W p v):qa4 W (x,pv):=
 ⟨hcl,cs,t,fr,hh,hs,hv⟩
theorem Ll{laid:List (String×DataW Unit)}{name:String}{d:DataW Unit}{g:Nat}{t e:TypeId}{n:Nat}{k:IntKind}{zs:List Int}(hL:laidMet P laid W)(hm:(name,d)∈laid)(hd:d=Lib.tabData k zs)
  (hg:P.globalNamed name=some g) (hty:(P.globals[g]?).map (·.type)=some t) (ht:P.underlying t=some (.array n e)) (he:P.underlying e=some (.int k)) (hce:P.cellsOf e=1) (hct:P.cellsOf t=n):qa4 W (g,zs.map (PVal.int k)):=by
 obtain⟨ps,hV,_⟩:=hL
 obtain⟨g',t',cs,fuel,p,h1,h2,h3,h4⟩:=Lu hV hm
 obtain rfl:=vbb (hg.symm.trans h1)
 obtain rfl:=vbb (hty.symm.trans h2)
 subst hd
 have hc:=Lib.cells_of_tab ht he hce hct h4
 obtain⟨ty,fr,hh⟩:=RG hg h3
 refine Wk hh (Sc λq hq=>?_) (by simpa using vbd List.length hc) (λi q v hq hv=>?_)
 ·obtain⟨z,_,rfl⟩:=vag.1 hq
  simp[PVal.cl]
 ·rw[<-va2,hc]at hv
  simp only[vav,vaJ]at hq hv
  obtain⟨z,hz,rfl⟩:=hq
  obtain⟨z',hz',rfl⟩:=hv
  cases hz.symm.trans hz'
  exact .int _ _
theorem Wl{laid:List (String×DataW Unit)}{name:String}{d:DataW Unit}{g:Nat}{t e:TypeId}{n:Nat}{zs:List ai}(hL:laidMet P laid W)(hm:(name,d)∈laid)(hd:d=P8 zs)
  (hg:P.globalNamed name=some g) (hty:(P.globals[g]?).map (·.type)=some t) (ht:P.underlying t=some (.array n e)) (he:P.underlying e=some .string) (hce:P.cellsOf e=1) (hct:P.cellsOf t=n):qa4 W (g,zs.map PVal.str):=by
 obtain⟨ps,hV,_⟩:=hL
 obtain⟨g',t',cs,fuel,p,h1,h2,h3,h4⟩:=Lu hV hm
 obtain rfl:=vbb (hg.symm.trans h1)
 obtain rfl:=vbb (hty.symm.trans h2)
 subst hd
 have hc:=M0 ht he hce hct h4
 obtain⟨ty,fr,hh⟩:=RG hg h3
 refine Wk hh (Sc λq hq=>?_) (by simpa using vbd List.length hc) (λi q v hq hv=>?_)
 ·obtain⟨z,_,rfl⟩:=vag.1 hq
  simp[PVal.cl]
 ·rw[<-va2,hc]at hv
  simp only[vav,vaJ]at hq hv
  obtain⟨z,hz,rfl⟩:=hq
  obtain⟨z',hz',rfl⟩:=hv
  cases hz.symm.trans hz'
  exact .str _
end
def qcf(w:World)(l:List (Nat×Array Value)):World:={w with heap:=l.foldl (λh x=>h.modify x.1 λ|.cells _ t fr=>.cells x.2 t fr|o=>o) w.heap}
def qfT:PVal->Value
 |.int k n=>.int k n
 |.str s=>.string ⟨s.toArray⟩
 |.bool b=>.bool b
 |_=>undef
def qaO(l:List (Nat×List PVal)):List (Nat×Array Value):=l.map λx=>(x.1,(x.2.map qfT).toArray)
set_option linter.unusedVariables false
mutual
def pm:PVal->Nat
 |.str s=>s.length+1
 |.slice es=>bD es+1
 |.int _ _=>1
 |.bool _=>1
 |_=>0
def fN:List PVal->Nat
 |[]=>0
 |p::l=>pm p+fN l
def bD:List (List PVal)->Nat
 |[]=>0
 |x::r=>fN x+bD r
end
theorem LY:∀(a b:List PVal),fN (a++b)=fN a+fN b
 |[],b=>by simp[fN]
 |p::a,b=>by simp only[va8,fN,LY a b];omega
def qcO(P:Program)(S:TypeId->List PVal->Prop):List Field->List PVal->Prop
 |[],l=>l=[]
 |f::fs,l=>∃a b,l=a++b/\a.length=P.cellsOf f.type/\S f.type a/\qcO P S fs b
def Sh(P:Program):Nat->TypeId->List PVal->Prop
 |0,_,_=>False
 |n+1,t,l=>match P.underlying t with
  |some .bool=>∃b,l=[.bool b]
  |some (.int k)=>∃i,l=[.int k i]/\(Lit.int k i).wf=true
  |some .string=>∃s:ai,l=[.str s]/\s.length<=maxLen
  |some (.slice e)=>∃es,l=[.slice es]/\es.length<=maxLen/\∀x∈es,Sh P n e x
  |some (.struct fs)=>qcO P (Sh P n) fs.toList l
  |_=>True
def BB(P:Program):Nat->List Field->Nat->Bool
 |o,[],n=>decide (o=n)
 |o,f::fs,n=>decide (f.offset=o)&&BB P (o+P.cellsOf f.type) fs n
theorem TH{α:Type}{Q:Nat->α->Prop}:∀{n:Nat},(∀i,i<n->∃x,Q i x)->∃l:List α,l.length=n/\∀(i:Nat) x,l[i]? =some x->Q i x
 |0,_=>⟨[],rfl,λi x h=>by simp at h⟩
 | n + 1,h => by
  obtain⟨l,hl,hq⟩:=TH (n:=n) λi hi=>h i (by omega)
  obtain⟨x,hx⟩:=h n (by omega)
  refine⟨l++[x],by simp[hl],λi y hy=>?_⟩
  by_cases hi:i<l.length
  ·rw[vac hi]at hy;exact hq i y hy
  ·have hlt:=aq hy
   simp at hlt
   have:i=l.length:=by omega
   subst this
   rw[vaf (var _)]at hy
   simp at hy;subst hy;rw[hl];exact hx
theorem Ti{H:Type}:∀{es:List (List PVal)} {ds:List (DataW H)},es.length=ds.length->(∀(i:Nat) x d,es[i]? =some x->ds[i]? =some d->fN x<=Rows.uptoBulk d)->bD es<=Rows.uptoBulkAll ds
 |[],[],_,_=>by simp[bD,Rows.uptoBulkAll]
 |x::es,d::ds,hl,h=>by
  have h1:=h 0 x d rfl rfl
  have h2:=Ti (es:=es) (ds:=ds) (by simpa using hl) λi x d hx hd=>h (i+1) x d (by simpa using hx) (by simpa using hd)
  simp only[bD,Rows.uptoBulkAll];omega
section
variable{H:Type}{enc:TypeId×Value->H}{P:Program}{W:World}{base:Nat}{sp:Nat->Bool}{held:Bool}
def qa5(P:Program)(W:World)(n:Nat)(t:TypeId)(cs:List Value)(b:Nat):Prop:=
 ∃l:List PVal,l.length=cs.length/\(∀(i:Nat) p v,l[i]? =some p->cs[i]? =some v->VR (xX W) [] W p v)/\Sh P n t l/\fN l<=b
theorem qa5.one{n:Nat}{t:TypeId}{p:PVal}{v:Value}{b:Nat}(h:VR (xX W) [] W p v)(hs:Sh P n t [p])(hb:pm p<=b):qa5 P W n t [v] b:=
 ⟨[p],rfl,λi q u hq hu=>by
  cases i with
  |zero=>simp at hq hu;subst hq;subst hu;exact h
  |succ i=>simp at hq,hs,by simp only[fN];omega⟩
theorem NO{L:List TypeId}{fuel:Nat}(ih:∀(t:TypeId),t∈L->∀(cs:List Value) (d:DataW H) (p:List MemPlace),DataW.trod enc P W base sp held fuel t cs=some (d,p)->qa5 P W fuel t cs (Rows.uptoBulk d)){cs:List Value}:∀{fs:List Field} {o n:Nat} {xs:List (DataW H×List MemPlace)},(∀f∈fs,f.type∈L)->n<=cs.length->BB P o fs n=true->fs.mapM (λf=>DataW.trod enc P W base sp held fuel f.type ((cs.drop f.offset).take (P.cellsOf f.type)))=some xs->
   o<=n/\∃l:List PVal,l.length=n - o/\(∀(i:Nat) p v,l[i]? =some p->cs[o+i]? =some v->VR (xX W) [] W p v)/\qcO P (Sh P fuel) fs l/\fN l<=Rows.uptoBulkAll (xs.map (·.1))
 |[],o,n,xs,_,hn,hc,h=>by
  unfold BB at hc
  have:o=n:=by simpa using hc
  subst this
  exact⟨var _,[],by simp,λi p v hp=>by simp at hp,rfl,by simp[fN]⟩
 | f :: fs,o,n,xs,hL,hn,hc,h => by
  unfold BB at hc
  simp only[vad,vao]at hc
  obtain⟨hfo,hc⟩:=hc
  simp only[vcd,Option.bind_eq_bind,vbm,Option.pure_def,vax]at h
  obtain⟨⟨d,p⟩,hd,xs',hxs,rfl⟩:=h
  obtain⟨ho,l2,k1,k2,k3,k4⟩:=NO ih (λg hg=>hL g (vaZ _ hg)) hn hc hxs
  obtain⟨l1,q1,q2,q3,q4⟩:=ih _ (hL f (by simp)) _ _ _ hd
  have hl1:l1.length=P.cellsOf f.type:=by rw[q1,vaQ,vbC,hfo];omega
  refine⟨by omega,l1++l2,by simp[hl1,k1];omega,λi q v hq hv=>?_,⟨l1,l2,rfl,hl1,q3,k3⟩,by rw[LY];simp only[vaz,Rows.uptoBulkAll];omega⟩
  by_cases hi:i<l1.length
  ·rw[vac hi]at hq
   refine q2 i q v hq ?_
   rw[vap (by omega),vbg,hfo]
   exact hv
  ·rw[vaf (by omega)]at hq
   refine k2 (i - l1.length) q v hq ?_
   rw[<-hv,hl1]
   congr 1
   rw[hl1]at hi
   omega
theorem Y5{fuel:Nat}{t:TypeId}{cs:List Value}{x:DataW H×List MemPlace}(ht:P.underlying t=some .bool)(h:DataW.trod enc P W base sp held (fuel+1) t cs=some x):∃b,cs=[.bool b]/\x.1=.lit (.bool b):=by
 unfold DataW.trod at h
 rw[ht]at h
 split at h<;>simp_all
 exact h▸rfl
theorem qaP{fuel:Nat}{t:TypeId}{cs:List Value}{k:IntKind}{x:DataW H×List MemPlace}(ht:P.underlying t=some (.int k))(h:DataW.trod enc P W base sp held (fuel+1) t cs=some x):∃n,cs=[.int k n]/\(Lit.int k n).wf=true/\x.1=.lit (.int k n):=by
 unfold DataW.trod at h
 rw[ht]at h
 cases cs with
 |nil=>simp at h
 | cons v r =>
  cases r with
  |cons _ _=>simp at h
  |nil=>
   cases v<;>simp at h
   obtain⟨⟨rfl,h1⟩,rfl⟩:=h
   exact⟨_,rfl,h1,rfl⟩
theorem Vh{fuel:Nat}{t:TypeId}{cs:List Value}{x:DataW H×List MemPlace}(ht:P.underlying t=some .string)(h:DataW.trod enc P W base sp held (fuel+1) t cs=some x):∃s:ByteArray,cs=[.string s]/\s.size<=maxLen/\x.1=.lit (.string s.data.toList):=by
 unfold DataW.trod at h
 rw[ht]at h
 split at h<;>simp_all
 exact h.2▸rfl
theorem XC{fuel:Nat}{t e:TypeId}{cs:List Value}{x:DataW H×List MemPlace}(ht:P.underlying t=some (.slice e))(h:DataW.trod enc P W base sp held (fuel+1) t cs=some x):(cs=[.slice none 0 0]/\x.1=.nil)\/∃a len cap elems rest,cs=[.slice (some a) len cap]/\len<=cap/\cap<=maxLen/\x.1=.slice (elems.map (·.1)) rest/\
   (List.range len).mapM (λi=>(W.cells? base (a.add (i * P.cellsOf e)) (P.cellsOf e)).bind (DataW.trod enc P W base sp held fuel e))=some elems:=by
 unfold DataW.trod at h
 rw[ht]at h
 cases cs with
 |nil=>simp at h
 | cons v r =>
  cases r with
  |cons _ _=>simp at h
  | nil =>
   cases v<;>try (simp at h;done)
   rename_i ad len cap
   cases ad with
   |none=>
    left
    match len,cap,h with
    |0,0,h=>simp at h;exact⟨rfl,h▸rfl⟩
    |0,c+1,h=>simp at h
    |n+1,c,h=>simp at h
   | some a =>
    right
    simp only at h
    split at h
    ·rename_i hc
     obtain⟨elems,h1,h2⟩:=vbm.1 h
     obtain⟨rest,h3,h4⟩:=vaJ.1 h2
     exact⟨a,len,cap,elems,rest.map (·.1),rfl,hc.2.1,hc.2.2,by rw[<-h4],h1⟩
    ·cases h
theorem Vi{fuel:Nat}{t:TypeId}{cs:List Value}{fs:Array Field}{x:DataW H×List MemPlace}(ht:P.underlying t=some (.struct fs))(h:DataW.trod enc P W base sp held (fuel+1) t cs=some x):cs.length=P.cellsOf t/\∃xs,fs.toList.mapM (λf=>DataW.trod enc P W base sp held fuel f.type ((cs.drop f.offset).take (P.cellsOf f.type)))=some xs/\x.1=.agg (xs.map (·.1)):=by
 unfold DataW.trod at h
 rw[ht]at h
 simp only at h
 split at h
 ·rename_i hl
  obtain⟨xs,h1,h2⟩:=vaJ.1 h
  exact⟨hl,xs,h1,by rw[<-h2]⟩
 ·cases h
theorem Qk(a:Addr):a.add 0=a:=by unfold Addr.add;simp
theorem Vc{w:World}{a:Addr}{v:Value}(h:w.cell? a=some v):a.spot=none:=by
 unfold World.cell? at h
 split at h
 ·split at h
  ·cases h
  ·rename_i hs;simpa using hs
 ·cases h
structure Uc(P:Program)(L:List TypeId):Prop where
 st:∀t∈L,∀fs,P.underlying t=some (.struct fs)->BB P 0 fs.toList (P.cellsOf t)=true/\∀f∈fs.toList,f.type∈L
 sl:∀t∈L,∀e,P.underlying t=some (.slice e)->0<P.cellsOf e/\e∈L
def Wi(P:Program)(L:List TypeId)(t:TypeId):Bool:=match P.underlying t with
 |some (.struct fs)=>BB P 0 fs.toList (P.cellsOf t)&&fs.toList.all λf=>L.contains f.type
 |some (.slice e)=>decide (0<P.cellsOf e)&&L.contains e
 |_=>true
theorem Ym{L:List TypeId}(h:L.all (Wi P L)=true):Uc P L:=by
 refine⟨λt ht fs hu=>?_,λt ht e hu=>?_⟩
 ·have:=vas.1 h t ht
  unfold Wi at this
  rw[hu]at this
  simp only[vad,vas,vbs]at this
  exact this
 ·have:=vas.1 h t ht
  unfold Wi at this
  rw[hu]at this
  simpa using this
theorem Ss{L:List TypeId}(hF:Uc P L):∀(fuel:Nat) (t:TypeId),t∈L->∀(cs:List Value) (d:DataW H) (p:List MemPlace),DataW.trod enc P W base sp held fuel t cs=some (d,p)->qa5 P W fuel t cs (Rows.uptoBulk d)
 |0,t,_,cs,d,p,h=>by simp[DataW.trod]at h
 | fuel + 1,t,htL,cs,d,p,h => by
  have ih:=Ss hF fuel
  have other:(∀l,Sh P (fuel+1) t l)->qa5 P W (fuel+1) t cs (Rows.uptoBulk d):=λhs=>by
   refine⟨cs.map .val,by simp,λi q v hq hv=>?_,hs _,?_⟩
   ·simp only[vav,hv,vak,vax]at hq
    subst hq;exact .val v
   ·have:∀cs:List Value,fN (cs.map .val)=0:=by
     intro cs
     induction cs with
     |nil=>rfl
     |cons c cs ih=>simp only[vaz,fN,ih,pm]
    rw[this];exact vaN _
  cases hu:P.underlying t with
  |none=>exact other λl=>by unfold Sh;rw[hu];trivial
  | some u =>
   cases u with
   |bool=>
    obtain⟨b,rfl,hx⟩:=Y5 hu h
    simp only at hx;subst hx
    exact .one (.bool b) (by unfold Sh;rw[hu];exact⟨b,rfl⟩) (by simp[pm,Rows.uptoBulk])
   |int k=>
    obtain⟨n,rfl,hw,hx⟩:=qaP hu h
    simp only at hx;subst hx
    exact .one (.int k n) (by unfold Sh;rw[hu];exact⟨n,rfl,hw⟩) (by simp[pm,Rows.uptoBulk])
   |string=>
    obtain⟨s,rfl,hl,hx⟩:=Vh hu h
    simp only at hx;subst hx
    exact .one (.str s.data.toList) (by unfold Sh;rw[hu];exact⟨s.data.toList,rfl,by rw[Array.length_toList];exact hl⟩) (by simp[pm,Rows.uptoBulk])
   |struct fs=>
    obtain⟨hl,xs,hxs,hx⟩:=Vi hu h
    simp only at hx;subst hx
    obtain⟨_,l,k1,k2,k3,k4⟩:=NO ih (hF.st t htL fs hu).2 (by omega) (hF.st t htL fs hu).1 hxs
    refine⟨l,by omega,λi q v hq hv=>k2 i q v hq (by rw[vaI];exact hv),by unfold Sh;rw[hu];exact k3,by simp only[Rows.uptoBulk];omega⟩
   | slice e =>
    obtain⟨hz,heL⟩:=hF.sl t htL e hu
    rcases XC hu h with⟨rfl,hx⟩|⟨a,len,cap,elems,rest,rfl,hlc,hcm,hx,hm⟩
    ·simp only at hx;subst hx
     exact .one .sliceNil (by unfold Sh;rw[hu];exact⟨[],rfl,by simp,by simp⟩) (by simp[pm,bD,Rows.uptoBulk])
    simp only at hx;subst hx
    have hel:elems.length=len:=by simpa using Lib.mapM_length hm
    have hat:∀i,i<len->∃x:List PVal,∃ci y,elems[i]? =some y/\W.cells? base (a.add (i * P.cellsOf e)) (P.cellsOf e)=some ci/\x.length=ci.length/\(∀(k:Nat) q v,x[k]? =some q->ci[k]? =some v->VR (xX W) [] W q v)/\Sh P fuel e x/\fN x<=Rows.uptoBulk y.1:=λi hi=>by
     obtain⟨y,hy,hb⟩:=Lib.mapM_at hm i i (by simp[hi])
     obtain⟨ci,hci,hd⟩:=vbm.1 hb
     obtain⟨x,k1,k2,k3,k4⟩:=ih e heL ci y.1 y.2 hd
     exact⟨x,ci,y,hy,hci,k1,k2,k3,k4⟩
    obtain⟨es,hes,hq⟩:=TH hat
    have hbulk:bD es<=Rows.uptoBulkAll (elems.map (·.1)):=Ti (by simp[hes,hel]) λi x d hx hd=>by
     obtain⟨ci,y,hy,_,_,_,_,hle⟩:=hq i x hx
     simp only[vav,hy,vak,vax]at hd
     subst hd;exact hle
    have hsh:Sh P (fuel+1) t [.slice es]:=by
     unfold Sh;rw[hu]
     refine⟨es,rfl,by omega,λx hx=>?_⟩
     obtain⟨i,hi⟩:=vbi.1 hx
     obtain⟨_,_,_,_,_,_,hs,_⟩:=hq i x hi
     exact hs
    refine .one ?_ hsh (by simp only[pm,Rows.uptoBulk];omega)
    by_cases h0:len=0
    ·subst h0
     obtain rfl:es=[]:=vat hes
     exact .sliceE a cap
    ·have hcell:∀i,i<len->∀k,k<P.cellsOf e->∃(x:List PVal) (ci:List Value),es[i]? =some x/\W.cell? ((a.add (i * P.cellsOf e)).add k)=ci[k]?/\ci.length=P.cellsOf e/\x.length=ci.length/\(∀(k:Nat) q v,x[k]? =some q->ci[k]? =some v->VR (xX W) [] W q v):=λi hi k hk=>by
      have hx:es[i]? =some es[i]:=vab (by omega)
      obtain⟨ci,y,hy,hc,hl,hv,_,_⟩:=hq i _ hx
      obtain⟨_,hcl,hcc⟩:=World.cells?_some hc
      exact⟨_,ci,hx,hcc k hk,hcl,hl,hv⟩
     have hspot:a.spot=none:=by
      obtain⟨x,ci,_,h2,h3,_,_⟩:=hcell 0 (by omega) 0 hz
      rw[vcP,Qk,Qk,vab (by omega)]at h2
      exact Vc h2
     obtain⟨ab,ao,asp⟩:=a
     simp only at hspot;subst hspot
     have hadd:∀i k,((⟨ab,ao,none⟩:Addr).add (i * P.cellsOf e)).add k=⟨ab,ao+i * P.cellsOf e+k,none⟩:=λi k=>by
      rw[Qj ⟨ab,ao,none⟩ _ rfl,Qj _ _ rfl]
     have hcl:∀(i:Nat) x (k:Nat) q,es[i]? =some x->x[k]? =some q->∃v,W.cell? ⟨ab,ao+i * P.cellsOf e+k,none⟩=some v/\VR (xX W) [] W q v:=λi x k q hx hqk=>by
      have hi:i<len:=by have:=aq hx;omega
      obtain⟨ci,y,hy,hc,hl,hv,_,_⟩:=hq i x hx
      obtain⟨_,hcl,hcc⟩:=World.cells?_some hc
      have hk:k<P.cellsOf e:=by have:=aq hqk;omega
      have hck:ci[k]? =some ci[k]:=vab (by omega)
      refine⟨ci[k],?_,hv k q _ hqk hck⟩
      rw[<-hadd,hcc k hk,hck]
     have hlen:∀(i:Nat) x,es[i]? =some x->x.length=P.cellsOf e:=λi x hx=>by
      obtain⟨ci,y,hy,hc,hl,_,_,_⟩:=hq i x hx
      exact hl.trans (World.cells?_some hc).2.1
     obtain⟨c,ty,fr,hh⟩:∃c ty fr,W.heap[ab]? =some (.cells c ty fr):=by
      obtain⟨x,ci,h1,h2,h3,h4,_⟩:=hcell 0 (by omega) 0 hz
      rw[hadd,vab (by omega)]at h2
      unfold World.cell? at h2
      split at h2
      ·rename_i c ty fr hh;exact⟨c,ty,fr,hh⟩
      ·cases h2
     have hin:ao+es.length * P.cellsOf e<=c.size:=by
      obtain⟨x,ci,h1,h2,h3,h4,_⟩:=hcell (len - 1) (by omega) (P.cellsOf e - 1) (by omega)
      rw[hadd,vab (by omega),cell_of_row W _ _ c ty fr hh]at h2
      have:=(vaj.1 h2).1
      have e1:(len - 1) * P.cellsOf e+P.cellsOf e=len * P.cellsOf e:=by
       have:len=(len - 1)+1:=by omega
       conv=>rhs;rw[this,vbo,vbY]
      rw[hes];omega
     have:=VR.slice (Γ:=xX W) (bs:=[]) (w:=W) es ab ao cap c.size (P.cellsOf e) (λi k=>(W.cell? ⟨ab,ao+i * P.cellsOf e+k,none⟩).getD undef) hz (by omega) (Ny hh) hin hlen
      (λi x k q hx hqk=>by obtain⟨v,h1,_⟩:=hcl i x k q hx hqk;rw[h1];rfl)
      (λi x k q hx hqk=>by obtain⟨v,h1,h2⟩:=hcl i x k q hx hqk;rw[h1];exact h2)
     rw[hes]at this
     exact this
   |_=>exact other λl=>by unfold Sh;rw[hu];trivial
end
end Go.Proofs.YtkdahfeiedaahaaGreatDoor
namespace Go.Proofs.YtkdahfeiedaahaaGreatDoor
open Go
set_option linter.unusedVariables false
abbrev In(P:Program)(t:TypeId){α:Type}(c:α->List PVal):Prop:=∀n l,Sh P n t l->∃x,l=c x
section
variable{P:Program}{t e:TypeId}{α:Type}{c:α->List PVal}
theorem Wn{k:IntKind}(hu:P.underlying t=some (.int k)):In P t (cI k):=λn l h=>by
 cases n with
 |zero=>exact h.elim
 |succ n=>
  unfold Sh at h
  rw[hu]at h
  obtain⟨i,rfl,_⟩:=h
  exact⟨i,rfl⟩
theorem PB(hu:P.underlying t=some .string):In P t cS:=λn l h=>by
 cases n with
 |zero=>exact h.elim
 |succ n=>
  unfold Sh at h
  rw[hu]at h
  obtain⟨i,rfl,_⟩:=h
  exact⟨i,rfl⟩
theorem QX:∀{es:List (List PVal)},(∀x∈es,∃y,x=c y)->∃ys:List α,es=ys.map c
 |[],_=>⟨[],rfl⟩
 |x::es,h=>by
  obtain⟨y,rfl⟩:=h x (by simp)
  obtain⟨ys,rfl⟩:=QX λz hz=>h z (vaZ _ hz)
  exact⟨y::ys,rfl⟩
theorem QO(hu:P.underlying t=some (.slice e)){n:Nat}(hE:∀m,m<n->∀l,Sh P m e l->∃x,l=c x)(l:List PVal)(h:Sh P n t l):∃xs,l=cL c xs:=by
 cases n with
 |zero=>exact h.elim
 |succ n=>
  unfold Sh at h
  rw[hu]at h
  obtain⟨es,rfl,_,h⟩:=h
  obtain⟨ys,rfl⟩:=QX λx hx=>hE n (vb6 n) x (h x hx)
  exact⟨ys,rfl⟩
theorem Wo(hu:P.underlying t=some (.slice e))(hE:In P e c):In P t (cL c):=λn l h=>QO hu (λm _=>hE m) l h
theorem Rf:∀(es:List (List PVal)),(∀x∈es,1<=fN x)->es.length<=bD es
 |[],_=>by simp[bD]
 |x::es,h=>by
  have h1:=h x (by simp)
  have h2:=Rf es λy hy=>h y (vaZ _ hy)
  simp only[bD,vau];omega
theorem FH:∀{es:List (List PVal)} {x:List PVal},x∈es->fN x<=bD es
 | y :: es,x,h => by
  simp only[bD]
  rcases vaB.1 h with rfl|h
  ·omega
  ·have:=FH h;omega
end
open Go Go.RowKit Go.WideShapes Go.ChangeShapes Go.ChangeAt
section
variable{H:Type}{enc:TypeId×Value->H}{P:Program}{W:World}{base b0:Nat}{sp:Nat->Bool}{held:Bool}{t e:TypeId}{v:Value}{d:DataW H}{p:List MemPlace}{L:List TypeId}
theorem Uw(hF:Uc P L)(hL:t∈L){fs:Array Field}(hu:P.underlying t=some (.struct fs))(h:DataW.Trod enc P W base sp held t v d p)(hv:Value.okWide P W .any b0 t v):∃n l,VR (xX W) [] W (.agg l) v/\Sh P n t l/\fN l<=Rows.uptoBulk d:=by
 obtain⟨n,h⟩:=h
 unfold Value.okWide at hv
 rw[hu]at hv
 obtain⟨cs,rfl,_,_⟩:=hv
 obtain⟨l,h1,h2,h3,h4⟩:=Ss hF n t hL _ d p h
 refine⟨n,l,.agg l cs ?_ λi q u hq hu'=>h2 i q u hq ?_,h3,h4⟩
 ·have:(Value.agg cs).cells.toList.length=cs.size:=by simp[Value.cells]
  omega
 ·show cs.toList[i]? =some u
  rw[va2];exact hu'
theorem qaD(hF:Uc P L)(hL:t∈L)(hc:v.cells.toList=[v])(h:DataW.Trod enc P W base sp held t v d p):∃n q,VR (xX W) [] W q v/\Sh P n t [q]/\pm q<=Rows.uptoBulk d:=by
 obtain⟨n,h⟩:=h
 rw[hc]at h
 obtain⟨l,h1,h2,h3,h4⟩:=Ss hF n t hL _ d p h
 match l,h1 with
 |[q],_=>exact⟨n,q,h2 0 q v rfl rfl,h3,by simpa[fN]using h4⟩
theorem TB(hF:Uc P L)(hL:t∈L)(hu:P.underlying t=some .string)(h:DataW.Trod enc P W base sp held t v d p)(hv:Value.okWide P W .any b0 t v):∃n q,VR (xX W) [] W q v/\Sh P n t [q]/\pm q<=Rows.uptoBulk d:=by
 unfold Value.okWide at hv
 rw[hu]at hv
 have hv':Cell.okWide P W .any b0 t v:=hv
 unfold Cell.okWide at hv'
 refine qaD hF hL ?_ h
 cases v<;>simp[hu,Cell.ok]at hv'<;>rfl
theorem WZ{α:Type}{c:α->List PVal}{f:α->PVal}{q:PVal}{x:α}(hc:c x=[f x])(h:[q]=c x):q=f x:=by
 rw[hc]at h
 exact List.head_eq_of_cons_eq h
end
def Wb(n:Nat):aA->Prop
 |.dead=>True
 |.cells cs _=>gZ n cs
 |.map es=>∀x∈es,x.1.cl n/\x.2.cl n
def E6(n:Nat):List aA->Prop
 |[]=>True
 |B::l=>Wb n B/\E6 n l
theorem QH{k:Nat}:∀{ps qs:List PVal},Mr ps qs=qs->gZ k qs->tN k ps qs
 |[],[],_,_=>trivial
 |[],_::_,h,_=>by simp[Mr]at h
 |p::ps,[],h,_=>by simp[Mr]at h
 |p::ps,q::qs,h,hc=>by
  obtain⟨hc1,hc2⟩:=hc
  cases q<;>simp only[Mr,vbN]at h<;>refine⟨?_,QH h.2 hc2⟩<;>first|exact .inl rfl|exact .inr ⟨h.1,hc1⟩
theorem Ut{k:Nat}{p q:aA}(h:tS p q=q)(hc:Wb k q):pI k p q:=by
 cases q with
 |dead=>cases p<;>simp[pI]
 | cells cs own =>
  cases p with
  | cells cs0 own0 =>
   simp only[tS,aA.cells.injEq]at h
   obtain⟨rfl,h⟩:=h
   refine⟨rfl,hc,λx hx=>?_⟩
   split at h
   ·rename_i ha
    simpa using vas.1 ha x hx
   ·rw[h];exact hx
  |map es=>simp[tS]at h
  |dead=>simp[tS]at h
 |map es=>
  have h':p=.map es:=by cases p<;>simp[tS]at h ⊢<;>exact h
  subst h'
  exact⟨rfl,hc⟩
theorem Fe{k:Nat}:∀{ps qs:List aA},Qc (ps.take qs.length) qs=qs->E6 k qs->dg k ps qs
 |_,[],_,_=>by unfold dg;trivial
 |[],_::_,h,_=>by simp[Qc]at h
 |p::ps,q::qs,h,hc=>by
  obtain⟨hc1,hc2⟩:=hc
  rw[vau,List.take_succ_cons]at h
  simp only[Qc,vbN]at h
  exact⟨Ut h.1 hc1,Fe h.2 hc2⟩
def qcL(m:Nat)(st st0:aB):Prop:=Mr st.tmps st0.tmps=st0.tmps/\Qc (st.boxes.take st0.boxes.length) st0.boxes=st0.boxes/\(st0.own.all λx=>decide (x∈st.own))=true/\decide (m % 1000<=st0.boxes.length)=true/\
 gZ st0.boxes.length st0.tmps/\E6 st0.boxes.length st0.boxes
theorem qcL.weak{P:Program}{m:Nat}{st st0:aB}(h:qcL m st st0):sG P m st st0:=by
 obtain⟨h1,h2,h3,h4,h5,h6⟩:=h
 exact .of_less ⟨QH h1 h5,Fe h2 h6,λx hx=>by simpa using vas.1 h3 x hx⟩ (by simpa using h4)
def qeh(m:Nat)(e0:Exit)(st0:aB):Exit->List It->aB->Prop:=λe _ st=>e0=e/\qcL m st st0
mutual
theorem Tj{n m:Nat}(hnm:n<=m):∀(p:PVal),p.cl n->p.cl m
 |.undef,_=>by simp[PVal.cl]
 |.int _ _,_=>by simp[PVal.cl]
 |.bool _,_=>by simp[PVal.cl]
 |.str _,_=>by simp[PVal.cl]
 |.val _,_=>by simp[PVal.cl]
 |.agg cs,h=>by simp only[PVal.cl]at h ⊢;exact pU hnm cs h
 |.tuple cs,h=>by simp only[PVal.cl]at h ⊢;exact pU hnm cs h
 |.slice es,h=>by simp only[PVal.cl]at h ⊢;exact NG hnm es h
 |.eptr cs,h=>by simp only[PVal.cl]at h ⊢;exact pU hnm cs h
 |.bptr i _,h=>by simp only[PVal.cl]at h ⊢;omega
 |.bsl i _ _,h=>by simp only[PVal.cl]at h ⊢;omega
 |.mapr i,h=>by simp only[PVal.cl]at h ⊢;omega
 |.nptr i _,h=>by simp only[PVal.cl]at h ⊢;omega
 |.func _ f c,h=>by simp only[PVal.cl]at h ⊢;exact⟨pU hnm f h.1,pU hnm c h.2⟩
theorem pU{n m:Nat}(hnm:n<=m):∀(l:List PVal),gZ n l->gZ m l
 |[],_=>by simp[gZ]
 |p::l,h=>by simp only[gZ]at h ⊢;exact⟨Tj hnm p h.1,pU hnm l h.2⟩
theorem NG{n m:Nat}(hnm:n<=m):∀(l:List (List PVal)),rm n l->rm m l
 |[],_=>by simp[rm]
 |p::l,h=>by simp only[rm]at h ⊢;exact⟨pU hnm p h.1,NG hnm l h.2⟩
end
theorem iQ{n:Nat}{l:List PVal}(h:gZ 0 l):gZ n l:=pU (vaN n) l h
theorem up{n:Nat}{p:PVal}(h:p.cl 0):p.cl n:=Tj (vaN n) p h
theorem ky{i n:Nat}(h:decide (i<n)=true):i<n:=va7 h
theorem qcB{n:Nat}{α:Type}(f:α->PVal)(h:∀x,(f x).cl 0)(l:List (ai×α)):Wb n (.map (df f l)):=by
 intro x hx
 obtain⟨y,_,rfl⟩:=vag.1 hx
 exact⟨vzz,up (h y.2)⟩
def qbw:TypeDesc->Bool
 |.struct _=>true
 |.array _ _=>true
 |_=>false
theorem pp{P:Program}{t:TypeId}{l r:List PVal}(h:(P.underlying t).any qbw=true)(hc:P.cellsOf t=l.length):aY P t (l++r)=some (.agg l):=by
 unfold aY
 split
 ·rw[vah (by rw[hc];simp),hc,vcy]
 ·rw[vah (by rw[hc];simp),hc,vcy]
 ·rename_i d h1 h2 hd
  rw[hd]at h
  cases d<;>simp_all[qbw]
 ·rename_i hd;rw[hd]at h;cases h
theorem CJ{k:Nat}{B:aA}:∀{ps qs:List aA} {i:Nat},qs.length<=i->dg k ps qs->dg k (ps.set i B) qs
 |_,[],_,_,_=>by unfold dg;trivial
 |[],_::_,_,_,h=>by simpa using h
 |p::ps,q::qs,0,hi,_=>by simp at hi
 |p::ps,q::qs,i+1,hi,h=>by
  simp only[List.set_cons_succ]
  exact⟨h.1,CJ (by simpa using hi) h.2⟩
def FU(P:Program)(rs:List ResultVar)(r:PVal)(ro:List (Nat×TypeId))(H':List aA)(st:aB):Prop:=
 ∃(t:Tmp) (ty:TypeId) (i off:Nat) (cs:List PVal) (own:List (Nat×TypeId)) (l:List PVal),rs=[.cell t ty]/\(∃fs,P.underlying ty=some (.struct fs))/\st.tmps.getD t .undef=.bptr i off/\st.boxes[i]? =some (.cells cs own)/\
  r=.agg l/\aY P ty (cs.drop off)=some (.agg l)/\r.cl H'.length/\H'.length<=i/\dg H'.length st.boxes H'/\(∀x∈ro,(off+x.1,x.2)∈own/\x.1<l.length)/\(ro.map (·.1)).Nodup
def T3(P:Program)(rs:List ResultVar)(r:PVal)(ro:List (Nat×TypeId))(H':List aA)(e:Exit)(st:aB):Prop:=
 qcp P rs r ro H' e st\/((e=.normal\/e=.ret)/\FU P rs r ro H' st)
section
variable{P:Program}{E:lh}{Γ:aP}{bs:be}{ow:Nat->Option iL}{w:World}{a:Array Value}{st:aB}
theorem SR.finishCellG(h:SR P E Γ bs ow w a st){fn:Func}{r:PVal}{ro:List (Nat×TypeId)}{H':List aA}(hr:FU P fn.results.toList r ro H' st):∃v ow',(results fn a).run P w=.ok v w/\SR P E Γ (bs.take H'.length) ow' w #[v] ⟨[r],H',ro.map λx=>((0,x.1),x.2)⟩:=by
 obtain⟨t,ty,i,off,cs,own,l,hrs,⟨fs,hfs⟩,ht,hB,rfl,hp,hcl,hi,hbl,hro,hnd⟩:=hr
 have hrv:yo P st fn.results.toList=some (.agg l):=by
  rw[hrs]
  show jx P ty (st.tmps.getD t .undef) st.boxes=_
  rw[ht]
  simp only[jx,hB,hp]
 obtain⟨v,e1,e2,_⟩:=nW h hrv
 have hvt:=h.getD t
 rw[ht]at hvt
 generalize hva:a.getD t undef=vt at hvt
 cases hvt with
 |bptr _ _ b hb=>
 obtain⟨v2,q1,q2,q3⟩:=DQ h hb hB hp
 have hvv:v2=v:=by
  have hres:fn.results=#[.cell t ty]:=by
   have:fn.results=fn.results.toList.toArray:=by simp
   rw[this,hrs]
  have hrun:(results fn a).run P w=.ok v2 w:=by
   simp[results,hres,asAddr]
   have hva':a[t]?.getD undef=.pointer (some ⟨b,off,none⟩):=by rw[<-vaF];exact hva
   rw[hva']
   simp[q1]
  rw[e1]at hrun
  cases hrun
  rfl
 subst hvv
 have g1:=h.pushed e2
 obtain⟨ow',g2⟩:=SR.takeOwns (off:=off) (d:=a.size) (u:=v2) hb (by simp) ro g1 hB (λx hx=>(hro x hx).1) hnd λx hx=>by
  have:=q3 ⟨_,hfs,vzz⟩ x.1 (hro x hx).2
  obtain⟨v',z1,_⟩:=h.ob i (off+x.1) x.2 cs own b hB (hro x hx).1 hb
  exact⟨v',this.trans z1,z1⟩
 refine⟨v2,wy (λk=>(a.size,k)) ro ow',e1,?_⟩
 exact g2.finish (H':=H') (src:=λk=>(a.size,k)) (ro:=ro) e2 hcl (CJ hi hbl) (λx hx=>⟨va9 _ (vbD.2 (vag.2 ⟨x,hx,rfl⟩)),λu v' hu hv'=>by simp at hu;subst hu;exact hv'⟩) (λx _ y _ e=>by simpa using e)
end
theorem C.ofSatG{P:Program}{GE:List (Nat×List PVal)}{m:Nat}{f:FuncId}{fn:Func}{c:Code}{args:List PVal}{oa:List ((Nat×Nat)×TypeId)}{H:List aA}{r:PVal}{ro:List (Nat×TypeId)}{H':List aA}(hm:m % 1000=H.length)(hm0:m≠0)
  (hcall:∀vs w,(callFunc f vs).run P w=.ok (.enter f vs) w) (hfn:P.funcs[f]? =some fn) (hb:fn.body=some c) (hH:H'.length=H.length)
  (hp:d8 P GE m c (T3 P fn.results.toList r ro H') ⟨args++List.replicate (fn.ntmps - args.length) .undef,H,oa⟩):C P GE f args oa H r ro H':=by
 refine⟨hcall,λΓ bs ow w vs h=>calls_of_wp hfn hb ?_⟩
 have hbl:bs.length=H.length:=h.bl
 have h0:SR P ⟨GE,Γ,w,aN bs ow⟩ Γ bs ow w (vs++Array.replicate (fn.ntmps - vs.size) undef) ⟨args++List.replicate (fn.ntmps - args.length) .undef,H,oa⟩:=by
  have hsz:vs.size=args.length:=h.sz
  exact{h with
   sz:=by simp[hsz]
   tm:=λt p v hp hv=>by
    simp only at hp
    by_cases ht:t<args.length
    ·rw[vac ht]at hp
     rw[vaX (by omega)]at hv
     exact h.tm t p v hp hv
    ·rw[vaf (by omega),vaW]at hp
     split at hp<;>cases hp
     exact .undef v
   ot:=λt k e he=>by
    obtain⟨u,v,h1,h2⟩:=h.ot t k e he
    exact⟨u,v,by rw[vaX (vaj.1 h1).1];exact h1,h2⟩}
 have hE:nj GE m ⟨GE,Γ,w,aN bs ow⟩:={
  ge:=rfl
  low:=λb n hb=>h.lt_of_ghost hb
  nt:=λh0=>absurd h0 hm0
  gl:=λg cs hg=>(h.gl g cs hg).restrict (n:=0) (by simp only[PVal.cl];exact h.gc g cs hg) (λi b hi _=>absurd hi (vaS _))}
 have hwp:=hp none ⟨GE,Γ,w,aN bs ow⟩ bs ⟨vs++Array.replicate (fn.ntmps - vs.size) undef,[]⟩ w hE (by rw[hbl,hm]) ⟨Γ,bs,ow,h0,λi _=>rfl⟩
 refine wp_mono hwp λe a w' hq=>?_
 obtain⟨hd,st,⟨Γ1,bs1,ow1,hS,hk⟩,hQ⟩:=hq
 have htake:H'.length<=bs1.length->bs1.take H'.length=bs:=by
  intro hl1
  refine vbf λi=>?_
  by_cases hi:i<H'.length
  ·rw[vap hi];exact hk i (by omega)
  ·rw[vcr (by omega),vaK (by omega)]
 have hlen:∀{B:List aA},dg H'.length B H'->B.length=bs1.length->H'.length<=bs1.length:=λhB he=>by
  obtain⟨hl,_⟩:=mc hB;omega
 have key:(yo P st fn.results.toList=some r/\r.cl H'.length/\dg H'.length st.boxes H'/\(∀x∈ro,(dj fn.results.toList x.1,x.2)∈st.own/\nV st fn.results.toList x.1)/\
   (∀x∈ro,∀y∈ro,dj fn.results.toList x.1=dj fn.results.toList y.1->x.1=y.1))->
   a.defers=[]/\∃v,(results fn a.tmps).run P w'=.ok v w'/\∃v' Γ' ow',Ending.returned v=.returned v'/\SR P ⟨GE,Γ,w,aN bs ow⟩ Γ' bs ow' w' #[v'] ⟨[r],H',ro.map λx=>((0,x.1),x.2)⟩:=by
  rintro⟨k1,k2,k3,k4,k5⟩
  obtain⟨v,e1,e2,e3⟩:=nW hS k1
  refine⟨hd,v,e1,v,Γ1,wy (dj fn.results.toList) ro ow1,rfl,?_⟩
  have hf:=hS.finish (H':=H') (src:=dj fn.results.toList) (ro:=ro) e2 k2 k3 (λx hx=>⟨(k4 x hx).1,λu v'=>e3 x.1 u v' (k4 x hx).2⟩) k5
  rw[htake (hlen k3 hS.bl.symm)]at hf
  exact hf
 have key2:FU P fn.results.toList r ro H' st->
   a.defers=[]/\∃v,(results fn a.tmps).run P w'=.ok v w'/\∃v' Γ' ow',Ending.returned v=.returned v'/\SR P ⟨GE,Γ,w,aN bs ow⟩ Γ' bs ow' w' #[v'] ⟨[r],H',ro.map λx=>((0,x.1),x.2)⟩:=by
  intro hc
  obtain⟨v,ow',e1,e2⟩:=hS.finishCellG hc
  obtain⟨_,_,_,_,_,_,_,_,_,_,_,_,_,_,_,hbl2,_,_⟩:=hc
  rw[htake (hlen hbl2 hS.bl.symm)]at e2
  exact⟨hd,v,e1,v,Γ1,ow',rfl,e2⟩
 rcases hQ with hQ|⟨he,hQ⟩
 ·cases e with
  |normal=>exact key hQ
  |ret=>exact key hQ
  |exit id=>exact hQ.elim
  |goto l=>exact hQ.elim
  |panic c=>exact hQ.elim
  |outgrown=>exact hQ.elim
 ·rcases he with rfl|rfl
  ·exact key2 hQ
  ·exact key2 hQ
def Rq(P:Program)(rs:List ResultVar)(ro:List (Nat×TypeId))(n:Nat)(st:aB):Bool:=match rs with
 | [.cell t ty] => match P.underlying ty with
  | some (.struct _) => match st.tmps.getD t .undef with
   |.bptr i off=>decide (n<=i)&&match st.boxes[i]? with
    |some (.cells _ own)=>ro.all (λx=>decide ((off+x.1,x.2)∈own)&&decide (x.1<P.cellsOf ty))&&nO (ro.map (·.1))
    |_=>false
   |_=>false
  |_=>false
 |_=>false
def Vx(P:Program)(rs:List ResultVar)(r:PVal)(ro:List (Nat×TypeId))(H':List aA)(st:aB):Prop:=match BX rs ro st with
 |true=>match yo P st rs with
  |some p=>p=r/\r.cl H'.length/\Qc (st.boxes.take H'.length) H'=H'/\E6 H'.length H'
  |none=>False
 | false => match Rq P rs ro H'.length st with
  |true=>match yo P st rs with
   |some p=>p=r/\r.cl H'.length/\Qc (st.boxes.take H'.length) H'=H'/\E6 H'.length H'/\r.isAgg=true
   |none=>False
  |false=>False
def qaR(P:Program)(rs:List ResultVar)(r:PVal)(ro:List (Nat×TypeId))(H':List aA):Exit->List It->aB->Prop:=λe _ st=>match e with
 |.normal=>Vx P rs r ro H' st
 |.ret=>Vx P rs r ro H' st
 |_=>False
theorem P1{rs:List ResultVar}{ro:List (Nat×TypeId)}{st:aB}(hc:BX rs ro st=true):(∀x∈ro,(dj rs x.1,x.2)∈st.own/\nV st rs x.1)/\(∀x∈ro,∀y∈ro,dj rs x.1=dj rs y.1->x.1=y.1):=by
 have:=L8 (r:=.undef) (P:=default) (rs:=rs) (ro:=ro) (st:=⟨st.tmps,st.boxes,st.own⟩) hc
 by_cases hr:yo default st rs=some .undef
 ·exact(this hr vzz).2.2.2
 ·clear this
  unfold BX at hc
  rw[vad]at hc
  obtain⟨c1,c2⟩:=hc
  refine⟨λx hx=>?_,λx hx y hy hxy=>?_⟩
  ·have:=vas.1 c1 x hx
   rw[vad]at this
   refine⟨by simpa using this.1,?_⟩
   have h2:=this.2
   clear this c1 c2 hr
   rcases rs with _|⟨y,_|⟨z,rs⟩⟩
   ·simp at h2
   ·cases y with
    |tmp t=>trivial
    |cell t ty=>cases h2
   ·have key:∀o:Option ResultVar,(match o with
     |some (.tmp t)=>(st.tmps.getD t .undef).isSlice
     |_=>false)=true->(match o with
     |some (.tmp t)=>(st.tmps.getD t .undef).isSlice=true
     |_=>False):=by
     intro o
     cases o with
     |none=>intro h;cases h
     |some q=>cases q<;>intro h<;>first|exact h|cases h
    cases y with
    |tmp t=>exact key _ h2
    |cell t ty=>exact key _ h2
  ·have:=vas.1 (vas.1 c2 x hx) y hy
   simpa[hxy]using this
theorem Vx.to{P:Program}{rs:List ResultVar}{r:PVal}{ro:List (Nat×TypeId)}{H':List aA}{st:aB}{e:Exit}(he:e=.normal\/e=.ret)(h:Vx P rs r ro H' st):T3 P rs r ro H' e st:=by
 unfold Vx at h
 split at h
 ·rename_i hc
  split at h
  ·rename_i p hp
   obtain⟨rfl,hcl,hfg,hcb⟩:=h
   obtain⟨s1,s2⟩:=P1 hc
   have:yo P st rs=some p/\p.cl H'.length/\dg H'.length st.boxes H'/\_/\_:=⟨hp,hcl,Fe hfg hcb,s1,s2⟩
   rcases he with rfl|rfl<;>exact .inl this
  ·exact h.elim
 ·split at h
  ·rename_i hc
   split at h
   ·rename_i p hp
    obtain⟨rfl,hcl,hfg,hcb,hagg⟩:=h
    refine .inr ⟨he,?_⟩
    unfold Rq at hc
    split at hc
    ·rename_i t ty _
     split at hc
     ·rename_i fs hfs
      split at hc
      ·rename_i i off ht
       rw[vad,vao]at hc
       obtain⟨hi,hc⟩:=hc
       split at hc
       ·rename_i cs own hB
        rw[vad]at hc
        obtain⟨c1,c2⟩:=hc
        have hpl:aY P ty (cs.drop off)=some p:=by
         have hp':jx P ty (st.tmps.getD t .undef) st.boxes=some p:=hp
         rw[ht]at hp'
         simpa only[jx,hB]using hp'
        cases p<;>simp only[PVal.isAgg]at hagg<;>first|(cases hagg;done)|skip
        rename_i l
        have hlen:l.length=P.cellsOf ty:=by
         have hq:=hpl
         unfold aY at hq
         rw[hfs]at hq
         simp only at hq
         split at hq
         ·rename_i hh;cases hq;rw[vaQ];omega
         ·cases hq
        refine⟨t,ty,i,off,cs,own,l,rfl,⟨fs,hfs⟩,ht,hB,rfl,hpl,hcl,hi,Fe hfg hcb,λx hx=>?_,kj c2⟩
        have:=vas.1 c1 x hx
        simp only[vad,vao]at this
        exact⟨this.1,by rw[hlen];exact this.2⟩
       ·cases hc
      ·cases hc
     ·cases hc
    ·cases hc
   ·exact h.elim
  ·exact h.elim
theorem qaR.to{P:Program}{rs:List ResultVar}{r:PVal}{ro:List (Nat×TypeId)}{H':List aA}{e:Exit}{sc:List It}{st:aB}(h:qaR P rs r ro H' e sc st):T3 P rs r ro H' e st:=by
 unfold qaR at h
 split at h
 ·exact h.to (.inl rfl)
 ·exact h.to (.inr rfl)
 ·exact h.elim
section
variable{X Y:Type}
def qaY(F:(X->Option Y)->X->Option Y):Nat->X->Option Y
 |0,_=>none
 |n+1,x=>F (qaY F n) x
end
theorem rW(l:List (Nat×TypeId)):l=l:=rfl
theorem rM(l:List (PVal×PVal)):l=l:=rfl
theorem xR(ρ:List Nat)(p:PVal)(h:p.cl 0):tQ ρ p p:=.refl p h
theorem xB(ρ:List Nat)(i j off:Nat)(h:ρ[i]? =some j):tQ ρ (.bptr j off) (.bptr i off):=.bptr i j off h
theorem xM(ρ:List Nat)(i j:Nat)(h:ρ[i]? =some j):tQ ρ (.mapr j) (.mapr i):=.mapr i j h
theorem xF(ρ:List Nat)(fn:Fn)(f c f' c':List PVal)(h:B8 ρ f f')(h':B8 ρ c c'):tQ ρ (.func fn f c) (.func fn f' c'):=.func fn f c f' c' h.len h'.len h.get h'.get
theorem xA(ρ:List Nat)(f f':List PVal)(h:B8 ρ f f'):tQ ρ (.agg f) (.agg f'):=.agg f f' h.len h.get
theorem jw{a a':PVal}{l l':List PVal}(h:a=a')(h':l=l'):a::l=a'::l':=by rw[h,h']
open Go Go.Shelf Go.RowKit Go.Lib
variable{P:Program}{ρ:Ren}
theorem O3{w:World}(base:Nat)(t ty e:TypeId)(i:TypeInfo)(z:Value)(ht:P.underlying t=some (.slice e))(hi:P.info? e=some i)(hz:i.zero=some z)
  (v:Value) (n:Nat) (xs:List Value) (hown:w.ownsRow base e i.size v n xs)
  (a:Addr) (m c:Nat) (news:List Value) (hl:news.length=m * i.size) (hnews:∀j u,news[j]? =some u->w.cell? (a.add j)=some u) (h1:∀u∈news,u.oneCell'=true)
  (h63:n+m<=maxLen) (hbytes:(n+m) * i.bytes<=140737488355328) {v':Value} {w':World} (hr:(Builtin.append_ #[t,t] ty #[v,.slice (some a) m c]).run P w=.ok v' w'):w.drawn<=w'.drawn:=by
 have hsmall:n+m<=9223372036854775807:=by simp only[maxLen]at h63;omega
 rcases hown.2 with⟨rfl,rfl⟩|⟨g,cap,cur,rfl,hbg,hg,hnc,hcm,hcs,htake⟩
 ·by_cases hm:m=0
  ·subst hm
   have hn:news=[]:=vat (by simpa using hl)
   subst hn
   have:(Builtin.append_ #[t,t] ty #[.slice none 0 0,.slice (some a) 0 c]).run P w=.ok (.slice none 0 0) w:=by
    simp[Builtin.append_,run_underlying ht,Go.sizeOf,typeInfo,hi,Builtin.lenOf,Builtin.firstCells,loadCells,loadCellsFrom]
   rw[this]at hr;cases hr;exact var _
  ·rw[run_append_nil (P:=P) w t ty e i z ht hi hz a m c news hl hnews (by omega) (by omega) (by have hb:=hbytes;simp only[vaI]at hb;omega)]at hr
   cases hr;exact vca _
 ·by_cases hroom:n+m<=cap
  ·have hfit:n * i.size+news.length<=cur.size:=by rw[hl,hcs,<-vbo];exact vaY _ hroom
   rw[run_append_room (P:=P) w t ty e i ht hi g n cap cur hg a m c news hl hnews h1 hroom hfit]at hr
   cases hr;exact var _
  ·have holds:∀j u,xs[j]? =some u->w.cell? ((⟨g,0,none⟩:Addr).add j)=some u:=hown.cells (g:=g) rfl
   rw[run_append_grow (P:=P) w t ty e i z ht hi hz ⟨g,0,none⟩ n cap xs hown.1 holds a m c news hl hnews (by omega) (by omega) (growslice_fits (by omega) hbytes)]at hr
   cases hr;exact vca _
theorem Mq(w:World){o:Oper}{a:Act}{K:Act->World->Prop}{Q:Exit->Act->World->Prop}(s x:Operand)(t:TypeId)
  (ho:o.op=.call {callee:=.builtin .append,args:=#[s,x],argTypes:=#[t,t]})
  (base:Nat) (e:TypeId) (i:TypeInfo) (z:Value) (size bytes:Nat) (ht:P.underlying t=some (.slice e)) (hi:P.info? e=some i) (hz:i.zero=some z)
  (hsize:i.size=size) (hby:i.bytes=bytes) (hzs:z.cells.size=size) (hsz:0<size)
  (v:Value) (n:Nat) (xs:List Value) (hs:a.eval s=v) (hown:w.ownsRow base e size v n xs)
  (ad:Addr) (m c:Nat) (news:List Value) (hx:a.eval x=.slice (some ad) m c) (hl:news.length=m * size) (hnews:∀j u,news[j]? =some u->w.cell? (ad.add j)=some u) (h1:∀u∈news,u.oneCell'=true)
  (h63:n+m<=maxLen) (hbytes:(n+m) * bytes<=140737488355328) (hbase:base<=w.heap.size)
  (h:∀v' w',w'.ownsRow base e size v' (n+m) (xs++news)->w.grownBy w' v.ownBlock->w.drawn<=w'.drawn->K (a.put o.dst v') w'):o.wp P a w K Q:=by
 obtain⟨v',w',hr,h2,h3,_⟩:=run_append_own (P:=P) w base t o.type e i z size bytes ht hi hz hsize hby hzs hsz v n xs hown ad m c news hl hnews h1 h63 hbytes hbase
 subst hsize
 subst hby
 have hd:=O3 (P:=P) base t o.type e i z ht hi hz v n xs hown ad m c news hl hnews h1 h63 hbytes hr
 unfold Oper.wp execOp
 simp only[ho,resolve,invoke,builtin,Sem.run_bind,Sem.run_pure,Result.andThen_ok,List.map_toArray,vaz,vbr,hs,hx,hr]
 exact h v' w' h2 h3 hd
theorem tO(w:World){ops:Array Oper}{rest:List Oper}{o:Oper}{a:Act}{Q:Exit->Act->World->Prop}(hgd:o.guard=none)(s x:Operand)(t:TypeId)
  (ho:o.op=.call {callee:=.builtin .append,args:=#[s,x],argTypes:=#[t,t]})
  (base:Nat) (e:TypeId) (i:TypeInfo) (z:Value) (size bytes:Nat) (ht:P.underlying t=some (.slice e)) (hi:P.info? e=some i) (hz:i.zero=some z)
  (hsize:i.size=size) (hby:i.bytes=bytes) (hzs:z.cells.size=size) (hsz:0<size)
  (v:Value) (n:Nat) (xs:List Value) (hs:a.eval s=v) (hown:w.ownsRow base e size v n xs)
  (ad:Addr) (m c:Nat) (news:List Value) (hx:a.eval x=.slice (some ad) m c) (hl:news.length=m * size) (hnews:∀j u,news[j]? =some u->w.cell? (ad.add j)=some u) (h1:∀u∈news,u.oneCell'=true)
  (h63:n+m<=maxLen) (hbytes:(n+m) * bytes<=140737488355328) (hbase:base<=w.heap.size)
  (h:∀v' w',w'.ownsRow base e size v' (n+m) (xs++news)->w.grownBy w' v.ownBlock->w.drawn<=w'.drawn->wpList P ops Q rest (a.put o.dst v') w'):wpList P ops Q (o::rest) a w:=
 wpList_plain hgd λ_ hK=>Mq w s x t ho base e i z size bytes ht hi hz hsize hby hzs hsz v n xs hs hown ad m c news hx hl hnews h1 h63 hbytes hbase λv' w' h2 h3 h4=>hK _ _ (h v' w' h2 h3 h4)
set_option maxHeartbeats 2000000 in
set_option maxRecDepth 100000 in
theorem Sk(L:SlLaysE0.n41 P ρ)(i0:TypeInfo)(z:Value)(size bytes:Nat)(hi:P.info? (ρ.t 23)=some i0)(hz0:i0.zero=some z)(hz1:i0.size=size)(hz2:i0.bytes=bytes)(hzs:z.cells.size=size)(hsz:0<size)
  (z23:∀w,(Go.sizeOf (ρ.t 23)).run P w=.ok size w) (b off n c:Nat) (news:List Value) (w:World) (hl:news.length=n * size) (hn:n<=maxLen) (hbig:n * bytes<=140737488355328)
  (hc:∀j u,news[j]? =some u->w.cell? ⟨b,off+j,none⟩=some u) (h1:∀u∈news,u.oneCell'=true):
  Calls P (ρ.f 41) #[.slice (some ⟨b,off,none⟩) n c] w λe w'=>∃v',e=.returned v'/\w'.ownsRow w.heap.size (ρ.t 23) size v' n news/\(Below w.heap.size w w'/\w.drawn<=w'.drawn):=by
 have mixed:=L.mixed;have t4:=L.t4;have a4:=L.a4;have z4:=L.z4;have v4:=L.v4;have t22:=L.t22;have a22:=L.a22;have z22:=L.z22;have v22:=L.v22
 have q22:∀(w:World) (a:Option Addr) (n c n' c':Nat),(binOp .eql (ρ.t 22) (.slice a n c) (.slice none n' c')).run P w=.ok (.bool a.isNone) w:=λw a n c n' c'=>Lib.run_eql_slice_nil w _ _ a n c n' c' L.t22
 have u22:∀w,Sem.run P (underlying (ρ.t 22)) w=.ok (TypeDesc.slice (ρ.t 23)) w:=run_underlying t22
 have A:Aside (∀j u,news[j]? =some u->w.cell? ⟨b,off+j,none⟩=some u):=hc
 clear hc
 obtain⟨_,_,FG⟩:=L.f41
 go_enter FG,SlBodyN.n41_ntmps ρ
 go_wp2_with (at_builtin;refine tO _ rfl _ _ (ρ.t 22) rfl w.heap.size (ρ.t 23) i0 z size bytes t22 hi hz0 hz1 hz2 hzs hsz _ _ _ rfl (World.ownsRow_made w #[] 0 (var _) (vaN _) (by simp)) ⟨b,off,none⟩ n c news rfl ?qc1 ?qc2 ?qc3 ?qc4 ?qc5 ?qc6 ?_)
 case qc1=>exact hl
 case qc2=>
  intro j u hj
  rw[Addr.add_lit]
  exact Lib.cell?_alloc_some _ (A.out j u hj)
 case qc3=>exact h1
 case qc4=>rw[vaI];exact hn
 case qc5=>rw[vaI];exact hbig
 case qc6=>simp
 intro v' w1 hown hgrow hdr
 go_wp2
 go_ret
 refine⟨v',rfl,by simpa using hown,?_,hdr⟩
 exact((Below.refl _ w).alloc (var _) _).grown hgrow (by simp) (by intro k hk;simp[Value.ownBlock]at hk;omega)
set_option maxHeartbeats 2000000 in
set_option maxRecDepth 100000 in
theorem QC(L:SlLaysE0.n41 P ρ)(i0:TypeInfo)(z:Value)(hi:P.info? (ρ.t 23)=some i0)(hz0:i0.zero=some z)(hzs:z.cells.size=i0.size)(hsz:0<i0.size)
  (z23:∀w,(Go.sizeOf (ρ.t 23)).run P w=.ok i0.size w) (ad:Addr) (c:Nat) (w:World):
  Calls P (ρ.f 41) #[.slice (some ad) 0 c] w λr w'=>∃v',r=.returned v'/\w'.ownsRow w.heap.size (ρ.t 23) i0.size v' 0 []/\(Below w.heap.size w w'/\w.drawn<=w'.drawn):=by
 have mixed:=L.mixed;have t4:=L.t4;have a4:=L.a4;have z4:=L.z4;have v4:=L.v4;have t22:=L.t22;have a22:=L.a22;have z22:=L.z22;have v22:=L.v22
 have q22:∀(w:World) (a:Option Addr) (n c n' c':Nat),(binOp .eql (ρ.t 22) (.slice a n c) (.slice none n' c')).run P w=.ok (.bool a.isNone) w:=λw a n c n' c'=>Lib.run_eql_slice_nil w _ _ a n c n' c' L.t22
 have u22:∀w,Sem.run P (underlying (ρ.t 22)) w=.ok (TypeDesc.slice (ρ.t 23)) w:=run_underlying t22
 obtain⟨_,_,FG⟩:=L.f41
 go_enter FG,SlBodyN.n41_ntmps ρ
 go_wp2_with (at_builtin;refine tO _ rfl _ _ (ρ.t 22) rfl w.heap.size (ρ.t 23) i0 z i0.size i0.bytes t22 hi hz0 rfl rfl hzs hsz _ _ _ rfl (World.ownsRow_made w #[] 0 (var _) (vaN _) (by simp)) ad 0 c [] rfl (by simp) (by simp) (by simp) (by simp) (by simp) (by simp) ?_)
 intro v' w1 hown hgrow hdr
 go_wp2
 go_ret
 exact⟨v',rfl,by simpa using hown,((Below.refl _ w).alloc (var _) _).grown hgrow (by simp) (by intro k hk;simp[Value.ownBlock]at hk;omega),hdr⟩
theorem Uk(L:SlLaysE0.n41 P ρ)(i0:TypeInfo)(z:Value)(hi:P.info? (ρ.t 23)=some i0)(hz0:i0.zero=some z)(hzs:z.cells.size=i0.size)(hsz:0<i0.size)(hby:i0.bytes<=65536)
  (hcall:∀vs w,(callFunc (ρ.f 41) vs).run P w=.ok (.enter (ρ.f 41) vs) w):qd P (ρ.f 41) (ρ.t 23):=by
 have hc:P.cellsOf (ρ.t 23)=i0.size:=by simp[Program.cellsOf,hi]
 have z23:∀w,(Go.sizeOf (ρ.t 23)).run P w=.ok i0.size w:=λw=>by rw[<-hc];exact run_sizeOf w hi
 refine⟨hcall,λw x n news hx hl h1 hn=>?_⟩
 rw[hc]at hl ⊢
 rcases hx with⟨rfl,rfl⟩|⟨a,c,rfl,hcell⟩
 ·have hnews:news=[]:=vat (by simpa using hl)
  subst hnews
  refine(AnyE.slices_Clone_nil L 0 0 w).mono λr w' hr=>?_
  obtain⟨rfl,rfl⟩:=hr
  exact⟨_,rfl,World.ownsRow_nil _ _ _ _,Below.refl _ _,var _⟩
 ·by_cases h0:n=0
  ·subst h0
   have hnews:news=[]:=vat (by simpa using hl)
   subst hnews
   exact QC L i0 z hi hz0 hzs hsz z23 a c w
  ·have hpos:0<news.length:=by rw[hl];exact vdd (Nat.pos_of_ne_zero h0) hsz
   have hsp:a.spot=none:=by
    have hk:=hcell 0 _ (vab hpos)
    unfold Addr.add at hk
    simp only[if_true]at hk
    unfold World.cell? at hk
    split at hk
    ·split at hk
     ·cases hk
     ·rename_i hs;simpa using hs
    ·cases hk
   obtain⟨b,off,sp⟩:=a
   simp only at hsp
   subst hsp
   refine Sk L i0 z i0.size i0.bytes hi hz0 rfl rfl hzs hsz z23 b off n c news w hl (by unfold maxLen;unfold bo at hn;omega) ?_ (λj u hj=>by rw[<-Addr.add_lit];exact hcell j u hj) h1
   have:n * i0.bytes<=1073741824 * 65536:=vcz (by unfold bo at hn;omega) hby
   omega
theorem NK(L:SlLaysE0.n41 P ρ){f:FuncId}{e:TypeId}(hf:ρ.f 41=f)(he:ρ.t 23=e)(hq:(P.info? e).any (λi=>(i.zero.any λz=>z.cells.size==i.size)&&decide (0<i.size)&&decide (i.bytes<=65536))=true)
  (hcall:∀vs w,(callFunc f vs).run P w=.ok (.enter f vs) w):qd P f e:=by
 subst hf;subst he
 cases hi:P.info? (ρ.t 23)with
 |none=>rw[hi]at hq;cases hq
 | some i0 =>
  rw[hi]at hq
  simp only[Option.any_some,vad,vao]at hq
  obtain⟨⟨h1,h2⟩,h3⟩:=hq
  cases hz:i0.zero with
  |none=>rw[hz]at h1;cases h1
  |some z=>
   rw[hz]at h1
   simp only[Option.any_some,vaP]at h1
   exact Uk L i0 z hi hz h1 h2 h3 hcall
end Go.Proofs.YtkdahfeiedaahaaGreatDoor
namespace Go.Proofs.YtkdahfeiedaahaaGreatDoor
open Go
def aV{α:Type}(c:α->List PVal)(l:List α):List PVal:=(l.map c).flatten
def pj{α:Type}(l:List α):Option (List α):=if l.length<=bo then some l else none
def IJ{α:Type}(l:List α)(i:Int)(x:α):Option (List α):=if 0<=i/\i.toNat<l.length then some (l.set i.toNat x)else none
abbrev kV(P:Program)(e:TypeId)(i:Int):Nat:=0+i.toNat * P.cellsOf e
section
variable{P:Program}{GE:List (Nat×List PVal)}{T e:TypeId}{α:Type}{c:α->List PVal}
theorem QB{l r:List α}(h:pj l=some r):l.length<=bo/\r=l:=by
 unfold pj at h
 split at h
 ·rename_i hl;cases h;exact⟨hl,rfl⟩
 ·cases h
theorem tP.mapOk(s:tP P T e c)(l:List α):∀x∈l.map c,x.length=P.cellsOf e/\∀q∈x,q.one=true:=λx hx=>by
 obtain⟨y,_,rfl⟩:=vag.1 hx
 exact⟨s.hc y,s.ho y⟩
theorem tP.cloneCC(s:tP P T e c){f:FuncId}(hC:qd P f e){l r:List α}(h:pj l=some r):CC P GE f [sl c l] (sl c r) [(0,e)]:=by
 obtain⟨hl,rfl⟩:=QB h
 exact CC.clone hC ⟨aH s.cl r,vzz⟩ s.hp (s.mapOk r) (by simpa using hl)
theorem X1{l r:List α}(h:app [] l=some r):r=l:=by
 unfold app at h
 split at h
 ·cases h;rfl
 ·cases h
theorem tP.apR(s:tP P T e c){l r:List α}(h:app [] l=some r):P.underlying T=some (.slice e)/\(∃p,hO P T [] (l.map c)=some p)/\(r.length=(l.map c).length/\aV c r=(l.map c).flatten):=by
 have h1:=s.ap h
 have h2:=X1 h
 subst h2
 exact⟨s.hu,⟨_,h1⟩,by simp,rfl⟩
theorem tP.lnR(s:tP P T e c)(b off n:Nat):∀H,AL P T (.bsl b off n) H=some (.int .i64 (n:Int)):=λH=>by
 unfold AL;rw[s.hu]
theorem tP.flat_len(s:tP P T e c)(l:List α):(aV c l).length=l.length * P.cellsOf e:=by
 unfold aV
 rw[Go.Proofs.YtkdahfeiedaahaaGreatDoor.flat_len (sz:=P.cellsOf e) (λx hx=>(s.mapOk l x hx).1)]
 simp
theorem rS(hc:∀x,(c x).length=P.cellsOf e):∀{l:List α} {i:Nat} {x:α},l[i]? =some x->aV c l=(aV c l).take (i * P.cellsOf e)++c x++(aV c l).drop (i * P.cellsOf e+P.cellsOf e)/\∀y,aV c (l.set i y)=(aV c l).take (i * P.cellsOf e)++c y++(aV c l).drop (i * P.cellsOf e+P.cellsOf e)
 |[],i,x,h=>by simp at h
 |z::l,0,x,h=>by
  simp at h;subst h
  have e1:aV c (z::l)=c z++aV c l:=by simp[aV]
  have e2:∀y,aV c ((z::l).set 0 y)=c y++aV c l:=λy=>by simp[aV]
  rw[e1]
  simp only[e2,vcP,vaI,List.take_zero,vaR]
  rw[<-hc z,List.drop_left]
  exact⟨rfl,λ_=>rfl⟩
 | z :: l,i + 1,x,h => by
  obtain⟨h1,h2⟩:=rS hc (l:=l) (i:=i) (x:=x) (by simpa using h)
  have e1:aV c (z::l)=c z++aV c l:=by simp[aV]
  have e2:∀y,aV c ((z::l).set (i+1) y)=c z++aV c (l.set i y):=λy=>by simp[aV]
  have hz:=hc z
  have t1:(c z++aV c l).take ((i+1) * P.cellsOf e)=c z++(aV c l).take (i * P.cellsOf e):=by
   rw[List.take_append,vbo,vbY,hz,List.take_of_length_le (by omega),Nat.add_sub_cancel]
  have t2:(c z++aV c l).drop ((i+1) * P.cellsOf e+P.cellsOf e)=(aV c l).drop (i * P.cellsOf e+P.cellsOf e):=by
   rw[vcL,vbo,vbY,hz,vbJ (by omega),vaR]
   congr 1;omega
  rw[e1,t1,t2]
  refine⟨?_,λy=>?_⟩
  ·conv=>lhs;rw[h1]
   simp only[vaL]
  ·rw[e2,h2];simp only[vaL]
theorem tP.ldR(s:tP P T e c){l:List α}{i:Int}{x:α}{p:PVal}(hl:∀r,aY P e (c x++r)=some p)(h:ey l i=some x):aY P e ((aV c l).drop (kV P e i))=some p:=by
 obtain⟨h0,h1⟩:=wB h
 obtain⟨h2,_⟩:=rS (P:=P) (e:=e) s.hc h1
 have hlen:=s.flat_len l
 have hlt:=aq h1
 have hle:i.toNat * P.cellsOf e<=l.length * P.cellsOf e:=vaY _ (vbL hlt)
 rw[kV,vaI]
 have:(aV c l).drop (i.toNat * P.cellsOf e)=c x++(aV c l).drop (i.toNat * P.cellsOf e+P.cellsOf e):=by
  conv=>lhs;rw[h2]
  rw[vaL,vcL,vbJ (by simp;omega),vaR]
  have:((aV c l).take (i.toNat * P.cellsOf e)).length=i.toNat * P.cellsOf e:=by simp;omega
  rw[this,vbp,vbF]
 rw[this];exact hl _
theorem Mp{l r:List α}{i:Int}{x:α}(h:IJ l i x=some r):0<=i/\i.toNat<l.length/\r=l.set i.toNat x:=by
 unfold IJ at h
 split at h
 ·rename_i hh;cases h;exact⟨hh.1,hh.2,rfl⟩
 ·cases h
theorem tP.stR(s:tP P T e c){l r:List α}{i:Int}{x:α}{v:PVal}(hv:cj v=some (c x))(h:IJ l i x=some r):di P e (.bptr 0 (kV P e i)) v [.cells (aV c l) []]=some [.cells (aV c r) []]:=by
 obtain⟨h0,h1,rfl⟩:=Mp h
 obtain⟨_,h2⟩:=rS (P:=P) (e:=e) s.hc (vab h1)
 have hlen:=s.flat_len l
 have hle:i.toNat * P.cellsOf e+P.cellsOf e<=l.length * P.cellsOf e:=by
  have:=vaY (P.cellsOf e) h1
  rw[vcT]at this;exact this
 unfold di
 simp only[hv,List.getElem?_cons_zero,kV,vaI]
 rw[vah ⟨s.hc x,s.hi,by rw[s.hc x];omega,vas.2 (s.ho x)⟩,h2,s.hc x]
 simp
end
theorem CN.ofSat{P:Program}{GE:List (Nat×List PVal)}{f:FuncId}{fn:Func}{c:Code}{args:List PVal}{r:PVal}{ro:List (Nat×TypeId)}{H':List aA}
  (hcall:∀vs w,(callFunc f vs).run P w=.ok (.enter f vs) w) (hfn:P.funcs[f]? =some fn) (hb:fn.body=some c)
  (hp:d8 P GE 0 c (T3 P fn.results.toList r ro H') ⟨args++List.replicate (fn.ntmps - args.length) .undef,[],[]⟩):CN P GE f args r ro H':=by
 refine⟨hcall,λΓ w vs h=>calls_of_wp hfn hb ?_⟩
 have hT:∀b,¬aN [] (λ_=>none) b:=λb hb=>by
  rcases hb with⟨i,hi⟩|hb
  ·simp at hi
  ·exact hb rfl
 have h0:SR P ⟨GE,Γ,w,aN [] λ_=>none⟩ Γ [] (λ_=>none) w (vs++Array.replicate (fn.ntmps - vs.size) undef) ⟨args++List.replicate (fn.ntmps - args.length) .undef,[],[]⟩:=by
  have hsz:vs.size=args.length:=h.sz
  exact{h with
   sz:=by simp[hsz]
   tm:=λt p v hp hv=>by
    simp only at hp
    by_cases ht:t<args.length
    ·rw[vac ht]at hp
     rw[vaX (by omega)]at hv
     exact h.tm t p v hp hv
    ·rw[vaf (by omega),vaW]at hp
     split at hp<;>cases hp
     exact .undef v
   ot:=λt k e he=>by simp at he}
 have hE:nj GE 0 ⟨GE,Γ,w,aN [] λ_=>none⟩:={
  ge:=rfl
  low:=λb n hb=>h.lt_of_ghost hb
  nt:=λ_=>hT
  gl:=λg cs hg=>(h.gl g cs hg).restrict (n:=0) (by simp only[PVal.cl];exact h.gc g cs hg) (λi b hi _=>absurd hi (vaS _))}
 have hwp:=hp none ⟨GE,Γ,w,aN [] λ_=>none⟩ [] ⟨vs++Array.replicate (fn.ntmps - vs.size) undef,[]⟩ w hE rfl ⟨Γ,[],λ_=>none,h0,λi _=>rfl⟩
 refine wp_mono hwp λe a w' hq=>?_
 obtain⟨hd,st,⟨Γ1,bs1,ow1,hS,hk⟩,hQ⟩:=hq
 have key:(yo P st fn.results.toList=some r/\r.cl H'.length/\dg H'.length st.boxes H'/\(∀x∈ro,(dj fn.results.toList x.1,x.2)∈st.own/\nV st fn.results.toList x.1)/\
   (∀x∈ro,∀y∈ro,dj fn.results.toList x.1=dj fn.results.toList y.1->x.1=y.1))->
   a.defers=[]/\∃v,(results fn a.tmps).run P w'=.ok v w'/\∃v' Γ' bs' ow',Ending.returned v=.returned v'/\SR P ⟨GE,Γ,w,aN [] λ_=>none⟩ Γ' bs' ow' w' #[v'] ⟨[r],H',ro.map λx=>((0,x.1),x.2)⟩:=by
  rintro⟨k1,k2,k3,k4,k5⟩
  obtain⟨v,e1,e2,e3⟩:=nW hS k1
  refine⟨hd,v,e1,v,Γ1,bs1.take H'.length,wy (dj fn.results.toList) ro ow1,rfl,?_⟩
  exact hS.finish (H':=H') (src:=dj fn.results.toList) (ro:=ro) e2 k2 k3 (λx hx=>⟨(k4 x hx).1,λu v'=>e3 x.1 u v' (k4 x hx).2⟩) k5
 have key2:FU P fn.results.toList r ro H' st->
   a.defers=[]/\∃v,(results fn a.tmps).run P w'=.ok v w'/\∃v' Γ' bs' ow',Ending.returned v=.returned v'/\SR P ⟨GE,Γ,w,aN [] λ_=>none⟩ Γ' bs' ow' w' #[v'] ⟨[r],H',ro.map λx=>((0,x.1),x.2)⟩:=by
  intro hc
  obtain⟨v,ow',e1,e2⟩:=hS.finishCellG hc
  exact⟨hd,v,e1,v,Γ1,bs1.take H'.length,ow',rfl,e2⟩
 rcases hQ with hQ|⟨he,hQ⟩
 ·cases e with
  |normal=>exact key hQ
  |ret=>exact key hQ
  |exit id=>exact hQ.elim
  |goto l=>exact hQ.elim
  |panic c=>exact hQ.elim
  |outgrown=>exact hQ.elim
 ·rcases he with rfl|rfl
  ·exact key2 hQ
  ·exact key2 hQ
def PS(_:List It)(F:Prop):Prop:=F
section
variable{sc:List It}{F X Y:Prop}
theorem en(h:F):PS [] F:=h
theorem sv{o:Option PVal}{p:PVal}(h:o=some p)(r:PS sc F):PS (.v p::sc) (o=some p/\F):=⟨h,r⟩
theorem qfQ{o:List aA->Option PVal}{p:PVal}(h:∀H,o H=some p)(r:PS sc F):PS (.v p::sc) ((∀H,o H=some p)/\F):=⟨h,r⟩
theorem sx{o:Option (List PVal)}{l:List PVal}(h:o=some l)(r:PS sc F):PS (.x l::sc) (o=some l/\F):=⟨h,r⟩
theorem se{o:Option (List PVal)}{l:List PVal}(h:o=some l)(r:PS sc F):PS (.e l::sc) (o=some l/\F):=⟨h,r⟩
theorem sg(n:Nat){x b:Bool}(h:x=b)(r:PS sc F):PS (.g n b::sc) (x=b/\F):=⟨h,r⟩
theorem ss(r:PS sc F):PS (.s::sc) F:=r
theorem qfO{P:Program}{GE:List (Nat×List PVal)}{g:FuncId}{vs:List PVal}{p:PVal}{ro:List (Nat×TypeId)}(h:CC P GE g vs p ro)(r:PS sc F):PS (.c p ro::sc) (CC P GE g vs p ro/\F):=⟨h,r⟩
theorem sz{o:Option PVal}{l:List PVal}(h:o=some (.agg l))(r:PS sc F):PS (.z l::sc) (o=some (.agg l)/\F):=⟨h,r⟩
end
section
variable{P:Program}{GE:List (Nat×List PVal)}{A:List Nat}{m:Nat}
theorem qp(hf:P.follows .mixedOrders=true){c:Code}{e0:Exit}{st0 st:aB}{sc:List It}{F:Prop}(h:PS sc F)(he:F=Ic P GE A m c sc st (FN e0 st0)):d8 P GE m c (EX e0 st0) st:=piece hf sc (Eq.mp he h)
theorem C.evp(hf:P.follows .mixedOrders=true){f:FuncId}{fn:Func}{c:Code}{args:List PVal}{r:PVal}{ro:List (Nat×TypeId)}
  (hcall:∀vs w,(callFunc f vs).run P w=.ok (.enter f vs) w) (hfn:P.funcs[f]? =some fn) (hb:fn.body=some c) (hcl:gZ 0 args) {sc:List It} {F:Prop} (h:PS sc F)
  (he:F=Ic P GE A 0 c sc ⟨args++List.replicate (fn.ntmps - args.length) .undef,[],[]⟩ (FR P fn.results.toList r ro)):CC P GE f args r ro:=C.ev hf hcall hfn hb hcl sc (Eq.mp he h)
end
def tm(n:Nat):Nat->List (Nat×PVal)->List PVal
 |k,[]=>List.replicate (n - k) .undef
 |k,x::l=>List.replicate (x.1 - k) .undef++x.2::tm n (x.1+1) l
abbrev aO(n:Nat)(l:List (Nat×PVal))(H:List aA)(o:List ((Nat×Nat)×TypeId)):aB:=⟨tm n 0 l,H,o⟩
def Yb(n:Nat):List (Nat×PVal)->Prop
 |[]=>True
 |x::l=>x.2.cl n/\Yb n l
theorem Pf{n:Nat}{l:List PVal}(h:gZ n l):∀k,gZ n (List.replicate k .undef++l)
 |0=>h
 |k+1=>by rw[List.replicate_succ,va8];exact⟨vzz,Pf h k⟩
theorem yL{n N:Nat}:∀{l:List (Nat×PVal)} {k:Nat},Yb n l->gZ n (tm N k l)
 |[],k,_=>by unfold tm;have:=Pf (n:=n) (l:=[]) trivial (N - k);rwa[va6]at this
 |x::l,k,h=>by unfold tm;exact Pf (l:=x.2::tm N (x.1+1) l) (by simp only[gZ];exact⟨h.1,yL h.2⟩) _
def bits:Nat->Nat->List Bool->List Bool
 |0,_,l=>l
 |k+1,n,l=>if n<=1 then l else bits k (n / 2) ((n % 2==1)::l)
def cA(c:Code)(n:Nat):Code:=gA c (bits 100 n [])
section
variable{X Y:Type}
def pl(F:(X->Option Y)->X->Option Y)(x:X):Option Y:=qaY F X9 x
theorem qao:18446744073709551616<X9:=by unfold X9;omega
theorem dY{F:(X->Option Y)->X->Option Y}{M:X->Y->Prop}(hF:∀rec:X->Option Y,(∀x r,rec x=some r->M x r)->∀x r,F rec x=some r->M x r){x:X}{r:Y}(h:pl F x=some r):M x r:=by
 have key:∀n x r,qaY F n x=some r->M x r:=by
  intro n
  induction n with
  |zero=>intro x r h;cases h
  |succ n ih=>intro x r h;exact hF _ ih x r h
 exact key _ x r h
theorem nF{F:(X->Option Y)->X->Option Y}(μ:X->Nat)(Q:X->Prop)(s:X->Y)(h:∀(R:X->Option Y) x,Q x->(∀y,μ y<μ x->Q y->R y=some (s y))->F R x=some (s x))(x:X)(hx:Q x)(hm:μ x<X9):pl F x=some (s x):=by
 have key:∀n x,μ x<n->Q x->qaY F n x=some (s x):=by
  intro n
  induction n with
  |zero=>intro x hx;omega
  |succ n ih=>intro x hx hq;exact h _ x hq λy hy hqy=>ih y (by omega) hqy
 exact key _ x hm hx
end
def pn{α:Type}(n:Nat)(l:List α)(i:Int):Option α:=if 0<=i/\i.toNat<n then l[i.toNat]? else none
def RK{α:Type}(n:Nat)(l:List α):Option (List α):=if n=l.length then some l else none
theorem Pz{α:Type}{n:Nat}{l:List α}{i:Int}{x:α}(h:pn n l i=some x):ey l i=some x:=by
 unfold pn at h
 split at h
 ·rename_i hh;unfold ey;rw[vah hh.1];exact h
 ·cases h
theorem Li{α:Type}{n:Nat}{l r:List α}(h:RK n l=some r):n=l.length/\r=l:=by
 unfold RK at h
 split at h
 ·cases h;exact⟨by assumption,rfl⟩
 ·cases h
section
variable{P:Program}{GE:List (Nat×List PVal)}{T e:TypeId}{α:Type}{c:α->List PVal}
theorem tP.iaN(s:tP P T e c)(b:Nat){n:Nat}{l:List α}{i:Int}{k:IntKind}{x:α}(h:pn n l i=some x):iq P T (.bsl b 0 n) (.int k i)=some (.bptr b (kV P e i)):=by
 unfold pn at h
 split at h
 ·rename_i hh
  unfold iq
  rw[s.hu]
  simp only
  rw[vah ⟨hh.1,by omega,s.hi⟩]
 ·cases h
theorem tP.ldN(s:tP P T e c){n:Nat}{l:List α}{i:Int}{x:α}{p:PVal}(hl:∀r,aY P e (c x++r)=some p)(h:pn n l i=some x):aY P e ((aV c l).drop (kV P e i))=some p:=s.ldR hl (Pz h)
theorem tP.fz1(s:tP P T e c){m b:Nat}(hb:decide (m % 1000<=b)=true)(l:List α):(m % 1000<=b)/\∃sz,0<sz/\∀x∈l.map c,x.length=sz:=⟨va7 hb,_,s.hp,λx hx=>(s.mapOk l x hx).1⟩
theorem tP.fz2(s:tP P T e c)(b:Nat)(l:List α):DV b (l.map c):=s9 b _ (JL λp hp=>by obtain⟨x,_,rfl⟩:=vag.1 hp;exact s.cl x)
theorem Yo(c:α->List PVal){n:Nat}{l r:List α}(h:RK n l=some r):aV c l=(r.map c).flatten:=by rw[(Li h).2];rfl
theorem Yp(c:α->List PVal){n:Nat}{l r:List α}(h:RK n l=some r):n=(r.map c).length:=by rw[(Li h).2,vaO];exact(Li h).1
theorem qdS{m b:Nat}(hb:decide (m % 1000<=b)=true)(l:List PVal)(hl:decide (l.length≠0)=true):(m % 1000<=b)/\∃sz,0<sz/\∀x∈[l],x.length=sz:=⟨va7 hb,l.length,by have:=va7 hl;omega,λx hx=>by rw[va4.1 hx]⟩
theorem qdT(b:Nat){l:List PVal}(h:gZ 0 l):DV b [l]:=s9 b _ ⟨h,vzz⟩
theorem qd6(l:List PVal):l=l:=rfl
theorem qdU{l r:List PVal}(h:r=l):l=[r].flatten:=by rw[h];simp
theorem iD(b:Nat){p:PVal}(h:p.cl 0):p.no b:=td b p h
theorem Jq(b:Nat){p:List PVal}(h:gZ 0 p):(PVal.eptr p).no b:=td b _ h
end
theorem Sb{α:Type}{c:α->List PVal}(n:Nat)(h:∀x,gZ 0 (c x)):∀(l:List α),gZ n (aV c l)
 |[]=>trivial
 |x::l=>by
  have e:aV c (x::l)=c x++aV c l:=by simp[aV]
  rw[e]
  exact ya.2 ⟨iQ (h x),Sb n h l⟩
theorem WO{α:Type}{c:α->List PVal}(b:Nat)(h:∀x,gZ 0 (c x))(l:List α):BI b (aV c l):=lq b _ (Sb 0 h l)
theorem xS(ρ:List Nat)(i j off n:Nat)(h:ρ[i]? =some j):tQ ρ (.bsl j off n) (.bsl i off n):=.bsl i j off n h
theorem qcv(ρ:List Nat):∀(l:List PVal),gZ 0 l->B8 ρ l l
 |[],_=>trivial
 |p::l,h=>by simp only[gZ]at h;exact⟨.refl p h.1,qcv ρ l h.2⟩
theorem eF(e:Exit)(s:aB):PS [] (e=e/\s.tmps=s.tmps/\s.boxes=s.boxes/\true=true):=⟨rfl,fr s⟩
inductive Tr(R:Type):Type 1 where
 |lf (r:R)
 |it (i:It) (t:Tr R)
 |bd {α:Type} (o:Option α) (k:α->Tr R)
 |br (b:Bool) (s t:Tr R)
 |bs {α β:Type} (o:Option (α⊕β)) (s:α->Tr R) (t:β->Tr R)
 |b3 {α β γ:Type} (o:Option (α⊕(β⊕γ))) (s:α->Tr R) (t:β->Tr R) (u:γ->Tr R)
section
variable{R:Type}
def Tr.val:Tr R->Option R
 |.lf r=>some r
 |.it _ t=>t.val
 |.bd o k=>o.bind λa=>(k a).val
 |.br b s t=>if b=true then s.val else t.val
 |.bs o s t=>o.bind λx=>match x with
  |.inl a=>(s a).val
  |.inr a=>(t a).val
 |.b3 o s t u=>o.bind λx=>match x with
  |.inl a=>(s a).val
  |.inr (.inl a)=>(t a).val
  |.inr (.inr a)=>(u a).val
def Tr.go:Tr R->(Tr R->Prop)->Prop
 |.lf r,K=>K (.lf r)
 |.it i t,K=>K (.it i t)
 |.bd o k,K=>∀a,o=some a->(k a).go K
 |.br b s t,K=>(b=true->s.go K)/\(b=false->t.go K)
 |.bs o s t,K=>(∀a,o=some (.inl a)->(s a).go K)/\∀a,o=some (.inr a)->(t a).go K
 |.b3 o s t u,K=>(∀a,o=some (.inl a)->(s a).go K)/\(∀a,o=some (.inr (.inl a))->(t a).go K)/\∀a,o=some (.inr (.inr a))->(u a).go K
theorem Tr.go_ok{r:R}:∀{t:Tr R} {K:Tr R->Prop},t.val=some r->t.go K->∃t',t'.val=some r/\K t'
 |.lf _,_,hv,h=>⟨_,hv,h⟩
 |.it _ _,_,hv,h=>⟨_,hv,h⟩
 |.bd o k,K,hv,h=>by
  simp only[Tr.val]at hv
  obtain⟨a,ha,hv⟩:=JK hv
  exact Tr.go_ok hv (h a ha)
 | .br b s t,K,hv,h => by
  simp only[Tr.val]at hv
  rcases qaX hv with⟨hb,hv⟩|⟨hb,hv⟩
  ·exact Tr.go_ok hv (h.1 hb)
  ·exact Tr.go_ok hv (h.2 hb)
 | .bs o s t,K,hv,h => by
  simp only[Tr.val]at hv
  obtain⟨a,ha,hv⟩:=JK hv
  rcases a with a|a
  ·exact Tr.go_ok hv (h.1 a ha)
  ·exact Tr.go_ok hv (h.2 a ha)
 | .b3 o s t u,K,hv,h => by
  simp only[Tr.val]at hv
  obtain⟨a,ha,hv⟩:=JK hv
  rcases a with a|a|a
  ·exact Tr.go_ok hv (h.1 a ha)
  ·exact Tr.go_ok hv (h.2.1 a ha)
  ·exact Tr.go_ok hv (h.2.2 a ha)
def Tr.run:Tr R->(List It->Tr R->Prop)->Prop
 |.it i t,K=>t.run λl t'=>K (i::l) t'
 |t,K=>K [] t
def Tr.its:List It->Tr R->Tr R
 |[],t=>t
 |i::l,t=>.it i (Tr.its l t)
theorem Tr.its_val:∀(l:List It) (t:Tr R),(Tr.its l t).val=t.val
 |[],_=>rfl
 |_::l,t=>Tr.its_val l t
theorem Tr.run_ok:∀{t:Tr R} {K:List It->Tr R->Prop},t.run K->∃l t',t'.val=t.val/\K l t'
 |.it i t,K,h=>by
  obtain⟨l,t',h1,h2⟩:=Tr.run_ok (t:=t) h
  exact⟨i::l,t',h1,h2⟩
 |.lf _,_,h=>⟨[],_,rfl,h⟩
 |.bd _ _,_,h=>⟨[],_,rfl,h⟩
 |.br _ _ _,_,h=>⟨[],_,rfl,h⟩
 |.bs _ _ _,_,h=>⟨[],_,rfl,h⟩
 |.b3 _ _ _ _,_,h=>⟨[],_,rfl,h⟩
def Lk(m:Nat)(t:Tr R)(st:aB)(k:Tr R->aB->Prop):Prop:=match t with
 |.it (.fz i es lv rk) t'=>(Tr.it (.fz i es lv rk) t').run λsc t2=>Vq m sc st λsc st=>k (Tr.its sc t2) st
 |t=>k t st
theorem JS{P:Program}{m:Nat}{t:Tr R}{st:aB}{k:Tr R->aB->Prop}(h:Lk m t st k):∃t' st',t'.val=t.val/\sG P m st st'/\k t' st':=by
 unfold Lk at h
 split at h
 ·obtain⟨l,t2,h1,h2⟩:=Tr.run_ok h
  obtain⟨sc2,st2,hw,h3⟩:=Pu (P:=P) h2
  exact⟨_,st2,(Tr.its_val _ _).trans h1,hw,h3⟩
 ·exact⟨_,_,rfl,.refl _,h⟩
def wx(P:Program)(GE:List (Nat×List PVal))(A:List Nat)(m:Nat):Code->Tr R->aB->(Exit->Tr R->aB->Prop)->Prop
 |.skip,t,st,K=>K .normal t st
 |.label _,t,st,K=>K .normal t st
 |.region id ops draw,t,st,K=>t.go λt=>t.run λsc t'=>Ic P GE A m (.region id ops draw) sc st λe sc st=>K e (Tr.its sc t') st
 | .seq a b,t,st,K => t.go fun t =>
  let after (e:Exit) (t:Tr R) (st:aB):Prop:=match e with
   |.normal=>t.go λt=>Lk m t st λt st=>wx P GE A m b t st K
   |e=>K e t st
  match t with
  |.it (.pa 0) (.it (.pc st0 e st1) t')=>FG st st0/\d8 P GE m a (EX e st1) st0/\after e t' st1
  |.it (.pa (n+1)) t'=>wx P GE A m a (.it (.pa n) t') st after
  |t=>wx P GE A m a t st after
 | .cond c a b,t,st,K => t.go fun t => lT GE st.tmps c fun v => match v with
  | .bool x => match t with
   |.it .k t'=>match x with
    |true=>t'.go λt=>Lk m t st λt st=>wx P GE A m a t st K
    |false=>t'.go λt=>Lk m t st λt st=>wx P GE A m b t st K
   |.it (.g _ y) t'=>x=y/\match y with
    |true=>t'.go λt=>Lk m t st λt st=>wx P GE A m a t st K
    |false=>t'.go λt=>Lk m t st λt st=>wx P GE A m b t st K
   |_=>False
  |_=>False
 |.block id c,t,st,K=>wx P GE A m c t st λe t st=>match e with
  |.exit id'=>if id'=id then K .normal t st else K (.exit id') t st
  |e=>K e t st
 |.exit id,t,st,K=>K (.exit id) t st
 |.ret,t,st,K=>K .ret t st
 |.loop c,t,st,K=>t.go λt=>match t with
  |.it (.pc st0 e st1) t'=>FG st st0/\d8 P GE m (.loop c) (EX e st1) st0/\K e t' st1
  |_=>False
 |_,_,_,_=>False
section
variable{P:Program}{GE:List (Nat×List PVal)}{A:List Nat}{m:Nat}
theorem eo(hf:P.follows .mixedOrders=true){r:R}:∀(c:Code) (t:Tr R) (st:aB) (K:Exit->Tr R->aB->Prop),t.val=some r->wx P GE A m c t st K->d8 P GE m c (λe st'=>∃t',t'.val=some r/\K e t' st') st
 |.skip,t,st,K,hv,h=>d8.skip ⟨t,hv,h⟩
 |.label _,t,st,K,hv,h=>d8.label ⟨t,hv,h⟩
 |.region id ops draw,t,st,K,hv,h=>by
  simp only[wx]at h
  obtain⟨t1,v1,h⟩:=Tr.go_ok hv h
  obtain⟨l,t2,v2,h⟩:=Tr.run_ok h
  refine(iR hf (.region id ops draw) l st _ h).mono λe st' hx=>?_
  obtain⟨sc',hx⟩:=hx
  exact⟨_,.refl _,_,(Tr.its_val _ _).trans (v2.trans v1),hx⟩
 | .seq a b,t,st,K,hv,h => by
  simp only[wx]at h
  obtain⟨t1,v1,h⟩:=Tr.go_ok hv h
  have aft:∀(e:Exit) (t':Tr R) (st':aB),t'.val=some r->(match e with|.normal=>t'.go (λt=>Lk m t st' λt st=>wx P GE A m b t st K)|e=>K e t' st')->(match e with|.normal=>d8 P GE m b (λe st'=>∃t',t'.val=some r/\K e t' st') st'|e=>∃t',t'.val=some r/\K e t' st'):=by
   intro e t' st' hv' hx
   cases e with
   |normal=>
    obtain⟨t2,v2,hx⟩:=Tr.go_ok hv' hx
    obtain⟨t3,st3,v3,hw,hx⟩:=JS (P:=P) hx
    exact d8.weak hw (eo hf b t3 st3 K (v3.trans v2) hx)
   |exit id=>exact⟨_,hv',hx⟩
   |goto l=>exact⟨_,hv',hx⟩
   |ret=>exact⟨_,hv',hx⟩
   |panic c=>exact⟨_,hv',hx⟩
   |outgrown=>exact⟨_,hv',hx⟩
  refine d8.seq ?_
  split at h
  ·rename_i st0 e st1 t'
   obtain⟨h1,h2,h3⟩:=h
   refine d8.weak h1.weak (EX.of h2 ?_)
   have:=aft e t' st1 v1 h3
   cases e<;>exact this
  ·exact(eo hf a _ st _ (by exact v1) h).imp λe st' hx=>by
    obtain⟨t',hv',hx⟩:=hx
    have:=aft e t' st' hv' hx
    cases e<;>exact this
  ·exact(eo hf a _ st _ v1 h).imp λe st' hx=>by
    obtain⟨t',hv',hx⟩:=hx
    have:=aft e t' st' hv' hx
    cases e<;>exact this
 | .cond c a b,t,st,K,hv,h => by
  simp only[wx]at h
  obtain⟨t1,v1,h⟩:=Tr.go_ok hv h
  rw[bP]at h
  have go:∀{x:Code} (hx:∀(t:Tr R) (st:aB),t.val=some r->wx P GE A m x t st K->d8 P GE m x (λe st'=>∃t',t'.val=some r/\K e t' st') st) {t:Tr R},t.val=some r->t.go (λt=>Lk m t st (λt st=>wx P GE A m x t st K))->d8 P GE m x (λe st'=>∃t',t'.val=some r/\K e t' st') st:=by
   intro x hx t hv h
   obtain⟨t1,v1,h⟩:=Tr.go_ok hv h
   obtain⟨t2,st2,v2,hw,h⟩:=JS (P:=P) h
   exact d8.weak hw (hx t2 st2 (v2.trans v1) h)
  split at h
  ·rename_i x hx
   split at h
   ·rename_i t'
    refine d8.cond hx (λh1=>?_) (λh1=>?_)
    ·subst h1;exact go (t:=t') (λt st hv h=>eo hf a t st K hv h) (by exact v1) h
    ·subst h1;exact go (t:=t') (λt st hv h=>eo hf b t st K hv h) (by exact v1) h
   ·rename_i j y t'
    obtain⟨rfl,h⟩:=h
    refine d8.cond hx (λh1=>?_) (λh1=>?_)
    ·subst h1;exact go (t:=t') (λt st hv h=>eo hf a t st K hv h) (by exact v1) h
    ·subst h1;exact go (t:=t') (λt st hv h=>eo hf b t st K hv h) (by exact v1) h
   ·exact h.elim
  ·exact h.elim
 | .block id c,t,st,K,hv,h => by
  simp only[wx]at h
  refine d8.block ((eo hf c _ st _ hv h).imp λe st' hx=>?_)
  obtain⟨t',hv',hx⟩:=hx
  cases e with
  | exit id' =>
   simp only[O8]
   simp only at hx
   split at hx
   ·rename_i hid;rw[vah hid];exact⟨t',hv',hx⟩
   ·rename_i hid;rw[van hid];exact⟨t',hv',hx⟩
  |normal=>exact⟨t',hv',hx⟩
  |goto l=>exact⟨t',hv',hx⟩
  |ret=>exact⟨t',hv',hx⟩
  |panic c=>exact⟨t',hv',hx⟩
  |outgrown=>exact⟨t',hv',hx⟩
 |.exit id,t,st,K,hv,h=>d8.exit ⟨t,hv,h⟩
 |.ret,t,st,K,hv,h=>d8.ret ⟨t,hv,h⟩
 | .loop c,t,st,K,hv,h => by
  simp only[wx]at h
  obtain⟨t1,v1,h⟩:=Tr.go_ok hv h
  split at h
  ·rename_i st0 e st1 t'
   obtain⟨h1,h2,h3⟩:=h
   exact d8.weak h1.weak (EX.of h2 ⟨t',v1,h3⟩)
  ·exact h.elim
 |.rangeFunc ..,_,_,_,_,h=>by simp[wx]at h
 |.scope _,_,_,_,_,h=>by simp[wx]at h
 |.goto _,_,_,_,_,h=>by simp[wx]at h
 |.refuse _,_,_,_,_,h=>by simp[wx]at h
end
def PV(Lf:R->Prop)(o:Option R)(t:Tr R)(F:Prop):Prop:=t.val=o/\((∀r,Lf r)->F)
section
variable{Lf:R->Prop}
theorem tE{r:R}:PV Lf (some r) (.lf r) (Lf r):=⟨rfl,λh=>h r⟩
theorem Ei{r:R}{F:Prop}(h:Lf r->F):PV Lf (some r) (.lf r) F:=⟨rfl,λq=>h (q r)⟩
theorem tb{α:Type}{o:Option α}{k:α->Option R}{t:α->Tr R}{F:α->Prop}(h:∀a,o=some a->PV Lf (k a) (t a) (F a)):PV Lf (o.bind k) (.bd o t) (∀a,o=some a->F a):=by
 refine⟨?_,λq a ha=>(h a ha).2 q⟩
 cases o with
 |none=>rfl
 |some a=>exact(h a rfl).1
theorem tf{b:Bool}{x y:Option R}{s t:Tr R}{F G:Prop}(h:b=true->PV Lf x s F)(h':b=false->PV Lf y t G):PV Lf (if b=true then x else y) (.br b s t) ((b=true->F)/\(b=false->G)):=by
 refine⟨?_,λq=>⟨λhb=>(h hb).2 q,λhb=>(h' hb).2 q⟩⟩
 cases b with
 |false=>exact(h' rfl).1
 |true=>exact(h rfl).1
theorem tF{b:Bool}{x y:Option R}{s t:Tr R}{F G:Prop}(h:PV Lf x s F)(h':PV Lf y t G):PV Lf (if b=true then x else y) (.br b (.it (.g 0 true) s) (.it (.g 0 false) t)) ((b=true->b=true/\F)/\(b=false->b=false/\G)):=by
 refine⟨?_,λq=>⟨λhb=>⟨hb,h.2 q⟩,λhb=>⟨hb,h'.2 q⟩⟩⟩
 cases b with
 |false=>exact h'.1
 |true=>exact h.1
theorem t2{α β:Type}{o:Option (α⊕β)}{k:α⊕β->Option R}{s:α->Tr R}{t:β->Tr R}{F:α->Prop}{G:β->Prop}(h:∀a,o=some (.inl a)->PV Lf (k (.inl a)) (s a) (F a))(h':∀a,o=some (.inr a)->PV Lf (k (.inr a)) (t a) (G a)):PV Lf (o.bind k) (.bs o s t) ((∀a,o=some (.inl a)->F a)/\∀a,o=some (.inr a)->G a):=by
 refine⟨?_,λq=>⟨λa ha=>(h a ha).2 q,λa ha=>(h' a ha).2 q⟩⟩
 simp only[Tr.val]
 rcases o with _|a|a
 ·rfl
 ·exact(h a rfl).1
 ·exact(h' a rfl).1
theorem t3{α β γ:Type}{o:Option (α⊕(β⊕γ))}{k:α⊕(β⊕γ)->Option R}{s:α->Tr R}{t:β->Tr R}{u:γ->Tr R}{F:α->Prop}{G:β->Prop}{H:γ->Prop}(h:∀a,o=some (.inl a)->PV Lf (k (.inl a)) (s a) (F a))(h':∀a,o=some (.inr (.inl a))->PV Lf (k (.inr (.inl a))) (t a) (G a))
  (h'':∀a,o=some (.inr (.inr a))->PV Lf (k (.inr (.inr a))) (u a) (H a)):PV Lf (o.bind k) (.b3 o s t u) ((∀a,o=some (.inl a)->F a)/\(∀a,o=some (.inr (.inl a))->G a)/\∀a,o=some (.inr (.inr a))->H a):=by
 refine⟨?_,λq=>⟨λa ha=>(h a ha).2 q,λa ha=>(h' a ha).2 q,λa ha=>(h'' a ha).2 q⟩⟩
 simp only[Tr.val]
 rcases o with _|a|a|a
 ·rfl
 ·exact(h a rfl).1
 ·exact(h' a rfl).1
 ·exact(h'' a rfl).1
variable{oo:Option R}{tr:Tr R}{F X Y:Prop}
theorem tv{o:Option PVal}{p:PVal}(h:o=some p)(r:PV Lf oo tr F):PV Lf oo (.it (.v p) tr) (o=some p/\F):=⟨r.1,λq=>⟨h,r.2 q⟩⟩
theorem ct{o:List aA->Option PVal}{p:PVal}(h:∀H,o H=some p)(r:PV Lf oo tr F):PV Lf oo (.it (.v p) tr) ((∀H,o H=some p)/\F):=⟨r.1,λq=>⟨h,r.2 q⟩⟩
theorem tx{o:Option (List PVal)}{l:List PVal}(h:o=some l)(r:PV Lf oo tr F):PV Lf oo (.it (.x l) tr) (o=some l/\F):=⟨r.1,λq=>⟨h,r.2 q⟩⟩
theorem te{o:Option (List PVal)}{l:List PVal}(h:o=some l)(r:PV Lf oo tr F):PV Lf oo (.it (.e l) tr) (o=some l/\F):=⟨r.1,λq=>⟨h,r.2 q⟩⟩
theorem tg(n:Nat){x b:Bool}(h:x=b)(r:PV Lf oo tr F):PV Lf oo (.it (.g n b) tr) (x=b/\F):=⟨r.1,λq=>⟨h,r.2 q⟩⟩
theorem qfR{o:Option (List PVal)}{l:List PVal}(h:o=some l)(r:PV Lf oo tr F):PV Lf oo (.it (.s) tr) (o=some l/\F):=⟨r.1,λq=>⟨h,r.2 q⟩⟩
theorem bM{P:Program}{GE:List (Nat×List PVal)}{g:FuncId}{vs:List PVal}{p:PVal}{ro:List (Nat×TypeId)}(h:CC P GE g vs p ro)(r:PV Lf oo tr F):PV Lf oo (.it (.c p ro) tr) (CC P GE g vs p ro/\F):=⟨r.1,λq=>⟨h,r.2 q⟩⟩
theorem Vf{P:Program}{T:TypeId}{ps:List (Nat×PVal)}{p:PVal}{L:List (Nat×TypeId)}(h:dh P T ps=some p)(h':FJ P T ps L)(r:PV Lf oo tr F):PV Lf oo (.it (.b p L) tr) (dh P T ps=some p/\FJ P T ps L/\F):=⟨r.1,λq=>⟨h,h',r.2 q⟩⟩
theorem ty{l vs:List PVal}(h:l=vs)(r:PV Lf oo tr F):PV Lf oo (.it (.y vs) tr) (l=vs/\F):=⟨r.1,λq=>⟨h,r.2 q⟩⟩
theorem qfS{o:Option (List PVal)}{vs:List PVal}(h:o=some vs)(r:PV Lf oo tr F):PV Lf oo (.it (.y vs) tr) (o=some vs/\F):=⟨r.1,λq=>⟨h,r.2 q⟩⟩
theorem tz{o:Option PVal}{l:List PVal}(h:o=some (.agg l))(r:PV Lf oo tr F):PV Lf oo (.it (.z l) tr) (o=some (.agg l)/\F):=⟨r.1,λq=>⟨h,r.2 q⟩⟩
theorem Be(an:List Nat)(r:PV Lf oo tr F):PV Lf oo (.it (.dr an) tr) F:=⟨r.1,r.2⟩
theorem jo(n:Nat)(r:PV Lf oo tr F):PV Lf oo (.it (.pa n) tr) F:=⟨r.1,r.2⟩
theorem cD{P:Program}{GE:List (Nat×List PVal)}{m:Nat}{c:Code}{e:Exit}{s0 s1:aB}(h:d8 P GE m c (EX e s1) s0)(r:PV Lf oo tr F):PV Lf oo (.it (.pc s0 e s1) tr) ((s0.tmps=s0.tmps/\s0.boxes=s0.boxes/\true=true)/\d8 P GE m c (EX e s1) s0/\F):=⟨r.1,λq=>⟨fr s0,h,r.2 q⟩⟩
theorem RL(i:It)(r:PV Lf oo tr F):PV Lf oo (.it i tr) F:=⟨r.1,r.2⟩
theorem ti(i:It)(h:X)(r:PV Lf oo tr F):PV Lf oo (.it i tr) (X/\F):=⟨r.1,λq=>⟨h,r.2 q⟩⟩
theorem tq(h:X)(r:PV Lf oo tr F):PV Lf oo tr (X/\F):=⟨r.1,λq=>⟨h,r.2 q⟩⟩
theorem SY{o:Option (List aA)}{B:aA}(h:o=some [B])(r:PV Lf oo tr F):PV Lf oo (.it (.w 0 B) tr) (o=some [B]/\F):=⟨r.1,λq=>⟨h,r.2 q⟩⟩
theorem qec{o:Option (List (PVal×PVal))}{m:List (PVal×PVal)}(h:o=some m)(r:PV Lf oo tr F):PV Lf oo (.it (.w 0 (.map m)) tr) (o=some m/\F):=⟨r.1,λq=>⟨h,r.2 q⟩⟩
theorem qeb(i:Nat)(e:TypeId){n k:Nat}{cs fs:List PVal}(h:X/\Y/\(n=k/\cs=fs))(r:PV Lf oo tr F):PV Lf oo (.it (.ar i e n cs) tr) (X/\Y/\(n=k/\cs=fs)/\F):=⟨r.1,λq=>⟨h.1,h.2.1,h.2.2,r.2 q⟩⟩
theorem Vt(i:Nat)(es:List (List PVal))(lv rk:List Nat)(h:X)(h':Y){Z:Prop}(h'':Z)(r:PV Lf oo tr F):PV Lf oo (.it (.fz i es lv rk) tr) (X/\Y/\Z/\F):=⟨r.1,λq=>⟨h,h',h'',r.2 q⟩⟩
theorem T9{o:Option (List PVal)}{l:List PVal}(h:o=some l)(hn:Fx l=true)(r:PV Lf oo tr F):PV Lf oo (.it (.x l) tr) (o=some l/\Fx l=true/\F):=⟨r.1,λq=>⟨h,hn,r.2 q⟩⟩
theorem tw{o o':Option PVal}{p p':PVal}(h:o=some p/\o'=some p')(r:PV Lf oo tr F):PV Lf oo (.it (.v p) (.it (.v p') tr)) (o=some p/\o'=some p'/\F):=⟨r.1,λq=>⟨h.1,h.2,r.2 q⟩⟩
theorem tk(r:PV Lf oo tr F):PV Lf oo (.it .k tr) F:=⟨r.1,r.2⟩
theorem ts(r:PV Lf oo tr F):PV Lf oo (.it .s tr) F:=⟨r.1,r.2⟩
end
end
def Mt(s:aB):Prop:=s.tmps=s.tmps/\s.boxes=s.boxes/\true=true
theorem Mt.ok(s:aB):Mt s:=fr s
def Zm:Exit->Bool
 |.normal=>true
 |_=>false
theorem Zn{e:Exit}(h:Zm e=false):e≠.normal:=by
 intro he
 subst he
 cases h
section
variable{P:Program}{GE:List (Nat×List PVal)}{A:List Nat}{m:Nat}{c:Code}{st:aB}{X σ:Type}
def Tr.fin{R:Type}:Tr R->(R->Prop)->Prop
 |.lf x,K=>K x
 |_,_=>False
theorem QW{R:Type}{r:R}{t:Tr R}{K:R->Prop}(hv:t.val=some r)(h:t.fin K):K r:=by
 unfold Tr.fin at h
 split at h
 ·cases hv;exact h
 ·exact h.elim
def LJ(ex:X->Exit)(so:X->aB)(x:X):Prop:=ex x=ex x/\Mt (so x)
def KJ(ex:X->Exit)(so:X->aB):Exit->Tr X->aB->Prop:=λe t st=>t.go λt=>t.fin λx=>FN (ex x) (so x) e [] st
theorem KJ.at{ex:X->Exit}{so:X->aB}{e:Exit}{t:Tr X}{st:aB}{x:X}(hv:t.val=some x)(h:KJ ex so e t st):FN (ex x) (so x) e [] st:=by
 obtain⟨t',v',h⟩:=Tr.go_ok hv h
 exact QW (K:=λx=>FN (ex x) (so x) e [] st) v' h
theorem W8(hf:P.follows .mixedOrders=true){ex:X->Exit}{so:X->aB}{o:Option X}{x:X}(h:o=some x){t:Tr X}{F:Prop}(z:PV (LJ ex so) o t F)(he:F=wx P GE A m c t st (KJ ex so)):d8 P GE m c (EX (ex x) (so x)) st:=by
 have hF:=z.2 λr=>⟨rfl,Mt.ok _⟩
 rw[he]at hF
 refine(eo hf c t st _ (z.1.trans h) hF).mono λe st' hx=>?_
 obtain⟨t',v',hx⟩:=hx
 have hx:=KJ.at v' hx
 exact⟨so x,hx.2.weak,hx.1.symm,rfl⟩
def LB(S:σ->aB)(ex:X->Exit)(so:X->aB):σ⊕X->Prop
 |.inl s=>Exit.normal=Exit.normal/\Mt (S s)
 |.inr x=>false=false/\ex x=ex x/\Mt (so x)
def KB(S:σ->aB)(ex:X->Exit)(so:X->aB):Exit->Tr (σ⊕X)->aB->Prop:=λe t st=>t.go λt=>t.fin λy=>match y with
 |.inl s=>FN .normal (S s) e [] st
 |.inr x=>Zm (ex x)=false/\FN (ex x) (so x) e [] st
def qei(m:Nat)(S:σ->aB)(ex:X->Exit)(so:X->aB):Exit->Tr (σ⊕X)->aB->Prop:=λe t st=>t.go λt=>t.fin λy=>match y with
 |.inl s=>qeh m .normal (S s) e [] st
 |.inr x=>Zm (ex x)=false/\qeh m (ex x) (so x) e [] st
theorem qbU(hf:P.follows .mixedOrders=true){S:σ->aB}{ex:X->Exit}{so:X->aB}{o:Option (σ⊕X)}{y:σ⊕X}(h:o=some y){t:Tr (σ⊕X)}{F:Prop}(z:PV (LB S ex so) o t F)(he:F=wx P GE A m c t st (KB S ex so)):d8 P GE m c (LQ S ex so y) st:=by
 have hF:=z.2 λr=>by
  cases r with
  |inl s=>exact⟨rfl,Mt.ok _⟩
  |inr x=>exact⟨rfl,rfl,Mt.ok _⟩
 rw[he]at hF
 refine(eo hf c t st _ (z.1.trans h) hF).mono λe st' hx=>?_
 obtain⟨t',v',hx⟩:=hx
 obtain⟨t2,v2,hx⟩:=Tr.go_ok v' hx
 have hx:=QW v2 hx
 cases y with
 |inl s=>exact⟨S s,hx.2.weak,hx.1.symm,rfl⟩
 |inr x=>exact⟨so x,hx.2.2.weak,by rw[<-hx.2.1];exact Zn hx.1,hx.2.1.symm,rfl⟩
theorem qav(hf:P.follows .mixedOrders=true){S:σ->aB}{ex:X->Exit}{so:X->aB}{o:Option (σ⊕X)}{y:σ⊕X}(h:o=some y){t:Tr (σ⊕X)}{F:Prop}(z:PV (λ_=>True) o t F)(he:F=wx P GE A m c t st (qei m S ex so)):d8 P GE m c (LQ S ex so y) st:=by
 have hF:=z.2 λr=>trivial
 rw[he]at hF
 refine(eo hf c t st _ (z.1.trans h) hF).mono λe st' hx=>?_
 obtain⟨t',v',hx⟩:=hx
 obtain⟨t2,v2,hx⟩:=Tr.go_ok v' hx
 have hx:=QW v2 hx
 cases y with
 |inl s=>exact⟨S s,hx.2.weak,hx.1.symm,rfl⟩
 |inr x=>exact⟨so x,hx.2.2.weak,by rw[<-hx.2.1];exact Zn hx.1,hx.2.1.symm,rfl⟩
theorem ZL{S:σ->aB}{ex:X->Exit}{so:X->aB}{body:σ->Option (σ⊕X)}{s:σ}{x:X}(h:loop body s=some x)(hb:∀s y,body s=some y->d8 P GE m c (LQ S ex so y) (S s)){st s1:aB}{e:Exit}(h1:st=S s:=by rfl)(h2:e=ex x:=by rfl)(h3:s1=so x:=by rfl):d8 P GE m (.loop c) (EX e s1) st:=by
 subst h1 h2 h3
 exact d8.loop h hb
end
end Go.Proofs.YtkdahfeiedaahaaGreatDoor
