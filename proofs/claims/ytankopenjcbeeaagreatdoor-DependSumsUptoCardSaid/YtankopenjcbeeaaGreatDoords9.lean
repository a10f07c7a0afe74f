/- PROVED: a part of the proof. Conditions: none. -/
import Derived.Test.YtankopenjcbeeaaGreatDoords8
import Derived.WalkKit
import Derived.ProofKit
import Derived.OpenShut
import Derived.Below
import Derived.ChangeSame
import Derived.SliceStrings
import Derived.ChangeMaps5
import Derived.WideKeyArgs
import Derived.Lib.LaidTab
import Derived.LaidLaws
import Derived.Test.YtankopenjcbeeaaGreatDoorRows
import Derived.Test.YtankopenjcbeeaaGreatDoords3
import Derived.Shelf.SlicesE.Clone
set_option linter.unusedSimpArgs false
set_option linter.unusedVariables false
noncomputable section
namespace Go.Proofs.YtankopenjcbeeaaGreatDoor
open Go Go.RowKit Go.WideShapes Go.ChangeShapes Go.ChangeAt
def AA(W:World):aP:=λb=>match W.heap[b]? with
 |some (.cells c _ _)=>some c.size
 |_=>none
theorem LF{W:World}{b:Nat}{c:Array Value}{t:TypeId}{fr:Nat×Nat}(h:W.heap[b]? =some (.cells c t fr)):AA W b=some c.size:=by unfold AA;rw[h]
def V9(W:World)(x:Nat×List PVal):Prop:=eP 0 x.2/\∃c t fr,W.heap[x.1]? =some (.cells c t fr)/\c.size=x.2.length/\∀(i:Nat) p v,x.2[i]? =some p->c[i]? =some v->VR (AA W) [] W p v
section
variable{P:Program}{GE:List (Nat×List PVal)}
theorem Ol{k:FuncId}{pargs:List PVal}{args:Array Value}{W:World}{b:Bool}(hC:C P GE k pargs [] [] (.bool b) [] [])(hl:args.size=pargs.length)
  (hv:∀(i:Nat) p v,pargs[i]? =some p->args[i]? =some v->VR (AA W) [] W p v) (hG:∀x∈GE,V9 W x):Calls P k args W λe W'=>e=.returned (.bool b)/\Below W.heap.size W W':=by
 have hS:SR P ⟨GE,AA W,W,aR [] λ_=>none⟩ (AA W) [] (λ_=>none) W args ⟨pargs,[],[]⟩:={
  wi:=λb n hb=>by
   unfold AA at hb
   split at hb
   ·rename_i c t fr hh;cases hb;exact⟨c,t,fr,hh,vaj _⟩
   ·cases hb
  sz:=hl
  tm:=hv
  bl:=rfl
  bx:=λi b B hi=>by simp at hi
  inj:=λi j b hi=>by simp at hi
  bn:=λi b hi=>by simp at hi
  on:=λb L hL=>by cases hL
  ot:=λt k e he=>by simp at he
  ob:=λi j e cs own b hB=>by simp at hB
  gl:=λg cs hg=>by
   obtain⟨_,c,t,fr,h1,h2,h3⟩:=hG _ hg
   refine .eptr cs g 0 c.size (λk=>c.getD k undef) (LF h1) (by simp only at h2;omega) (λk p hp=>?_) (λk p hp=>?_)
   ·have hk:k<c.size:=by have:=ah hp;simp only at h2;omega
    rw[vaD,cell_of_row W g k c t fr h1]
    simp[vas,hk]
   ·have hk:k<c.size:=by have:=ah hp;simp only at h2;omega
    exact h3 k p _ hp (by simp[vas,hk])
  gc:=λg cs hg=>(hG _ hg).1
  gx:=λg cs hg=>by
   obtain⟨_,c,t,fr,h1,h2,_⟩:=hG _ hg
   refine⟨(vab.1 h1).1,λhT=>?_,c,t,fr,h1,h2⟩
   rcases hT with⟨i,hi⟩|hT
   ·simp at hi
   ·exact hT rfl
  step:=.refl _ _ _ _}
 refine(hC.2 (AA W) [] (λ_=>none) W args hS).mono λe W' he=>?_
 obtain⟨v,Γ',ow',rfl,hS'⟩:=he
 have hv':=hS'.tm 0 (.bool b) v rfl rfl
 cases hv'
 refine⟨rfl,hS'.step.os,hS'.step.tape,hS'.step.output,hS'.step.size,λk hk=>(hS'.step.keep k hk λhT=>?_).1⟩
 rcases hT with⟨i,hi⟩|hT
 ·simp at hi
 ·exact hT rfl
end
section
variable{H:Type}{enc:TypeId×Value->H}{P:Program}{w:World}{base:Nat}{spare:Nat->Bool}{held:Bool}{t:TypeId}{fuel:Nat}
theorem Lv{f:Func}{s:ChangeSpec}{apart fresh handsOn again:Bool}{W W':World}{args:Array Value}{v:Value}{ds gs:List (DataW H)}{before pa pv:List MemPlace}
    (hW:DataW.Whole enc P f.params.toList s.vars apart W args.toList ds gs before)
    (hres:∀(b:Nat) (sp:Nat->Bool) (hd:Bool),DataW.TrodAll enc P W' b sp hd f.resultTypes.toList (v.resultList f.resultTypes.size) (s.fn H (ds++gs)).results [])
    (hargs:∀sp:Nat->Bool,(∀p∈before,sp p.block=true)->DataW.TrodAll enc P W' 0 sp true f.params.toList args.toList (s.fn H (ds++gs)).args pa)
    (hvars:∀sp:Nat->Bool,(∀p∈before,sp p.block=true)->DataW.TrodVars enc P W' sp s.vars (s.fn H (ds++gs)).vars pv)
    (hps:before=pa++pv) (hb:Below W.heap.size W W')
    (hok:∀(j:Nat) (t:TypeId) (r:Value),f.resultTypes[j]? =some t->(v.resultList f.resultTypes.size)[j]? =some r->Value.okWide P W' .any 0 t r):
    s.post enc P f apart fresh handsOn again W args v W':=by
  have hlt:∀p∈before,p.block<W.heap.size:=λp hp=>hW.lt p hp
  have hold:∀p∈before,(λb=>decide (b<W.heap.size)) p.block=true:=λp hp=>by simpa using hlt p hp
  refine⟨ds,gs,before,[],pa,pv,hW,hres _ _ _,hargs _ hold,hvars _ hold,World.keptBut_mono (λp hp=>⟨hp,?_⟩) (hb.frame (·∈before)),λ_=>?_⟩
  · rw [hps,vaG] at hp
    exact Or.inr hp
  · obtain ⟨_,_,_,_,_,hz,hn⟩:=hW
    refine⟨hok,_,_,([]++pa)++pv,⟨[]++pa,pv,trodAll_append (hargs _ (λ_ _=>rfl)) (hres _ _ _),hvars _ (λ_ _=>rfl),rfl,?_,?_⟩,?_⟩
    · intro b off hp
      have hin:MemPlace.cell b off∈before:=by rw[hps];simpa using hp
      rw[hb.frozen (hlt _ hin)]
      exact hz b off hin
    · intro ha
      have:=hn ha
      rw[hps]at this
      simpa using this
    · intro p hp _
      rw[hps]
      simpa using hp
theorem LH(hl:laidOutB P=true){W W':World}(hb:Below W.heap.size W W'){sp:Nat->Bool}:∀{ts:List TypeId} {vs:List Value} {ds:List (DataW H)} {ps:List MemPlace},(∀t∈ts,P.readableRec t=true/\t<P.types.size)->
  DataW.TrodAll enc P W 0 (λ_=>true) true ts vs ds ps->(∀p∈ps,p.block<W.heap.size)->(∀p∈ps,sp p.block=true)->DataW.TrodAll enc P W' 0 sp true ts vs ds ps
 |[],[],[],_,_,h,_,_=>h
 | t :: _,_ :: _,_ :: _,_,ht,⟨p,q,h1,h2,e⟩,hlt,hs =>
  ⟨p,q,WideElems.Trod_stays hl (ht t (by simp)).1 (ht t (by simp)).2 h1 (λx hx=>hb.same (hlt x (by rw[e];exact vaV _ hx))) (λx hx=>hs x (by rw[e];exact vaV _ hx)),
   LH hl hb (λt ht'=>ht t (by simp[ht'])) h2 (λx hx=>hlt x (by rw[e];exact vaK _ hx)) (λx hx=>hs x (by rw[e];exact vaK _ hx)),e⟩
theorem So{f:Func}{s:ChangeSpec}{W W':World}{args:Array Value}{ds gs:List (DataW H)}{before:List MemPlace}(hl:laidOutB P=true)(hr:f.resultTypes=#[t])(hbt:P.underlying t=some .bool)(hsv:s.vars=[])
  (hfn:(s.fn H (ds++gs)).results=[.lit (.bool true)]/\(s.fn H (ds++gs)).args=ds/\(s.fn H (ds++gs)).vars=[]) (hts:∀t∈f.params.toList,P.readableRec t=true/\t<P.types.size)
  (hW:DataW.Whole enc P f.params.toList s.vars false W args.toList ds gs before) (hb:Below W.heap.size W W'):s.post enc P f false true false false W args (.bool true) W':=by
 have hW':=hW
 obtain⟨p,q,hA,hV,rfl,_,_⟩:=hW
 rw[hsv]at hV
 obtain⟨rfl,rfl⟩:=trodVars_none hV
 have hlt:∀x∈p,x.block<W.heap.size:=λx hx=>hW'.lt x (by simpa using hx)
 refine Lv (pa:=p) (pv:=[]) hW' (λb sp hd=>?_) (λsp hs=>?_) (λsp _=>?_) rfl hb (λj t' r hj hv=>?_)
 ·rw[hr,hfn.1]
  exact trodAll_cons_mk (shut_bool hbt _) trodAll_mk0
 ·rw[hfn.2.1]
  exact LH hl hb hts hA hlt (λx hx=>hs x (by simpa using hx))
 ·rw[hsv,hfn.2.2];rfl
 ·exact ok_one hr rfl (okWide_bool_mk hbt _) j t' r hj hv
theorem Nx(a:Addr)(i:Nat)(h:a.spot=none):a.add i=⟨a.block,a.off+i,none⟩:=by
 obtain⟨b,o,sp⟩:=a
 simp only at h
 subst h
 unfold Addr.add
 split
 ·rename_i hi;subst hi;rfl
 ·rfl
end
section
variable{P:Program}{W:World}
theorem J0:∀{laid:List (String×DataW Unit)} {ps:List MemPlace} {name:String} {d:DataW Unit},DataW.LaidVars P W laid ps->(name,d)∈laid->
  ∃g t cs fuel p,P.globalNamed name=some g/\(P.globals[g]?).map (·.type)=some t/\W.var? P name=some cs/\DataW.trod (λ_=>()) P W 0 (λ_=>true) false fuel t cs.toList=some (d,p)
 |[],_,_,_,_,hm=>by cases hm
 |(n,d')::r,ps,name,d,⟨g,t,cs,fuel,p,q,h1,h2,h3,h4,h5,_⟩,hm=>by
  cases hm with
  |head=>exact⟨g,t,cs,fuel,p,h1,h2,h3,h4⟩
  |tail _ hm=>exact J0 h5 hm
theorem On{name:String}{g:Nat}{cs:Array Value}(hg:P.globalNamed name=some g)(h:W.var? P name=some cs):∃t fr,W.heap[g]? =some (.cells cs t fr):=by
 unfold World.var? at h
 rw[hg]at h
 simp only[vbc]at h
 split at h
 ·rename_i c t fr hh
  cases h
  exact⟨t,fr,hh⟩
 ·cases h
def Nq{H:Type}(l:List ac):DataW H:=.agg (l.map λs=>.lit (.string s))
theorem Lb{H:Type}{enc:TypeId×Value->H}{base:Nat}{sp:Nat->Bool}{held:Bool}{fuel:Nat}{t e:TypeId}{n:Nat}{cs:List Value}{zs:List ac}{p:List MemPlace}
  (ht:P.underlying t=some (.array n e)) (he:P.underlying e=some .string) (hce:P.cellsOf e=1) (hct:P.cellsOf t=n)
  (h:DataW.trod enc P W base sp held fuel t cs=some (Nq zs,p)):cs=zs.map λz=>Value.string ⟨z.toArray⟩:=by
 cases fuel with
 |zero=>simp[DataW.trod]at h
 | succ fuel =>
  simp only[DataW.trod,ht,hce,hct,vbl]at h
  split at h
  ·rename_i hl
   obtain⟨xs,hm,hx⟩:=vax.1 h
   have hxs:xs.map (·.1)=zs.map λz=>(DataW.lit (.string z):DataW H):=by
    have:=vaS Prod.fst hx
    simpa[Nq]using this
   have hxl:xs.length=n:=by simpa using Lib.mapM_length hm
   have hzl:zs.length=n:=by
    have:=vaS List.length hxs
    simp at this
    omega
   apply vaL
   intro i
   by_cases hi:i<n
   ·obtain⟨b,hb,hf⟩:=Lib.mapM_at hm i i (by simp[hi])
    obtain⟨z,hc,rfl,_⟩:=DataW.trod_string he hf
    have h1:cs[i]? =some (.string z):=by
     have:=vaS (·[0]?) hc
     simpa[List.getElem?_take,va4]using this
    have h2:(xs.map (·.1))[i]? =some (DataW.lit (.string z.data.toList):DataW H):=by simp[hb]
    rw[hxs]at h2
    simp only[vah,vax,DataW.lit.injEq,Lit.string.injEq]at h2
    obtain⟨z',hz',h3⟩:=h2
    simp only[h1,vah,hz',van,h3]
   ·rw[vav (by omega),vav (by simp;omega)]
  ·cases h
theorem Si{x:Nat}{pv:List PVal}{cs:Array Value}{t:TypeId}{fr:Nat×Nat}(hh:W.heap[x]? =some (.cells cs t fr))(hcl:eP 0 pv)(hs:cs.size=pv.length)(hv:∀(i:Nat) p v,pv[i]? =some p->cs[i]? =some v->VR (AA W) [] W p v):V9 W (x,pv):=
 ⟨hcl,cs,t,fr,hh,hs,hv⟩
theorem JS{laid:List (String×DataW Unit)}{name:String}{d:DataW Unit}{g:Nat}{t e:TypeId}{n:Nat}{k:IntKind}{zs:List Int}(hL:laidMet P laid W)(hm:(name,d)∈laid)(hd:d=Lib.tabData k zs)
  (hg:P.globalNamed name=some g) (hty:(P.globals[g]?).map (·.type)=some t) (ht:P.underlying t=some (.array n e)) (he:P.underlying e=some (.int k)) (hce:P.cellsOf e=1) (hct:P.cellsOf t=n):V9 W (g,zs.map (PVal.int k)):=by
 obtain⟨ps,hV,_⟩:=hL
 obtain⟨g',t',cs,fuel,p,h1,h2,h3,h4⟩:=J0 hV hm
 obtain rfl:=vbf (hg.symm.trans h1)
 obtain rfl:=vbf (hty.symm.trans h2)
 subst hd
 have hc:=Lib.cells_of_tab ht he hce hct h4
 obtain⟨ty,fr,hh⟩:=On hg h3
 refine Si hh (OY λq hq=>?_) (by simpa using vaS List.length hc) (λi q v hq hv=>?_)
 ·obtain⟨z,_,rfl⟩:=vak.1 hq
  simp[PVal.cl]
 ·rw[<-vaA,hc]at hv
  simp only[vah,vax]at hq hv
  obtain⟨z,hz,rfl⟩:=hq
  obtain⟨z',hz',rfl⟩:=hv
  cases hz.symm.trans hz'
  exact .int _ _
theorem NT{laid:List (String×DataW Unit)}{name:String}{d:DataW Unit}{g:Nat}{t e:TypeId}{n:Nat}{zs:List ac}(hL:laidMet P laid W)(hm:(name,d)∈laid)(hd:d=Nq zs)
  (hg:P.globalNamed name=some g) (hty:(P.globals[g]?).map (·.type)=some t) (ht:P.underlying t=some (.array n e)) (he:P.underlying e=some .string) (hce:P.cellsOf e=1) (hct:P.cellsOf t=n):V9 W (g,zs.map PVal.str):=by
 obtain⟨ps,hV,_⟩:=hL
 obtain⟨g',t',cs,fuel,p,h1,h2,h3,h4⟩:=J0 hV hm
 obtain rfl:=vbf (hg.symm.trans h1)
 obtain rfl:=vbf (hty.symm.trans h2)
 subst hd
 have hc:=Lb ht he hce hct h4
 obtain⟨ty,fr,hh⟩:=On hg h3
 refine Si hh (OY λq hq=>?_) (by simpa using vaS List.length hc) (λi q v hq hv=>?_)
 ·obtain⟨z,_,rfl⟩:=vak.1 hq
  simp[PVal.cl]
 ·rw[<-vaA,hc]at hv
  simp only[vah,vax]at hq hv
  obtain⟨z,hz,rfl⟩:=hq
  obtain⟨z',hz',rfl⟩:=hv
  cases hz.symm.trans hz'
  exact .str _
end
def Xr(w:World)(l:List (Nat×Array Value)):World:={w with heap:=l.foldl (λh x=>h.modify x.1 λ|.cells _ t fr=>.cells x.2 t fr|o=>o) w.heap}
def qfk:PVal->Value
 |.int k n=>.int k n
 |.str s=>.string ⟨s.toArray⟩
 |.bool b=>.bool b
 |_=>undef
def VN(l:List (Nat×List PVal)):List (Nat×Array Value):=l.map λx=>(x.1,(x.2.map qfk).toArray)
set_option linter.unusedVariables false
mutual
def pm:PVal->Nat
 |.str s=>s.length+1
 |.slice es=>Pu es+1
 |.int _ _=>1
 |.bool _=>1
 |_=>0
def OC:List PVal->Nat
 |[]=>0
 |p::l=>pm p+OC l
def Pu:List (List PVal)->Nat
 |[]=>0
 |x::r=>OC x+Pu r
end
theorem Km:∀(a b:List PVal),OC (a++b)=OC a+OC b
 |[],b=>by simp[OC]
 |p::a,b=>by simp only[va1,OC,Km a b];omega
def ZS(P:Program)(S:TypeId->List PVal->Prop):List Field->List PVal->Prop
 |[],l=>l=[]
 |f::fs,l=>∃a b,l=a++b/\a.length=P.cellsOf f.type/\S f.type a/\ZS P S fs b
def Sh(P:Program):Nat->TypeId->List PVal->Prop
 |0,_,_=>False
 |n+1,t,l=>match P.underlying t with
  |some .bool=>∃b,l=[.bool b]
  |some (.int k)=>∃i,l=[.int k i]/\(Lit.int k i).wf=true
  |some .string=>∃s:ac,l=[.str s]/\s.length<=maxLen
  |some (.slice e)=>∃es,l=[.slice es]/\es.length<=maxLen/\∀x∈es,Sh P n e x
  |some (.struct fs)=>ZS P (Sh P n) fs.toList l
  |_=>True
def Cu(P:Program):Nat->List Field->Nat->Bool
 |o,[],n=>decide (o=n)
 |o,f::fs,n=>decide (f.offset=o)&&Cu P (o+P.cellsOf f.type) fs n
theorem P6{α:Type}{Q:Nat->α->Prop}:∀{n:Nat},(∀i,i<n->∃x,Q i x)->∃l:List α,l.length=n/\∀(i:Nat) x,l[i]? =some x->Q i x
 |0,_=>⟨[],rfl,λi x h=>by simp at h⟩
 | n + 1,h => by
  obtain⟨l,hl,hq⟩:=P6 (n:=n) λi hi=>h i (by omega)
  obtain⟨x,hx⟩:=h n (by omega)
  refine⟨l++[x],by simp[hl],λi y hy=>?_⟩
  by_cases hi:i<l.length
  ·rw[vac hi]at hy;exact hq i y hy
  ·have hlt:=ah hy
   simp at hlt
   have:i=l.length:=by omega
   subst this
   rw[vae (vaj _)]at hy
   simp at hy;subst hy;rw[hl];exact hx
theorem PN{H:Type}:∀{es:List (List PVal)} {ds:List (DataW H)},es.length=ds.length->(∀(i:Nat) x d,es[i]? =some x->ds[i]? =some d->OC x<=Rows.uptoBulk d)->Pu es<=Rows.uptoBulkAll ds
 |[],[],_,_=>by simp[Pu,Rows.uptoBulkAll]
 |x::es,d::ds,hl,h=>by
  have h1:=h 0 x d rfl rfl
  have h2:=PN (es:=es) (ds:=ds) (by simpa using hl) λi x d hx hd=>h (i+1) x d (by simpa using hx) (by simpa using hd)
  simp only[Pu,Rows.uptoBulkAll];omega
section
variable{H:Type}{enc:TypeId×Value->H}{P:Program}{W:World}{base:Nat}{sp:Nat->Bool}{held:Bool}
def Wa(P:Program)(W:World)(n:Nat)(t:TypeId)(cs:List Value)(b:Nat):Prop:=
 ∃l:List PVal,l.length=cs.length/\(∀(i:Nat) p v,l[i]? =some p->cs[i]? =some v->VR (AA W) [] W p v)/\Sh P n t l/\OC l<=b
theorem Wa.one{n:Nat}{t:TypeId}{p:PVal}{v:Value}{b:Nat}(h:VR (AA W) [] W p v)(hs:Sh P n t [p])(hb:pm p<=b):Wa P W n t [v] b:=
 ⟨[p],rfl,λi q u hq hu=>by
  cases i with
  |zero=>simp at hq hu;subst hq;subst hu;exact h
  |succ i=>simp at hq,hs,by simp only[OC];omega⟩
theorem LT{L:List TypeId}{fuel:Nat}(ih:∀(t:TypeId),t∈L->∀(cs:List Value) (d:DataW H) (p:List MemPlace),DataW.trod enc P W base sp held fuel t cs=some (d,p)->Wa P W fuel t cs (Rows.uptoBulk d)){cs:List Value}:∀{fs:List Field} {o n:Nat} {xs:List (DataW H×List MemPlace)},(∀f∈fs,f.type∈L)->n<=cs.length->Cu P o fs n=true->fs.mapM (λf=>DataW.trod enc P W base sp held fuel f.type ((cs.drop f.offset).take (P.cellsOf f.type)))=some xs->
   o<=n/\∃l:List PVal,l.length=n - o/\(∀(i:Nat) p v,l[i]? =some p->cs[o+i]? =some v->VR (AA W) [] W p v)/\ZS P (Sh P fuel) fs l/\OC l<=Rows.uptoBulkAll (xs.map (·.1))
 |[],o,n,xs,_,hn,hc,h=>by
  unfold Cu at hc
  have:o=n:=by simpa using hc
  subst this
  exact⟨vaj _,[],by simp,λi p v hp=>by simp at hp,rfl,by simp[OC]⟩
 | f :: fs,o,n,xs,hL,hn,hc,h => by
  unfold Cu at hc
  simp only[vaf,vap]at hc
  obtain⟨hfo,hc⟩:=hc
  simp only[vbV,Option.bind_eq_bind,va9,Option.pure_def,vat]at h
  obtain⟨⟨d,p⟩,hd,xs',hxs,rfl⟩:=h
  obtain⟨ho,l2,k1,k2,k3,k4⟩:=LT ih (λg hg=>hL g (vaO _ hg)) hn hc hxs
  obtain⟨l1,q1,q2,q3,q4⟩:=ih _ (hL f (by simp)) _ _ _ hd
  have hl1:l1.length=P.cellsOf f.type:=by rw[q1,vbb,vbr,hfo];omega
  refine⟨by omega,l1++l2,by simp[hl1,k1];omega,λi q v hq hv=>?_,⟨l1,l2,rfl,hl1,q3,k3⟩,by rw[Km];simp only[vaZ,Rows.uptoBulkAll];omega⟩
  by_cases hi:i<l1.length
  ·rw[vac hi]at hq
   refine q2 i q v hq ?_
   rw[vao (by omega),va4,hfo]
   exact hv
  ·rw[vae (by omega)]at hq
   refine k2 (i - l1.length) q v hq ?_
   rw[<-hv,hl1]
   congr 1
   rw[hl1]at hi
   omega
theorem TU{fuel:Nat}{t:TypeId}{cs:List Value}{x:DataW H×List MemPlace}(ht:P.underlying t=some .bool)(h:DataW.trod enc P W base sp held (fuel+1) t cs=some x):∃b,cs=[.bool b]/\x.1=.lit (.bool b):=by
 unfold DataW.trod at h
 rw[ht]at h
 split at h<;>simp_all
 exact h▸rfl
theorem VO{fuel:Nat}{t:TypeId}{cs:List Value}{k:IntKind}{x:DataW H×List MemPlace}(ht:P.underlying t=some (.int k))(h:DataW.trod enc P W base sp held (fuel+1) t cs=some x):∃n,cs=[.int k n]/\(Lit.int k n).wf=true/\x.1=.lit (.int k n):=by
 unfold DataW.trod at h
 rw[ht]at h
 cases cs with
 |nil=>simp at h
 | cons v r =>
  cases r with
  |cons _ _=>simp at h
  |nil=>
   cases v<;>simp at h
   obtain⟨⟨rfl,h1⟩,rfl⟩:=h
   exact⟨_,rfl,h1,rfl⟩
theorem Rx{fuel:Nat}{t:TypeId}{cs:List Value}{x:DataW H×List MemPlace}(ht:P.underlying t=some .string)(h:DataW.trod enc P W base sp held (fuel+1) t cs=some x):∃s:ByteArray,cs=[.string s]/\s.size<=maxLen/\x.1=.lit (.string s.data.toList):=by
 unfold DataW.trod at h
 rw[ht]at h
 split at h<;>simp_all
 exact h.2▸rfl
theorem ST{fuel:Nat}{t e:TypeId}{cs:List Value}{x:DataW H×List MemPlace}(ht:P.underlying t=some (.slice e))(h:DataW.trod enc P W base sp held (fuel+1) t cs=some x):(cs=[.slice none 0 0]/\x.1=.nil)\/∃a len cap elems rest,cs=[.slice (some a) len cap]/\len<=cap/\cap<=maxLen/\x.1=.slice (elems.map (·.1)) rest/\
   (List.range len).mapM (λi=>(W.cells? base (a.add (i * P.cellsOf e)) (P.cellsOf e)).bind (DataW.trod enc P W base sp held fuel e))=some elems:=by
 unfold DataW.trod at h
 rw[ht]at h
 cases cs with
 |nil=>simp at h
 | cons v r =>
  cases r with
  |cons _ _=>simp at h
  | nil =>
   cases v<;>try (simp at h;done)
   rename_i ad len cap
   cases ad with
   |none=>
    left
    match len,cap,h with
    |0,0,h=>simp at h;exact⟨rfl,h▸rfl⟩
    |0,c+1,h=>simp at h
    |n+1,c,h=>simp at h
   | some a =>
    right
    simp only at h
    split at h
    ·rename_i hc
     obtain⟨elems,h1,h2⟩:=va9.1 h
     obtain⟨rest,h3,h4⟩:=vax.1 h2
     exact⟨a,len,cap,elems,rest.map (·.1),rfl,hc.2.1,hc.2.2,by rw[<-h4],h1⟩
    ·cases h
theorem Ry{fuel:Nat}{t:TypeId}{cs:List Value}{fs:Array Field}{x:DataW H×List MemPlace}(ht:P.underlying t=some (.struct fs))(h:DataW.trod enc P W base sp held (fuel+1) t cs=some x):cs.length=P.cellsOf t/\∃xs,fs.toList.mapM (λf=>DataW.trod enc P W base sp held fuel f.type ((cs.drop f.offset).take (P.cellsOf f.type)))=some xs/\x.1=.agg (xs.map (·.1)):=by
 unfold DataW.trod at h
 rw[ht]at h
 simp only at h
 split at h
 ·rename_i hl
  obtain⟨xs,h1,h2⟩:=vax.1 h
  exact⟨hl,xs,h1,by rw[<-h2]⟩
 ·cases h
theorem Ny(a:Addr):a.add 0=a:=by unfold Addr.add;simp
theorem Rv{w:World}{a:Addr}{v:Value}(h:w.cell? a=some v):a.spot=none:=by
 unfold World.cell? at h
 split at h
 ·split at h
  ·cases h
  ·rename_i hs;simpa using hs
 ·cases h
structure RK(P:Program)(L:List TypeId):Prop where
 st:∀t∈L,∀fs,P.underlying t=some (.struct fs)->Cu P 0 fs.toList (P.cellsOf t)=true/\∀f∈fs.toList,f.type∈L
 sl:∀t∈L,∀e,P.underlying t=some (.slice e)->0<P.cellsOf e/\e∈L
def Sd(P:Program)(L:List TypeId)(t:TypeId):Bool:=match P.underlying t with
 |some (.struct fs)=>Cu P 0 fs.toList (P.cellsOf t)&&fs.toList.all λf=>L.contains f.type
 |some (.slice e)=>decide (0<P.cellsOf e)&&L.contains e
 |_=>true
theorem TA{L:List TypeId}(h:L.all (Sd P L)=true):RK P L:=by
 refine⟨λt ht fs hu=>?_,λt ht e hu=>?_⟩
 ·have:=vaq.1 h t ht
  unfold Sd at this
  rw[hu]at this
  simp only[vaf,vaq,vbY]at this
  exact this
 ·have:=vaq.1 h t ht
  unfold Sd at this
  rw[hu]at this
  simpa using this
theorem Sk{L:List TypeId}(hF:RK P L):∀(fuel:Nat) (t:TypeId),t∈L->∀(cs:List Value) (d:DataW H) (p:List MemPlace),DataW.trod enc P W base sp held fuel t cs=some (d,p)->Wa P W fuel t cs (Rows.uptoBulk d)
 |0,t,_,cs,d,p,h=>by simp[DataW.trod]at h
 | fuel + 1,t,htL,cs,d,p,h => by
  have ih:=Sk hF fuel
  have other:(∀l,Sh P (fuel+1) t l)->Wa P W (fuel+1) t cs (Rows.uptoBulk d):=λhs=>by
   refine⟨cs.map .val,by simp,λi q v hq hv=>?_,hs _,?_⟩
   ·simp only[vah,hv,van,vat]at hq
    subst hq;exact .val v
   ·have:∀cs:List Value,OC (cs.map .val)=0:=by
     intro cs
     induction cs with
     |nil=>rfl
     |cons c cs ih=>simp only[vaZ,OC,ih,pm]
    rw[this];exact va6 _
  cases hu:P.underlying t with
  |none=>exact other λl=>by unfold Sh;rw[hu];trivial
  | some u =>
   cases u with
   |bool=>
    obtain⟨b,rfl,hx⟩:=TU hu h
    simp only at hx;subst hx
    exact .one (.bool b) (by unfold Sh;rw[hu];exact⟨b,rfl⟩) (by simp[pm,Rows.uptoBulk])
   |int k=>
    obtain⟨n,rfl,hw,hx⟩:=VO hu h
    simp only at hx;subst hx
    exact .one (.int k n) (by unfold Sh;rw[hu];exact⟨n,rfl,hw⟩) (by simp[pm,Rows.uptoBulk])
   |string=>
    obtain⟨s,rfl,hl,hx⟩:=Rx hu h
    simp only at hx;subst hx
    exact .one (.str s.data.toList) (by unfold Sh;rw[hu];exact⟨s.data.toList,rfl,by rw[Array.length_toList];exact hl⟩) (by simp[pm,Rows.uptoBulk])
   |struct fs=>
    obtain⟨hl,xs,hxs,hx⟩:=Ry hu h
    simp only at hx;subst hx
    obtain⟨_,l,k1,k2,k3,k4⟩:=LT ih (hF.st t htL fs hu).2 (by omega) (hF.st t htL fs hu).1 hxs
    refine⟨l,by omega,λi q v hq hv=>k2 i q v hq (by rw[vaD];exact hv),by unfold Sh;rw[hu];exact k3,by simp only[Rows.uptoBulk];omega⟩
   | slice e =>
    obtain⟨hz,heL⟩:=hF.sl t htL e hu
    rcases ST hu h with⟨rfl,hx⟩|⟨a,len,cap,elems,rest,rfl,hlc,hcm,hx,hm⟩
    ·simp only at hx;subst hx
     exact .one .sliceNil (by unfold Sh;rw[hu];exact⟨[],rfl,by simp,by simp⟩) (by simp[pm,Pu,Rows.uptoBulk])
    simp only at hx;subst hx
    have hel:elems.length=len:=by simpa using Lib.mapM_length hm
    have hat:∀i,i<len->∃x:List PVal,∃ci y,elems[i]? =some y/\W.cells? base (a.add (i * P.cellsOf e)) (P.cellsOf e)=some ci/\x.length=ci.length/\(∀(k:Nat) q v,x[k]? =some q->ci[k]? =some v->VR (AA W) [] W q v)/\Sh P fuel e x/\OC x<=Rows.uptoBulk y.1:=λi hi=>by
     obtain⟨y,hy,hb⟩:=Lib.mapM_at hm i i (by simp[hi])
     obtain⟨ci,hci,hd⟩:=va9.1 hb
     obtain⟨x,k1,k2,k3,k4⟩:=ih e heL ci y.1 y.2 hd
     exact⟨x,ci,y,hy,hci,k1,k2,k3,k4⟩
    obtain⟨es,hes,hq⟩:=P6 hat
    have hbulk:Pu es<=Rows.uptoBulkAll (elems.map (·.1)):=PN (by simp[hes,hel]) λi x d hx hd=>by
     obtain⟨ci,y,hy,_,_,_,_,hle⟩:=hq i x hx
     simp only[vah,hy,van,vat]at hd
     subst hd;exact hle
    have hsh:Sh P (fuel+1) t [.slice es]:=by
     unfold Sh;rw[hu]
     refine⟨es,rfl,by omega,λx hx=>?_⟩
     obtain⟨i,hi⟩:=vaW.1 hx
     obtain⟨_,_,_,_,_,_,hs,_⟩:=hq i x hi
     exact hs
    refine .one ?_ hsh (by simp only[pm,Rows.uptoBulk];omega)
    by_cases h0:len=0
    ·subst h0
     obtain rfl:es=[]:=vag hes
     exact .sliceE a cap
    ·have hcell:∀i,i<len->∀k,k<P.cellsOf e->∃(x:List PVal) (ci:List Value),es[i]? =some x/\W.cell? ((a.add (i * P.cellsOf e)).add k)=ci[k]?/\ci.length=P.cellsOf e/\x.length=ci.length/\(∀(k:Nat) q v,x[k]? =some q->ci[k]? =some v->VR (AA W) [] W q v):=λi hi k hk=>by
      have hx:es[i]? =some es[i]:=vaa (by omega)
      obtain⟨ci,y,hy,hc,hl,hv,_,_⟩:=hq i _ hx
      obtain⟨_,hcl,hcc⟩:=World.cells?_some hc
      exact⟨_,ci,hx,hcc k hk,hcl,hl,hv⟩
     have hspot:a.spot=none:=by
      obtain⟨x,ci,_,h2,h3,_,_⟩:=hcell 0 (by omega) 0 hz
      rw[vcE,Ny,Ny,vaa (by omega)]at h2
      exact Rv h2
     obtain⟨ab,ao,asp⟩:=a
     simp only at hspot;subst hspot
     have hadd:∀i k,((⟨ab,ao,none⟩:Addr).add (i * P.cellsOf e)).add k=⟨ab,ao+i * P.cellsOf e+k,none⟩:=λi k=>by
      rw[Nx ⟨ab,ao,none⟩ _ rfl,Nx _ _ rfl]
     have hcl:∀(i:Nat) x (k:Nat) q,es[i]? =some x->x[k]? =some q->∃v,W.cell? ⟨ab,ao+i * P.cellsOf e+k,none⟩=some v/\VR (AA W) [] W q v:=λi x k q hx hqk=>by
      have hi:i<len:=by have:=ah hx;omega
      obtain⟨ci,y,hy,hc,hl,hv,_,_⟩:=hq i x hx
      obtain⟨_,hcl,hcc⟩:=World.cells?_some hc
      have hk:k<P.cellsOf e:=by have:=ah hqk;omega
      have hck:ci[k]? =some ci[k]:=vaa (by omega)
      refine⟨ci[k],?_,hv k q _ hqk hck⟩
      rw[<-hadd,hcc k hk,hck]
     have hlen:∀(i:Nat) x,es[i]? =some x->x.length=P.cellsOf e:=λi x hx=>by
      obtain⟨ci,y,hy,hc,hl,_,_,_⟩:=hq i x hx
      exact hl.trans (World.cells?_some hc).2.1
     obtain⟨c,ty,fr,hh⟩:∃c ty fr,W.heap[ab]? =some (.cells c ty fr):=by
      obtain⟨x,ci,h1,h2,h3,h4,_⟩:=hcell 0 (by omega) 0 hz
      rw[hadd,vaa (by omega)]at h2
      unfold World.cell? at h2
      split at h2
      ·rename_i c ty fr hh;exact⟨c,ty,fr,hh⟩
      ·cases h2
     have hin:ao+es.length * P.cellsOf e<=c.size:=by
      obtain⟨x,ci,h1,h2,h3,h4,_⟩:=hcell (len - 1) (by omega) (P.cellsOf e - 1) (by omega)
      rw[hadd,vaa (by omega),cell_of_row W _ _ c ty fr hh]at h2
      have:=(vab.1 h2).1
      have e1:(len - 1) * P.cellsOf e+P.cellsOf e=len * P.cellsOf e:=by
       have:len=(len - 1)+1:=by omega
       conv=>rhs;rw[this,vaT,vbS]
      rw[hes];omega
     have:=VR.slice (Γ:=AA W) (bs:=[]) (w:=W) es ab ao cap c.size (P.cellsOf e) (λi k=>(W.cell? ⟨ab,ao+i * P.cellsOf e+k,none⟩).getD undef) hz (by omega) (LF hh) hin hlen
      (λi x k q hx hqk=>by obtain⟨v,h1,_⟩:=hcl i x k q hx hqk;rw[h1];rfl)
      (λi x k q hx hqk=>by obtain⟨v,h1,h2⟩:=hcl i x k q hx hqk;rw[h1];exact h2)
     rw[hes]at this
     exact this
   |_=>exact other λl=>by unfold Sh;rw[hu];trivial
end
end Go.Proofs.YtankopenjcbeeaaGreatDoor
namespace Go.Proofs.YtankopenjcbeeaaGreatDoor
open Go
set_option linter.unusedVariables false
abbrev In(P:Program)(t:TypeId){α:Type}(c:α->List PVal):Prop:=∀n l,Sh P n t l->∃x,l=c x
section
variable{P:Program}{t e:TypeId}{α:Type}{c:α->List PVal}
theorem qb9(hu:P.underlying t=some .string):In P t cS:=λn l h=>by
 cases n with
 |zero=>exact h.elim
 |succ n=>
  unfold Sh at h
  rw[hu]at h
  obtain⟨i,rfl,_⟩:=h
  exact⟨i,rfl⟩
end
section
variable{H:Type}{enc:TypeId×Value->H}{P:Program}{W:World}{base b0:Nat}{sp:Nat->Bool}{held:Bool}{t e:TypeId}{v:Value}{d:DataW H}{p:List MemPlace}{L:List TypeId}
theorem Vw(hF:RK P L)(hL:t∈L)(hc:v.cells.toList=[v])(h:DataW.Trod enc P W base sp held t v d p):∃n q,VR (AA W) [] W q v/\Sh P n t [q]/\pm q<=Rows.uptoBulk d:=by
 obtain⟨n,h⟩:=h
 rw[hc]at h
 obtain⟨l,h1,h2,h3,h4⟩:=Sk hF n t hL _ d p h
 match l,h1 with
 |[q],_=>exact⟨n,q,h2 0 q v rfl rfl,h3,by simpa[OC]using h4⟩
theorem TD(hF:RK P L)(hL:t∈L)(hu:P.underlying t=some .string)(h:DataW.Trod enc P W base sp held t v d p)(hv:Value.okWide P W .any b0 t v):∃n q,VR (AA W) [] W q v/\Sh P n t [q]/\pm q<=Rows.uptoBulk d:=by
 unfold Value.okWide at hv
 rw[hu]at hv
 have hv':Cell.okWide P W .any b0 t v:=hv
 unfold Cell.okWide at hv'
 refine Vw hF hL ?_ h
 cases v<;>simp[hu,Cell.ok]at hv'<;>rfl
theorem VB{α:Type}{c:α->List PVal}{f:α->PVal}{q:PVal}{x:α}(hc:c x=[f x])(h:[q]=c x):q=f x:=by
 rw[hc]at h
 exact List.head_eq_of_cons_eq h
end
def Tm(n:Nat):ax->Prop
 |.dead=>True
 |.cells cs _=>eP n cs
 |.map es=>∀x∈es,x.1.cl n/\x.2.cl n
def Hg(n:Nat):List ax->Prop
 |[]=>True
 |B::l=>Tm n B/\Hg n l
theorem NO{k:Nat}:∀{ps qs:List PVal},If ps qs=qs->eP k qs->uk k ps qs
 |[],[],_,_=>trivial
 |[],_::_,h,_=>by simp[If]at h
 |p::ps,[],h,_=>by simp[If]at h
 |p::ps,q::qs,h,hc=>by
  obtain⟨hc1,hc2⟩:=hc
  cases q<;>simp only[If,vbC]at h<;>refine⟨?_,NO h.2 hc2⟩<;>first|exact .inl rfl|exact .inr ⟨h.1,hc1⟩
theorem QT{k:Nat}{p q:ax}(h:uv p q=q)(hc:Tm k q):pC k p q:=by
 cases q with
 |dead=>cases p<;>simp[pC]
 | cells cs own =>
  cases p with
  | cells cs0 own0 =>
   simp only[uv,ax.cells.injEq]at h
   obtain⟨rfl,h⟩:=h
   refine⟨rfl,hc,λx hx=>?_⟩
   split at h
   ·rename_i ha
    simpa using vaq.1 ha x hx
   ·rw[h];exact hx
  |map es=>simp[uv]at h
  |dead=>simp[uv]at h
 |map es=>
  have h':p=.map es:=by cases p<;>simp[uv]at h ⊢<;>exact h
  subst h'
  exact⟨rfl,hc⟩
theorem Fx{k:Nat}:∀{ps qs:List ax},MO (ps.take qs.length) qs=qs->Hg k qs->cU k ps qs
 |_,[],_,_=>by unfold cU;trivial
 |[],_::_,h,_=>by simp[MO]at h
 |p::ps,q::qs,h,hc=>by
  obtain⟨hc1,hc2⟩:=hc
  rw[vbe,List.take_succ_cons]at h
  simp only[MO,vbC]at h
  exact⟨QT h.1 hc1,Fx h.2 hc2⟩
def XS(m:Nat)(st st0:ay):Prop:=If st.tmps st0.tmps=st0.tmps/\MO (st.boxes.take st0.boxes.length) st0.boxes=st0.boxes/\(st0.own.all λx=>decide (x∈st.own))=true/\decide (m % 1000<=st0.boxes.length)=true/\
 eP st0.boxes.length st0.tmps/\Hg st0.boxes.length st0.boxes
theorem XS.weak{P:Program}{m:Nat}{st st0:ay}(h:XS m st st0):pJ P m st st0:=by
 obtain⟨h1,h2,h3,h4,h5,h6⟩:=h
 exact .of_less ⟨NO h1 h5,Fx h2 h6,λx hx=>by simpa using vaq.1 h3 x hx⟩ (by simpa using h4)
def XT(m:Nat)(e0:Exit)(st0:ay):Exit->List It->ay->Prop:=λe _ st=>e0=e/\XS m st st0
section
variable{P:Program}{GE:List (Nat×List PVal)}{A:List Nat}{m:Nat}
theorem VE(hf:P.follows .mixedOrders=true){c:Code}{e0:Exit}{st0 st:ay}(sc:List It)(h:Ha P GE A m c sc st (XT m e0 st0)):cC P GE m c (EX e0 st0) st:=
 (fu hf c sc st _ h).mono λ_ _ hx=>by
  obtain⟨_,hx⟩:=hx
  exact⟨st0,hx.2.weak,hx.1.symm,rfl⟩
end
mutual
theorem PP{n m:Nat}(hnm:n<=m):∀(p:PVal),p.cl n->p.cl m
 |.undef,_=>by simp[PVal.cl]
 |.int _ _,_=>by simp[PVal.cl]
 |.bool _,_=>by simp[PVal.cl]
 |.str _,_=>by simp[PVal.cl]
 |.val _,_=>by simp[PVal.cl]
 |.agg cs,h=>by simp only[PVal.cl]at h ⊢;exact pL hnm cs h
 |.tuple cs,h=>by simp only[PVal.cl]at h ⊢;exact pL hnm cs h
 |.slice es,h=>by simp only[PVal.cl]at h ⊢;exact LM hnm es h
 |.eptr cs,h=>by simp only[PVal.cl]at h ⊢;exact pL hnm cs h
 |.bptr i _,h=>by simp only[PVal.cl]at h ⊢;omega
 |.bsl i _ _,h=>by simp only[PVal.cl]at h ⊢;omega
 |.mapr i,h=>by simp only[PVal.cl]at h ⊢;omega
 |.nptr i _,h=>by simp only[PVal.cl]at h ⊢;omega
 |.func _ f c,h=>by simp only[PVal.cl]at h ⊢;exact⟨pL hnm f h.1,pL hnm c h.2⟩
theorem pL{n m:Nat}(hnm:n<=m):∀(l:List PVal),eP n l->eP m l
 |[],_=>by simp[eP]
 |p::l,h=>by simp only[eP]at h ⊢;exact⟨PP hnm p h.1,pL hnm l h.2⟩
theorem LM{n m:Nat}(hnm:n<=m):∀(l:List (List PVal)),ut n l->ut m l
 |[],_=>by simp[ut]
 |p::l,h=>by simp only[ut]at h ⊢;exact⟨pL hnm p h.1,LM hnm l h.2⟩
end
theorem cT{n:Nat}{l:List PVal}(h:eP 0 l):eP n l:=pL (va6 n) l h
theorem up{n:Nat}{p:PVal}(h:p.cl 0):p.cl n:=PP (va6 n) p h
theorem bH{i n:Nat}(h:decide (i<n)=true):i<n:=vaP h
theorem Hh{n:Nat}{α:Type}(f:α->PVal)(h:∀x,(f x).cl 0)(l:List (ac×α)):Tm n (.map (bA f l)):=by
 intro x hx
 obtain⟨y,_,rfl⟩:=vak.1 hx
 exact⟨vzz,up (h y.2)⟩
theorem qeT(m:Nat)(st:ay)(h4:decide (m % 1000<=st.boxes.length)=true)(h5:eP st.boxes.length st.tmps)(h6:Hg st.boxes.length st.boxes):st.tmps=st.tmps/\st.boxes=st.boxes/\true=true/\decide (m % 1000<=st.boxes.length)=true/\eP st.boxes.length st.tmps/\Hg st.boxes.length st.boxes:=⟨rfl,rfl,rfl,h4,h5,h6⟩
def WI:TypeDesc->Bool
 |.struct _=>true
 |.array _ _=>true
 |_=>false
theorem kO{P:Program}{t:TypeId}{l r:List PVal}(h:(P.underlying t).any WI=true)(hc:P.cellsOf t=l.length):aZ P t (l++r)=some (.agg l):=by
 unfold aZ
 split
 ·rw[vaJ (by rw[hc];simp),hc,vcd]
 ·rw[vaJ (by rw[hc];simp),hc,vcd]
 ·rename_i d h1 h2 hd
  rw[hd]at h
  cases d<;>simp_all[WI]
 ·rename_i hd;rw[hd]at h;cases h
theorem Dp{k:Nat}{B:ax}:∀{ps qs:List ax} {i:Nat},qs.length<=i->cU k ps qs->cU k (ps.set i B) qs
 |_,[],_,_,_=>by unfold cU;trivial
 |[],_::_,_,_,h=>by simpa using h
 |p::ps,q::qs,0,hi,_=>by simp at hi
 |p::ps,q::qs,i+1,hi,h=>by
  simp only[List.set_cons_succ]
  exact⟨h.1,Dp (by simpa using hi) h.2⟩
def GA(P:Program)(rs:List ResultVar)(r:PVal)(ro:List (Nat×TypeId))(H':List ax)(st:ay):Prop:=
 ∃(t:Tmp) (ty:TypeId) (i off:Nat) (cs:List PVal) (own:List (Nat×TypeId)) (l:List PVal),rs=[.cell t ty]/\(∃fs,P.underlying ty=some (.struct fs))/\st.tmps.getD t .undef=.bptr i off/\st.boxes[i]? =some (.cells cs own)/\
  r=.agg l/\aZ P ty (cs.drop off)=some (.agg l)/\r.cl H'.length/\H'.length<=i/\cU H'.length st.boxes H'/\(∀x∈ro,(off+x.1,x.2)∈own/\x.1<l.length)/\(ro.map (·.1)).Nodup
def Qi(P:Program)(rs:List ResultVar)(r:PVal)(ro:List (Nat×TypeId))(H':List ax)(e:Exit)(st:ay):Prop:=
 XF P rs r ro H' e st\/((e=.normal\/e=.ret)/\GA P rs r ro H' st)
section
variable{P:Program}{E:ko}{Γ:aP}{bs:bg}{ow:Nat->Option fR}{w:World}{a:Array Value}{st:ay}
theorem SR.finishCellG(h:SR P E Γ bs ow w a st){fn:Func}{r:PVal}{ro:List (Nat×TypeId)}{H':List ax}(hr:GA P fn.results.toList r ro H' st):∃v ow',(results fn a).run P w=.ok v w/\SR P E Γ (bs.take H'.length) ow' w #[v] ⟨[r],H',ro.map λx=>((0,x.1),x.2)⟩:=by
 obtain⟨t,ty,i,off,cs,own,l,hrs,⟨fs,hfs⟩,ht,hB,rfl,hp,hcl,hi,hbl,hro,hnd⟩:=hr
 have hrv:EI P st fn.results.toList=some (.agg l):=by
  rw[hrs]
  show gO P ty (st.tmps.getD t .undef) st.boxes=_
  rw[ht]
  simp only[gO,hB,hp]
 obtain⟨v,e1,e2,_⟩:=j5 h hrv
 have hvt:=h.getD t
 rw[ht]at hvt
 generalize hva:a.getD t undef=vt at hvt
 cases hvt with
 |bptr _ _ b hb=>
 obtain⟨v2,q1,q2,q3⟩:=Ev h hb hB hp
 have hvv:v2=v:=by
  have hres:fn.results=#[.cell t ty]:=by
   have:fn.results=fn.results.toList.toArray:=by simp
   rw[this,hrs]
  have hrun:(results fn a).run P w=.ok v2 w:=by
   simp[results,hres,asAddr]
   have hva':a[t]?.getD undef=.pointer (some ⟨b,off,none⟩):=by rw[<-vas];exact hva
   rw[hva']
   simp[q1]
  rw[e1]at hrun
  cases hrun
  rfl
 subst hvv
 have g1:=h.pushed e2
 obtain⟨ow',g2⟩:=SR.takeOwns (off:=off) (d:=a.size) (u:=v2) hb (by simp) ro g1 hB (λx hx=>(hro x hx).1) hnd λx hx=>by
  have:=q3 ⟨_,hfs,vzz⟩ x.1 (hro x hx).2
  obtain⟨v',z1,_⟩:=h.ob i (off+x.1) x.2 cs own b hB (hro x hx).1 hb
  exact⟨v',this.trans z1,z1⟩
 refine⟨v2,s8 (λk=>(a.size,k)) ro ow',e1,?_⟩
 exact g2.finish (H':=H') (src:=λk=>(a.size,k)) (ro:=ro) e2 hcl (Dp hi hbl) (λx hx=>⟨vaV _ (vb0.2 (vak.2 ⟨x,hx,rfl⟩)),λu v' hu hv'=>by simp at hu;subst hu;exact hv'⟩) (λx _ y _ e=>by simpa using e)
end
theorem C.ofSatG{P:Program}{GE:List (Nat×List PVal)}{m:Nat}{f:FuncId}{fn:Func}{c:Code}{args:List PVal}{oa:List ((Nat×Nat)×TypeId)}{H:List ax}{r:PVal}{ro:List (Nat×TypeId)}{H':List ax}(hm:m % 1000=H.length)(hm0:m≠0)
  (hcall:∀vs w,(callFunc f vs).run P w=.ok (.enter f vs) w) (hfn:P.funcs[f]? =some fn) (hb:fn.body=some c) (hH:H'.length=H.length)
  (hp:cC P GE m c (Qi P fn.results.toList r ro H') ⟨args++List.replicate (fn.ntmps - args.length) .undef,H,oa⟩):C P GE f args oa H r ro H':=by
 refine⟨hcall,λΓ bs ow w vs h=>calls_of_wp hfn hb ?_⟩
 have hbl:bs.length=H.length:=h.bl
 have h0:SR P ⟨GE,Γ,w,aR bs ow⟩ Γ bs ow w (vs++Array.replicate (fn.ntmps - vs.size) undef) ⟨args++List.replicate (fn.ntmps - args.length) .undef,H,oa⟩:=by
  have hsz:vs.size=args.length:=h.sz
  exact{h with
   sz:=by simp[hsz]
   tm:=λt p v hp hv=>by
    simp only at hp
    by_cases ht:t<args.length
    ·rw[vac ht]at hp
     rw[vaH (by omega)]at hv
     exact h.tm t p v hp hv
    ·rw[vae (by omega),vaE]at hp
     split at hp<;>cases hp
     exact .undef v
   ot:=λt k e he=>by
    obtain⟨u,v,h1,h2⟩:=h.ot t k e he
    exact⟨u,v,by rw[vaH (vab.1 h1).1];exact h1,h2⟩}
 have hE:mj GE m ⟨GE,Γ,w,aR bs ow⟩:={
  ge:=rfl
  low:=λb n hb=>h.lt_of_ghost hb
  nt:=λh0=>absurd h0 hm0
  gl:=λg cs hg=>(h.gl g cs hg).restrict (n:=0) (by simp only[PVal.cl];exact h.gc g cs hg) (λi b hi _=>absurd hi (vaw _))}
 have hwp:=hp none ⟨GE,Γ,w,aR bs ow⟩ bs ⟨vs++Array.replicate (fn.ntmps - vs.size) undef,[]⟩ w hE (by rw[hbl,hm]) ⟨Γ,bs,ow,h0,λi _=>rfl⟩
 refine wp_mono hwp λe a w' hq=>?_
 obtain⟨hd,st,⟨Γ1,bs1,ow1,hS,hk⟩,hQ⟩:=hq
 have htake:H'.length<=bs1.length->bs1.take H'.length=bs:=by
  intro hl1
  refine vaL λi=>?_
  by_cases hi:i<H'.length
  ·rw[vao hi];exact hk i (by omega)
  ·rw[vb7 (by omega),vav (by omega)]
 have hlen:∀{B:List ax},cU H'.length B H'->B.length=bs1.length->H'.length<=bs1.length:=λhB he=>by
  obtain⟨hl,_⟩:=kT hB;omega
 have key:(EI P st fn.results.toList=some r/\r.cl H'.length/\cU H'.length st.boxes H'/\(∀x∈ro,(cJ fn.results.toList x.1,x.2)∈st.own/\nl st fn.results.toList x.1)/\
   (∀x∈ro,∀y∈ro,cJ fn.results.toList x.1=cJ fn.results.toList y.1->x.1=y.1))->
   a.defers=[]/\∃v,(results fn a.tmps).run P w'=.ok v w'/\∃v' Γ' ow',Ending.returned v=.returned v'/\SR P ⟨GE,Γ,w,aR bs ow⟩ Γ' bs ow' w' #[v'] ⟨[r],H',ro.map λx=>((0,x.1),x.2)⟩:=by
  rintro⟨k1,k2,k3,k4,k5⟩
  obtain⟨v,e1,e2,e3⟩:=j5 hS k1
  refine⟨hd,v,e1,v,Γ1,s8 (cJ fn.results.toList) ro ow1,rfl,?_⟩
  have hf:=hS.finish (H':=H') (src:=cJ fn.results.toList) (ro:=ro) e2 k2 k3 (λx hx=>⟨(k4 x hx).1,λu v'=>e3 x.1 u v' (k4 x hx).2⟩) k5
  rw[htake (hlen k3 hS.bl.symm)]at hf
  exact hf
 have key2:GA P fn.results.toList r ro H' st->
   a.defers=[]/\∃v,(results fn a.tmps).run P w'=.ok v w'/\∃v' Γ' ow',Ending.returned v=.returned v'/\SR P ⟨GE,Γ,w,aR bs ow⟩ Γ' bs ow' w' #[v'] ⟨[r],H',ro.map λx=>((0,x.1),x.2)⟩:=by
  intro hc
  obtain⟨v,ow',e1,e2⟩:=hS.finishCellG hc
  obtain⟨_,_,_,_,_,_,_,_,_,_,_,_,_,_,_,hbl2,_,_⟩:=hc
  rw[htake (hlen hbl2 hS.bl.symm)]at e2
  exact⟨hd,v,e1,v,Γ1,ow',rfl,e2⟩
 rcases hQ with hQ|⟨he,hQ⟩
 ·cases e with
  |normal=>exact key hQ
  |ret=>exact key hQ
  |exit id=>exact hQ.elim
  |goto l=>exact hQ.elim
  |panic c=>exact hQ.elim
  |outgrown=>exact hQ.elim
 ·rcases he with rfl|rfl
  ·exact key2 hQ
  ·exact key2 hQ
def Oi(P:Program)(rs:List ResultVar)(ro:List (Nat×TypeId))(n:Nat)(st:ay):Bool:=match rs with
 | [.cell t ty] => match P.underlying ty with
  | some (.struct _) => match st.tmps.getD t .undef with
   |.bptr i off=>decide (n<=i)&&match st.boxes[i]? with
    |some (.cells _ own)=>ro.all (λx=>decide ((off+x.1,x.2)∈own)&&decide (x.1<P.cellsOf ty))&&na (ro.map (·.1))
    |_=>false
   |_=>false
  |_=>false
 |_=>false
def RJ(P:Program)(rs:List ResultVar)(r:PVal)(ro:List (Nat×TypeId))(H':List ax)(st:ay):Prop:=match CL rs ro st with
 |true=>match EI P st rs with
  |some p=>p=r/\r.cl H'.length/\MO (st.boxes.take H'.length) H'=H'/\Hg H'.length H'
  |none=>False
 | false => match Oi P rs ro H'.length st with
  |true=>match EI P st rs with
   |some p=>p=r/\r.cl H'.length/\MO (st.boxes.take H'.length) H'=H'/\Hg H'.length H'/\r.isAgg=true
   |none=>False
  |false=>False
def VT(P:Program)(rs:List ResultVar)(r:PVal)(ro:List (Nat×TypeId))(H':List ax):Exit->List It->ay->Prop:=λe _ st=>match e with
 |.normal=>RJ P rs r ro H' st
 |.ret=>RJ P rs r ro H' st
 |_=>False
theorem Nm{rs:List ResultVar}{ro:List (Nat×TypeId)}{st:ay}(hc:CL rs ro st=true):(∀x∈ro,(cJ rs x.1,x.2)∈st.own/\nl st rs x.1)/\(∀x∈ro,∀y∈ro,cJ rs x.1=cJ rs y.1->x.1=y.1):=by
 have:=KA (r:=.undef) (P:=default) (rs:=rs) (ro:=ro) (st:=⟨st.tmps,st.boxes,st.own⟩) hc
 by_cases hr:EI default st rs=some .undef
 ·exact(this hr vzz).2.2.2
 ·clear this
  unfold CL at hc
  rw[vaf]at hc
  obtain⟨c1,c2⟩:=hc
  refine⟨λx hx=>?_,λx hx y hy hxy=>?_⟩
  ·have:=vaq.1 c1 x hx
   rw[vaf]at this
   refine⟨by simpa using this.1,?_⟩
   have h2:=this.2
   clear this c1 c2 hr
   rcases rs with _|⟨y,_|⟨z,rs⟩⟩
   ·simp at h2
   ·cases y with
    |tmp t=>trivial
    |cell t ty=>cases h2
   ·have key:∀o:Option ResultVar,(match o with
     |some (.tmp t)=>(st.tmps.getD t .undef).isSlice
     |_=>false)=true->(match o with
     |some (.tmp t)=>(st.tmps.getD t .undef).isSlice=true
     |_=>False):=by
     intro o
     cases o with
     |none=>intro h;cases h
     |some q=>cases q<;>intro h<;>first|exact h|cases h
    cases y with
    |tmp t=>exact key _ h2
    |cell t ty=>exact key _ h2
  ·have:=vaq.1 (vaq.1 c2 x hx) y hy
   simpa[hxy]using this
theorem RJ.to{P:Program}{rs:List ResultVar}{r:PVal}{ro:List (Nat×TypeId)}{H':List ax}{st:ay}{e:Exit}(he:e=.normal\/e=.ret)(h:RJ P rs r ro H' st):Qi P rs r ro H' e st:=by
 unfold RJ at h
 split at h
 ·rename_i hc
  split at h
  ·rename_i p hp
   obtain⟨rfl,hcl,hfg,hcb⟩:=h
   obtain⟨s1,s2⟩:=Nm hc
   have:EI P st rs=some p/\p.cl H'.length/\cU H'.length st.boxes H'/\_/\_:=⟨hp,hcl,Fx hfg hcb,s1,s2⟩
   rcases he with rfl|rfl<;>exact .inl this
  ·exact h.elim
 ·split at h
  ·rename_i hc
   split at h
   ·rename_i p hp
    obtain⟨rfl,hcl,hfg,hcb,hagg⟩:=h
    refine .inr ⟨he,?_⟩
    unfold Oi at hc
    split at hc
    ·rename_i t ty _
     split at hc
     ·rename_i fs hfs
      split at hc
      ·rename_i i off ht
       rw[vaf,vap]at hc
       obtain⟨hi,hc⟩:=hc
       split at hc
       ·rename_i cs own hB
        rw[vaf]at hc
        obtain⟨c1,c2⟩:=hc
        have hpl:aZ P ty (cs.drop off)=some p:=by
         have hp':gO P ty (st.tmps.getD t .undef) st.boxes=some p:=hp
         rw[ht]at hp'
         simpa only[gO,hB]using hp'
        cases p<;>simp only[PVal.isAgg]at hagg<;>first|(cases hagg;done)|skip
        rename_i l
        have hlen:l.length=P.cellsOf ty:=by
         have hq:=hpl
         unfold aZ at hq
         rw[hfs]at hq
         simp only at hq
         split at hq
         ·rename_i hh;cases hq;rw[vbb];omega
         ·cases hq
        refine⟨t,ty,i,off,cs,own,l,rfl,⟨fs,hfs⟩,ht,hB,rfl,hpl,hcl,hi,Fx hfg hcb,λx hx=>?_,iT c2⟩
        have:=vaq.1 c1 x hx
        simp only[vaf,vap]at this
        exact⟨this.1,by rw[hlen];exact this.2⟩
       ·cases hc
      ·cases hc
     ·cases hc
    ·cases hc
   ·exact h.elim
  ·exact h.elim
theorem VT.to{P:Program}{rs:List ResultVar}{r:PVal}{ro:List (Nat×TypeId)}{H':List ax}{e:Exit}{sc:List It}{st:ay}(h:VT P rs r ro H' e sc st):Qi P rs r ro H' e st:=by
 unfold VT at h
 split at h
 ·exact h.to (.inl rfl)
 ·exact h.to (.inr rfl)
 ·exact h.elim
section
variable{X Y:Type}
def qca(F:(X->Option Y)->X->Option Y):Nat->X->Option Y
 |0,_=>none
 |n+1,x=>F (qca F n) x
end
theorem rW(l:List (Nat×TypeId)):l=l:=rfl
theorem rM(l:List (PVal×PVal)):l=l:=rfl
theorem xR(ρ:List Nat)(p:PVal)(h:p.cl 0):uP ρ p p:=.refl p h
theorem xB(ρ:List Nat)(i j off:Nat)(h:ρ[i]? =some j):uP ρ (.bptr j off) (.bptr i off):=.bptr i j off h
theorem xM(ρ:List Nat)(i j:Nat)(h:ρ[i]? =some j):uP ρ (.mapr j) (.mapr i):=.mapr i j h
theorem xN(ρ:List Nat)(i j:Nat)(T:TypeId)(h:ρ[i]? =some j):uP ρ (.nptr j T) (.nptr i T):=.nptr i j T h
theorem xF(ρ:List Nat)(fn:Fn)(f c f' c':List PVal)(h:CP ρ f f')(h':CP ρ c c'):uP ρ (.func fn f c) (.func fn f' c'):=.func fn f c f' c' h.len h'.len h.get h'.get
theorem xA(ρ:List Nat)(f f':List PVal)(h:CP ρ f f'):uP ρ (.agg f) (.agg f'):=.agg f f' h.len h.get
theorem cP{a a':PVal}{l l':List PVal}(h:a=a')(h':l=l'):a::l=a'::l':=by rw[h,h']
open Go Go.Shelf Go.RowKit Go.Lib
variable{P:Program}{ρ:Ren}
theorem Mn{w:World}(base:Nat)(t ty e:TypeId)(i:TypeInfo)(z:Value)(ht:P.underlying t=some (.slice e))(hi:P.info? e=some i)(hz:i.zero=some z)
  (v:Value) (n:Nat) (xs:List Value) (hown:w.ownsRow base e i.size v n xs)
  (a:Addr) (m c:Nat) (news:List Value) (hl:news.length=m * i.size) (hnews:∀j u,news[j]? =some u->w.cell? (a.add j)=some u) (h1:∀u∈news,u.oneCell'=true)
  (h63:n+m<=maxLen) (hbytes:(n+m) * i.bytes<=140737488355328) {v':Value} {w':World} (hr:(Builtin.append_ #[t,t] ty #[v,.slice (some a) m c]).run P w=.ok v' w'):w.drawn<=w'.drawn:=by
 have hsmall:n+m<=9223372036854775807:=by simp only[maxLen]at h63;omega
 rcases hown.2 with⟨rfl,rfl⟩|⟨g,cap,cur,rfl,hbg,hg,hnc,hcm,hcs,htake⟩
 ·by_cases hm:m=0
  ·subst hm
   have hn:news=[]:=vag (by simpa using hl)
   subst hn
   have:(Builtin.append_ #[t,t] ty #[.slice none 0 0,.slice (some a) 0 c]).run P w=.ok (.slice none 0 0) w:=by
    simp[Builtin.append_,run_underlying ht,Go.sizeOf,typeInfo,hi,Builtin.lenOf,Builtin.firstCells,loadCells,loadCellsFrom]
   rw[this]at hr;cases hr;exact vaj _
  ·rw[run_append_nil (P:=P) w t ty e i z ht hi hz a m c news hl hnews (by omega) (by omega) (by have hb:=hbytes;simp only[vaD]at hb;omega)]at hr
   cases hr;exact vb3 _
 ·by_cases hroom:n+m<=cap
  ·have hfit:n * i.size+news.length<=cur.size:=by rw[hl,hcs,<-vaT];exact vaU _ hroom
   rw[run_append_room (P:=P) w t ty e i ht hi g n cap cur hg a m c news hl hnews h1 hroom hfit]at hr
   cases hr;exact vaj _
  ·have holds:∀j u,xs[j]? =some u->w.cell? ((⟨g,0,none⟩:Addr).add j)=some u:=hown.cells (g:=g) rfl
   rw[run_append_grow (P:=P) w t ty e i z ht hi hz ⟨g,0,none⟩ n cap xs hown.1 holds a m c news hl hnews (by omega) (by omega) (growslice_fits (by omega) hbytes)]at hr
   cases hr;exact vb3 _
theorem KW(w:World){o:Oper}{a:Act}{K:Act->World->Prop}{Q:Exit->Act->World->Prop}(s x:Operand)(t:TypeId)
  (ho:o.op=.call {callee:=.builtin .append,args:=#[s,x],argTypes:=#[t,t]})
  (base:Nat) (e:TypeId) (i:TypeInfo) (z:Value) (size bytes:Nat) (ht:P.underlying t=some (.slice e)) (hi:P.info? e=some i) (hz:i.zero=some z)
  (hsize:i.size=size) (hby:i.bytes=bytes) (hzs:z.cells.size=size) (hsz:0<size)
  (v:Value) (n:Nat) (xs:List Value) (hs:a.eval s=v) (hown:w.ownsRow base e size v n xs)
  (ad:Addr) (m c:Nat) (news:List Value) (hx:a.eval x=.slice (some ad) m c) (hl:news.length=m * size) (hnews:∀j u,news[j]? =some u->w.cell? (ad.add j)=some u) (h1:∀u∈news,u.oneCell'=true)
  (h63:n+m<=maxLen) (hbytes:(n+m) * bytes<=140737488355328) (hbase:base<=w.heap.size)
  (h:∀v' w',w'.ownsRow base e size v' (n+m) (xs++news)->w.grownBy w' v.ownBlock->w.drawn<=w'.drawn->K (a.put o.dst v') w'):o.wp P a w K Q:=by
 obtain⟨v',w',hr,h2,h3,_⟩:=run_append_own (P:=P) w base t o.type e i z size bytes ht hi hz hsize hby hzs hsz v n xs hown ad m c news hl hnews h1 h63 hbytes hbase
 subst hsize
 subst hby
 have hd:=Mn (P:=P) base t o.type e i z ht hi hz v n xs hown ad m c news hl hnews h1 h63 hbytes hr
 unfold Oper.wp execOp
 simp only[ho,resolve,invoke,builtin,Sem.run_bind,Sem.run_pure,Result.andThen_ok,List.map_toArray,vaZ,vbX,hs,hx,hr]
 exact h v' w' h2 h3 hd
theorem um(w:World){ops:Array Oper}{rest:List Oper}{o:Oper}{a:Act}{Q:Exit->Act->World->Prop}(hgd:o.guard=none)(s x:Operand)(t:TypeId)
  (ho:o.op=.call {callee:=.builtin .append,args:=#[s,x],argTypes:=#[t,t]})
  (base:Nat) (e:TypeId) (i:TypeInfo) (z:Value) (size bytes:Nat) (ht:P.underlying t=some (.slice e)) (hi:P.info? e=some i) (hz:i.zero=some z)
  (hsize:i.size=size) (hby:i.bytes=bytes) (hzs:z.cells.size=size) (hsz:0<size)
  (v:Value) (n:Nat) (xs:List Value) (hs:a.eval s=v) (hown:w.ownsRow base e size v n xs)
  (ad:Addr) (m c:Nat) (news:List Value) (hx:a.eval x=.slice (some ad) m c) (hl:news.length=m * size) (hnews:∀j u,news[j]? =some u->w.cell? (ad.add j)=some u) (h1:∀u∈news,u.oneCell'=true)
  (h63:n+m<=maxLen) (hbytes:(n+m) * bytes<=140737488355328) (hbase:base<=w.heap.size)
  (h:∀v' w',w'.ownsRow base e size v' (n+m) (xs++news)->w.grownBy w' v.ownBlock->w.drawn<=w'.drawn->wpList P ops Q rest (a.put o.dst v') w'):wpList P ops Q (o::rest) a w:=
 wpList_plain hgd λ_ hK=>KW w s x t ho base e i z size bytes ht hi hz hsize hby hzs hsz v n xs hs hown ad m c news hx hl hnews h1 h63 hbytes hbase λv' w' h2 h3 h4=>hK _ _ (h v' w' h2 h3 h4)
set_option maxHeartbeats 2000000 in
set_option maxRecDepth 100000 in
theorem O3(L:SlLaysE0.n41 P ρ)(i0:TypeInfo)(z:Value)(size bytes:Nat)(hi:P.info? (ρ.t 23)=some i0)(hz0:i0.zero=some z)(hz1:i0.size=size)(hz2:i0.bytes=bytes)(hzs:z.cells.size=size)(hsz:0<size)
  (z23:∀w,(Go.sizeOf (ρ.t 23)).run P w=.ok size w) (b off n c:Nat) (news:List Value) (w:World) (hl:news.length=n * size) (hn:n<=maxLen) (hbig:n * bytes<=140737488355328)
  (hc:∀j u,news[j]? =some u->w.cell? ⟨b,off+j,none⟩=some u) (h1:∀u∈news,u.oneCell'=true):
  Calls P (ρ.f 41) #[.slice (some ⟨b,off,none⟩) n c] w λe w'=>∃v',e=.returned v'/\w'.ownsRow w.heap.size (ρ.t 23) size v' n news/\(Below w.heap.size w w'/\w.drawn<=w'.drawn):=by
 have mixed:=L.mixed;have t4:=L.t4;have a4:=L.a4;have z4:=L.z4;have v4:=L.v4;have t22:=L.t22;have a22:=L.a22;have z22:=L.z22;have v22:=L.v22
 have q22:∀(w:World) (a:Option Addr) (n c n' c':Nat),(binOp .eql (ρ.t 22) (.slice a n c) (.slice none n' c')).run P w=.ok (.bool a.isNone) w:=λw a n c n' c'=>Lib.run_eql_slice_nil w _ _ a n c n' c' L.t22
 have u22:∀w,Sem.run P (underlying (ρ.t 22)) w=.ok (TypeDesc.slice (ρ.t 23)) w:=run_underlying t22
 have A:Aside (∀j u,news[j]? =some u->w.cell? ⟨b,off+j,none⟩=some u):=hc
 clear hc
 obtain⟨_,_,FG⟩:=L.f41
 go_enter FG,SlBodyN.n41_ntmps ρ
 go_wp2_with (at_builtin;refine um _ rfl _ _ (ρ.t 22) rfl w.heap.size (ρ.t 23) i0 z size bytes t22 hi hz0 hz1 hz2 hzs hsz _ _ _ rfl (World.ownsRow_made w #[] 0 (vaj _) (va6 _) (by simp)) ⟨b,off,none⟩ n c news rfl ?qc1 ?qc2 ?qc3 ?qc4 ?qc5 ?qc6 ?_)
 case qc1=>exact hl
 case qc2=>
  intro j u hj
  rw[Addr.add_lit]
  exact Lib.cell?_alloc_some _ (A.out j u hj)
 case qc3=>exact h1
 case qc4=>rw[vaD];exact hn
 case qc5=>rw[vaD];exact hbig
 case qc6=>simp
 intro v' w1 hown hgrow hdr
 go_wp2
 go_ret
 refine⟨v',rfl,by simpa using hown,?_,hdr⟩
 exact((Below.refl _ w).alloc (vaj _) _).grown hgrow (by simp) (by intro k hk;simp[Value.ownBlock]at hk;omega)
set_option maxHeartbeats 2000000 in
set_option maxRecDepth 100000 in
theorem NI(L:SlLaysE0.n41 P ρ)(i0:TypeInfo)(z:Value)(hi:P.info? (ρ.t 23)=some i0)(hz0:i0.zero=some z)(hzs:z.cells.size=i0.size)(hsz:0<i0.size)
  (z23:∀w,(Go.sizeOf (ρ.t 23)).run P w=.ok i0.size w) (ad:Addr) (c:Nat) (w:World):
  Calls P (ρ.f 41) #[.slice (some ad) 0 c] w λr w'=>∃v',r=.returned v'/\w'.ownsRow w.heap.size (ρ.t 23) i0.size v' 0 []/\(Below w.heap.size w w'/\w.drawn<=w'.drawn):=by
 have mixed:=L.mixed;have t4:=L.t4;have a4:=L.a4;have z4:=L.z4;have v4:=L.v4;have t22:=L.t22;have a22:=L.a22;have z22:=L.z22;have v22:=L.v22
 have q22:∀(w:World) (a:Option Addr) (n c n' c':Nat),(binOp .eql (ρ.t 22) (.slice a n c) (.slice none n' c')).run P w=.ok (.bool a.isNone) w:=λw a n c n' c'=>Lib.run_eql_slice_nil w _ _ a n c n' c' L.t22
 have u22:∀w,Sem.run P (underlying (ρ.t 22)) w=.ok (TypeDesc.slice (ρ.t 23)) w:=run_underlying t22
 obtain⟨_,_,FG⟩:=L.f41
 go_enter FG,SlBodyN.n41_ntmps ρ
 go_wp2_with (at_builtin;refine um _ rfl _ _ (ρ.t 22) rfl w.heap.size (ρ.t 23) i0 z i0.size i0.bytes t22 hi hz0 rfl rfl hzs hsz _ _ _ rfl (World.ownsRow_made w #[] 0 (vaj _) (va6 _) (by simp)) ad 0 c [] rfl (by simp) (by simp) (by simp) (by simp) (by simp) (by simp) ?_)
 intro v' w1 hown hgrow hdr
 go_wp2
 go_ret
 exact⟨v',rfl,by simpa using hown,((Below.refl _ w).alloc (vaj _) _).grown hgrow (by simp) (by intro k hk;simp[Value.ownBlock]at hk;omega),hdr⟩
theorem QM(L:SlLaysE0.n41 P ρ)(i0:TypeInfo)(z:Value)(hi:P.info? (ρ.t 23)=some i0)(hz0:i0.zero=some z)(hzs:z.cells.size=i0.size)(hsz:0<i0.size)(hby:i0.bytes<=65536)
  (hcall:∀vs w,(callFunc (ρ.f 41) vs).run P w=.ok (.enter (ρ.f 41) vs) w):sT P (ρ.f 41) (ρ.t 23):=by
 have hc:P.cellsOf (ρ.t 23)=i0.size:=by simp[Program.cellsOf,hi]
 have z23:∀w,(Go.sizeOf (ρ.t 23)).run P w=.ok i0.size w:=λw=>by rw[<-hc];exact run_sizeOf w hi
 refine⟨hcall,λw x n news hx hl h1 hn=>?_⟩
 rw[hc]at hl ⊢
 rcases hx with⟨rfl,rfl⟩|⟨a,c,rfl,hcell⟩
 ·have hnews:news=[]:=vag (by simpa using hl)
  subst hnews
  refine(AnyE.slices_Clone_nil L 0 0 w).mono λr w' hr=>?_
  obtain⟨rfl,rfl⟩:=hr
  exact⟨_,rfl,World.ownsRow_nil _ _ _ _,Below.refl _ _,vaj _⟩
 ·by_cases h0:n=0
  ·subst h0
   have hnews:news=[]:=vag (by simpa using hl)
   subst hnews
   exact NI L i0 z hi hz0 hzs hsz z23 a c w
  ·have hpos:0<news.length:=by rw[hl];exact vcI (Nat.pos_of_ne_zero h0) hsz
   have hsp:a.spot=none:=by
    have hk:=hcell 0 _ (vaa hpos)
    unfold Addr.add at hk
    simp only[if_true]at hk
    unfold World.cell? at hk
    split at hk
    ·split at hk
     ·cases hk
     ·rename_i hs;simpa using hs
    ·cases hk
   obtain⟨b,off,sp⟩:=a
   simp only at hsp
   subst hsp
   refine O3 L i0 z i0.size i0.bytes hi hz0 rfl rfl hzs hsz z23 b off n c news w hl (by unfold maxLen;unfold bF at hn;omega) ?_ (λj u hj=>by rw[<-Addr.add_lit];exact hcell j u hj) h1
   have:n * i0.bytes<=1073741824 * 65536:=vce (by unfold bF at hn;omega) hby
   omega
theorem QL(L:SlLaysE0.n41 P ρ){f:FuncId}{e:TypeId}(hf:ρ.f 41=f)(he:ρ.t 23=e)(hq:(P.info? e).any (λi=>(i.zero.any λz=>z.cells.size==i.size)&&decide (0<i.size)&&decide (i.bytes<=65536))=true)
  (hcall:∀vs w,(callFunc f vs).run P w=.ok (.enter f vs) w):sT P f e:=by
 subst hf;subst he
 cases hi:P.info? (ρ.t 23)with
 |none=>rw[hi]at hq;cases hq
 | some i0 =>
  rw[hi]at hq
  simp only[Option.any_some,vaf,vap]at hq
  obtain⟨⟨h1,h2⟩,h3⟩:=hq
  cases hz:i0.zero with
  |none=>rw[hz]at h1;cases h1
  |some z=>
   rw[hz]at h1
   simp only[Option.any_some,va0]at h1
   exact QM L i0 z hi hz h1 h2 h3 hcall
end Go.Proofs.YtankopenjcbeeaaGreatDoor
namespace Go.Proofs.YtankopenjcbeeaaGreatDoor
open Go
def Bb{α:Type}(l:List α):Option (List α):=if l.length<=bF then some l else none
section
variable{P:Program}{GE:List (Nat×List PVal)}{T e:TypeId}{α:Type}{c:α->List PVal}
theorem NH{l r:List α}(h:Bb l=some r):l.length<=bF/\r=l:=by
 unfold Bb at h
 split at h
 ·rename_i hl;cases h;exact⟨hl,rfl⟩
 ·cases h
theorem E2.mapOk(s:E2 P T e c)(l:List α):∀x∈l.map c,x.length=P.cellsOf e/\∀q∈x,q.one=true:=λx hx=>by
 obtain⟨y,_,rfl⟩:=vak.1 hx
 exact⟨s.hc y,s.ho y⟩
theorem E2.cloneCC(s:E2 P T e c){f:FuncId}(hC:sT P f e){l r:List α}(h:Bb l=some r):CC P GE f [sl c l] (sl c r) [(0,e)]:=by
 obtain⟨hl,rfl⟩:=NH h
 exact CC.clone hC ⟨ak s.cl r,vzz⟩ s.hp (s.mapOk r) (by simpa using hl)
end
theorem CN.ofSat{P:Program}{GE:List (Nat×List PVal)}{f:FuncId}{fn:Func}{c:Code}{args:List PVal}{r:PVal}{ro:List (Nat×TypeId)}{H':List ax}
  (hcall:∀vs w,(callFunc f vs).run P w=.ok (.enter f vs) w) (hfn:P.funcs[f]? =some fn) (hb:fn.body=some c)
  (hp:cC P GE 0 c (Qi P fn.results.toList r ro H') ⟨args++List.replicate (fn.ntmps - args.length) .undef,[],[]⟩):CN P GE f args r ro H':=by
 refine⟨hcall,λΓ w vs h=>calls_of_wp hfn hb ?_⟩
 have hT:∀b,¬aR [] (λ_=>none) b:=λb hb=>by
  rcases hb with⟨i,hi⟩|hb
  ·simp at hi
  ·exact hb rfl
 have h0:SR P ⟨GE,Γ,w,aR [] λ_=>none⟩ Γ [] (λ_=>none) w (vs++Array.replicate (fn.ntmps - vs.size) undef) ⟨args++List.replicate (fn.ntmps - args.length) .undef,[],[]⟩:=by
  have hsz:vs.size=args.length:=h.sz
  exact{h with
   sz:=by simp[hsz]
   tm:=λt p v hp hv=>by
    simp only at hp
    by_cases ht:t<args.length
    ·rw[vac ht]at hp
     rw[vaH (by omega)]at hv
     exact h.tm t p v hp hv
    ·rw[vae (by omega),vaE]at hp
     split at hp<;>cases hp
     exact .undef v
   ot:=λt k e he=>by simp at he}
 have hE:mj GE 0 ⟨GE,Γ,w,aR [] λ_=>none⟩:={
  ge:=rfl
  low:=λb n hb=>h.lt_of_ghost hb
  nt:=λ_=>hT
  gl:=λg cs hg=>(h.gl g cs hg).restrict (n:=0) (by simp only[PVal.cl];exact h.gc g cs hg) (λi b hi _=>absurd hi (vaw _))}
 have hwp:=hp none ⟨GE,Γ,w,aR [] λ_=>none⟩ [] ⟨vs++Array.replicate (fn.ntmps - vs.size) undef,[]⟩ w hE rfl ⟨Γ,[],λ_=>none,h0,λi _=>rfl⟩
 refine wp_mono hwp λe a w' hq=>?_
 obtain⟨hd,st,⟨Γ1,bs1,ow1,hS,hk⟩,hQ⟩:=hq
 have key:(EI P st fn.results.toList=some r/\r.cl H'.length/\cU H'.length st.boxes H'/\(∀x∈ro,(cJ fn.results.toList x.1,x.2)∈st.own/\nl st fn.results.toList x.1)/\
   (∀x∈ro,∀y∈ro,cJ fn.results.toList x.1=cJ fn.results.toList y.1->x.1=y.1))->
   a.defers=[]/\∃v,(results fn a.tmps).run P w'=.ok v w'/\∃v' Γ' bs' ow',Ending.returned v=.returned v'/\SR P ⟨GE,Γ,w,aR [] λ_=>none⟩ Γ' bs' ow' w' #[v'] ⟨[r],H',ro.map λx=>((0,x.1),x.2)⟩:=by
  rintro⟨k1,k2,k3,k4,k5⟩
  obtain⟨v,e1,e2,e3⟩:=j5 hS k1
  refine⟨hd,v,e1,v,Γ1,bs1.take H'.length,s8 (cJ fn.results.toList) ro ow1,rfl,?_⟩
  exact hS.finish (H':=H') (src:=cJ fn.results.toList) (ro:=ro) e2 k2 k3 (λx hx=>⟨(k4 x hx).1,λu v'=>e3 x.1 u v' (k4 x hx).2⟩) k5
 have key2:GA P fn.results.toList r ro H' st->
   a.defers=[]/\∃v,(results fn a.tmps).run P w'=.ok v w'/\∃v' Γ' bs' ow',Ending.returned v=.returned v'/\SR P ⟨GE,Γ,w,aR [] λ_=>none⟩ Γ' bs' ow' w' #[v'] ⟨[r],H',ro.map λx=>((0,x.1),x.2)⟩:=by
  intro hc
  obtain⟨v,ow',e1,e2⟩:=hS.finishCellG hc
  exact⟨hd,v,e1,v,Γ1,bs1.take H'.length,ow',rfl,e2⟩
 rcases hQ with hQ|⟨he,hQ⟩
 ·cases e with
  |normal=>exact key hQ
  |ret=>exact key hQ
  |exit id=>exact hQ.elim
  |goto l=>exact hQ.elim
  |panic c=>exact hQ.elim
  |outgrown=>exact hQ.elim
 ·rcases he with rfl|rfl
  ·exact key2 hQ
  ·exact key2 hQ
def PS(_:List It)(F:Prop):Prop:=F
section
variable{sc:List It}{F X Y:Prop}
theorem en(h:F):PS [] F:=h
theorem sv{o:Option PVal}{p:PVal}(h:o=some p)(r:PS sc F):PS (.v p::sc) (o=some p/\F):=⟨h,r⟩
theorem qdt{o:List ax->Option PVal}{p:PVal}(h:∀H,o H=some p)(r:PS sc F):PS (.v p::sc) ((∀H,o H=some p)/\F):=⟨h,r⟩
theorem sx{o:Option (List PVal)}{l:List PVal}(h:o=some l)(r:PS sc F):PS (.x l::sc) (o=some l/\F):=⟨h,r⟩
theorem se{o:Option (List PVal)}{l:List PVal}(h:o=some l)(r:PS sc F):PS (.e l::sc) (o=some l/\F):=⟨h,r⟩
theorem sg(n:Nat){x b:Bool}(h:x=b)(r:PS sc F):PS (.g n b::sc) (x=b/\F):=⟨h,r⟩
theorem ss(r:PS sc F):PS (.s::sc) F:=r
theorem RE{P:Program}{GE:List (Nat×List PVal)}{g:FuncId}{vs:List PVal}{p:PVal}{ro:List (Nat×TypeId)}(h:CC P GE g vs p ro)(r:PS sc F):PS (.c p ro::sc) (CC P GE g vs p ro/\F):=⟨h,r⟩
theorem sz{o:Option PVal}{l:List PVal}(h:o=some (.agg l))(r:PS sc F):PS (.z l::sc) (o=some (.agg l)/\F):=⟨h,r⟩
theorem qe7{P:Program}{GE:List (Nat×List PVal)}{m:Nat}{c:Code}{e:Exit}{s0 s1:ay}(h:cC P GE m c (EX e s1) s0)(r:PS sc F):PS (.pc s0 e s1::sc) ((s0.tmps=s0.tmps/\s0.boxes=s0.boxes/\true=true)/\cC P GE m c (EX e s1) s0/\F):=⟨fr s0,h,r⟩
theorem si(i:It)(h:X)(r:PS sc F):PS (i::sc) (X/\F):=⟨h,r⟩
theorem sf(h:X)(r:PS sc F):PS sc (X/\F):=⟨h,r⟩
theorem qds(i:Nat)(es:List (List PVal))(lv rk:List Nat)(h:X)(h':Y){Z:Prop}(h'':Z)(r:PS sc F):PS (.fz i es lv rk::sc) (X/\Y/\Z/\F):=⟨h,h',h'',r⟩
end
section
variable{P:Program}{GE:List (Nat×List PVal)}{A:List Nat}{m:Nat}
theorem dX(hf:P.follows .mixedOrders=true){c:Code}{e0:Exit}{st0 st:ay}{sc:List It}{F:Prop}(h:PS sc F)(he:F=Ha P GE A m c sc st (FN e0 st0)):cC P GE m c (EX e0 st0) st:=piece hf sc (Eq.mp he h)
theorem C.evp(hf:P.follows .mixedOrders=true){f:FuncId}{fn:Func}{c:Code}{args:List PVal}{r:PVal}{ro:List (Nat×TypeId)}
  (hcall:∀vs w,(callFunc f vs).run P w=.ok (.enter f vs) w) (hfn:P.funcs[f]? =some fn) (hb:fn.body=some c) (hcl:eP 0 args) {sc:List It} {F:Prop} (h:PS sc F)
  (he:F=Ha P GE A 0 c sc ⟨args++List.replicate (fn.ntmps - args.length) .undef,[],[]⟩ (FR P fn.results.toList r ro)):CC P GE f args r ro:=C.ev hf hcall hfn hb hcl sc (Eq.mp he h)
end
section
variable{P:Program}{GE:List (Nat×List PVal)}{A:List Nat}{m:Nat}
theorem Jn(hf:P.follows .mixedOrders=true){c:Code}{e0:Exit}{st0 st:ay}{sc:List It}{F:Prop}(h:PS sc F)(he:F=Ha P GE A m c sc st (XT m e0 st0)):cC P GE m c (EX e0 st0) st:=VE hf sc (Eq.mp he h)
end
def tm(n:Nat):Nat->List (Nat×PVal)->List PVal
 |k,[]=>List.replicate (n - k) .undef
 |k,x::l=>List.replicate (x.1 - k) .undef++x.2::tm n (x.1+1) l
abbrev aM(n:Nat)(l:List (Nat×PVal))(H:List ax)(o:List ((Nat×Nat)×TypeId)):ay:=⟨tm n 0 l,H,o⟩
def Vk(n:Nat):List (Nat×PVal)->Prop
 |[]=>True
 |x::l=>x.2.cl n/\Vk n l
theorem Mz{n:Nat}{l:List PVal}(h:eP n l):∀k,eP n (List.replicate k .undef++l)
 |0=>h
 |k+1=>by rw[List.replicate_succ,va1];exact⟨vzz,Mz h k⟩
theorem bk{n N:Nat}:∀{l:List (Nat×PVal)} {k:Nat},Vk n l->eP n (tm N k l)
 |[],k,_=>by unfold tm;have:=Mz (n:=n) (l:=[]) trivial (N - k);rwa[vbh]at this
 |x::l,k,h=>by unfold tm;exact Mz (l:=x.2::tm N (x.1+1) l) (by simp only[eP];exact⟨h.1,bk h.2⟩) _
def bits:Nat->Nat->List Bool->List Bool
 |0,_,l=>l
 |k+1,n,l=>if n<=1 then l else bits k (n / 2) ((n % 2==1)::l)
def cA(c:Code)(n:Nat):Code:=aC c (bits 100 n [])
section
variable{X Y:Type}
def Bq(F:(X->Option Y)->X->Option Y)(x:X):Option Y:=qca F qbV x
theorem fg{F:(X->Option Y)->X->Option Y}{M:X->Y->Prop}(hF:∀rec:X->Option Y,(∀x r,rec x=some r->M x r)->∀x r,F rec x=some r->M x r){x:X}{r:Y}(h:Bq F x=some r):M x r:=by
 have key:∀n x r,qca F n x=some r->M x r:=by
  intro n
  induction n with
  |zero=>intro x r h;cases h
  |succ n ih=>intro x r h;exact hF _ ih x r h
 exact key _ x r h
end
section
variable{P:Program}{GE:List (Nat×List PVal)}{T e:TypeId}{α:Type}{c:α->List PVal}
theorem qdf{m b:Nat}(hb:decide (m % 1000<=b)=true)(l:List PVal)(hl:decide (l.length≠0)=true):(m % 1000<=b)/\∃sz,0<sz/\∀x∈[l],x.length=sz:=⟨vaP hb,l.length,by have:=vaP hl;omega,λx hx=>by rw[va5.1 hx]⟩
theorem qdg(b:Nat){l:List PVal}(h:eP 0 l):Kc b [l]:=Ew b _ ⟨h,vzz⟩
theorem qe3(l:List PVal):l=l:=rfl
theorem qdh{l r:List PVal}(h:r=l):l=[r].flatten:=by rw[h];simp
theorem qeZ(b:Nat){p:PVal}(h:p.cl 0):p.no b:=BD b p h
end
theorem qdD(ρ:List Nat):∀(l:List PVal),eP 0 l->CP ρ l l
 |[],_=>trivial
 |p::l,h=>by simp only[eP]at h;exact⟨.refl p h.1,qdD ρ l h.2⟩
theorem eF(e:Exit)(s:ay):PS [] (e=e/\s.tmps=s.tmps/\s.boxes=s.boxes/\true=true):=⟨rfl,fr s⟩
theorem qdc(m:Nat)(e:Exit)(s:ay)(h4:decide (m % 1000<=s.boxes.length)=true)(h5:eP s.boxes.length s.tmps)(h6:Hg s.boxes.length s.boxes):PS [] (e=e/\s.tmps=s.tmps/\s.boxes=s.boxes/\true=true/\decide (m % 1000<=s.boxes.length)=true/\eP s.boxes.length s.tmps/\Hg s.boxes.length s.boxes):=⟨rfl,qeT m s h4 h5 h6⟩
theorem qe8{o:Option (List PVal)}{l:List PVal}{sc:List It}{F:Prop}(h:o=some l)(hn:Ex l=true)(r:PS sc F):PS (.x l::sc) (o=some l/\Ex l=true/\F):=⟨h,hn,r⟩
def Te(l:List Int)(s:ac):Option (List Int):=if l.length+s.length<=1073741824 then some (l++s.map λc=>(c.toNat:Int))else none
theorem PM{P:Program}{T T' e:TypeId}{l z:List Int}{s:ac}(hT:E2 P T e (cI .u8))(hu:P.underlying T'=some .string)(hb:P.bytesOf e=1)(hc:P.cellsOf e=1)(hz:TE ((P.info? e).bind (·.zero))=true)(h:Te l s=some z):xz P T T' (l.map (cI .u8)) s=some (sl (cI .u8) z):=by
 unfold Te at h
 split at h
 ·rename_i hl
  cases h
  unfold xz
  rw[hT.hu,hu]
  simp only
  rw[vaJ ⟨by simpa[bF]using hl,hb,hc,hz,λx hx=>by obtain⟨y,_,rfl⟩:=vak.1 hx;rfl⟩]
  simp only[sl,vbK,D7,List.map_map]
  rfl
 ·cases h
theorem WJ{P:Program}{β:Type}{t e:TypeId}{n:Nat}{v:β->PVal}{l:List β}(h:P.underlying t=some (.array n e))(h1:P.cellsOf e=1)(h2:(P.info? e).isSome=true)(h4:decide (l.length=n)=true)
  {k:IntKind} {i:Int} {x:β} (hx:dw l i=some x):iq P t (.eptr (l.map v)) (.int k i)=some (.eptr ((l.map v).drop i.toNat)):=by
 obtain⟨h0,hx⟩:=Bu hx
 have hlt:i.toNat<l.length:=(vbA.1 hx).1
 have hl:l.length=n:=by simpa using h4
 unfold iq
 simp only[h]
 rw[vaJ ⟨h0,by omega,h2,by rw[h1,vbl,vbd];omega⟩,h1,vbl]
theorem WL{P:Program}{β:Type}{e:TypeId}{v:β->PVal}{l:List β}(h3:(P.underlying e).any GB=true){i:Int}{x:β}(hx:dw l i=some x):aZ P e ((l.map v).drop i.toNat)=some (v x):=by
 obtain⟨h0,hx⟩:=Bu hx
 have hlt:i.toNat<l.length:=(vbA.1 hx).1
 rw[vbB (by simpa using hlt),cH h3]
 simp only[vcG]
 rw[vaa hlt]at hx
 cases hx;rfl
inductive Tr(R:Type):Type 1 where
 |lf (r:R)
 |it (i:It) (t:Tr R)
 |bd {α:Type} (o:Option α) (k:α->Tr R)
 |br (b:Bool) (s t:Tr R)
 |bs {α β:Type} (o:Option (α⊕β)) (s:α->Tr R) (t:β->Tr R)
 |b3 {α β γ:Type} (o:Option (α⊕(β⊕γ))) (s:α->Tr R) (t:β->Tr R) (u:γ->Tr R)
section
variable{R:Type}
def Tr.val:Tr R->Option R
 |.lf r=>some r
 |.it _ t=>t.val
 |.bd o k=>o.bind λa=>(k a).val
 |.br b s t=>if b=true then s.val else t.val
 |.bs o s t=>o.bind λx=>match x with
  |.inl a=>(s a).val
  |.inr a=>(t a).val
 |.b3 o s t u=>o.bind λx=>match x with
  |.inl a=>(s a).val
  |.inr (.inl a)=>(t a).val
  |.inr (.inr a)=>(u a).val
def Tr.go:Tr R->(Tr R->Prop)->Prop
 |.lf r,K=>K (.lf r)
 |.it i t,K=>K (.it i t)
 |.bd o k,K=>∀a,o=some a->(k a).go K
 |.br b s t,K=>(b=true->s.go K)/\(b=false->t.go K)
 |.bs o s t,K=>(∀a,o=some (.inl a)->(s a).go K)/\∀a,o=some (.inr a)->(t a).go K
 |.b3 o s t u,K=>(∀a,o=some (.inl a)->(s a).go K)/\(∀a,o=some (.inr (.inl a))->(t a).go K)/\∀a,o=some (.inr (.inr a))->(u a).go K
theorem Tr.go_ok{r:R}:∀{t:Tr R} {K:Tr R->Prop},t.val=some r->t.go K->∃t',t'.val=some r/\K t'
 |.lf _,_,hv,h=>⟨_,hv,h⟩
 |.it _ _,_,hv,h=>⟨_,hv,h⟩
 |.bd o k,K,hv,h=>by
  simp only[Tr.val]at hv
  obtain⟨a,ha,hv⟩:=KZ hv
  exact Tr.go_ok hv (h a ha)
 | .br b s t,K,hv,h => by
  simp only[Tr.val]at hv
  rcases OB hv with⟨hb,hv⟩|⟨hb,hv⟩
  ·exact Tr.go_ok hv (h.1 hb)
  ·exact Tr.go_ok hv (h.2 hb)
 | .bs o s t,K,hv,h => by
  simp only[Tr.val]at hv
  obtain⟨a,ha,hv⟩:=KZ hv
  rcases a with a|a
  ·exact Tr.go_ok hv (h.1 a ha)
  ·exact Tr.go_ok hv (h.2 a ha)
 | .b3 o s t u,K,hv,h => by
  simp only[Tr.val]at hv
  obtain⟨a,ha,hv⟩:=KZ hv
  rcases a with a|a|a
  ·exact Tr.go_ok hv (h.1 a ha)
  ·exact Tr.go_ok hv (h.2.1 a ha)
  ·exact Tr.go_ok hv (h.2.2 a ha)
def Tr.run:Tr R->(List It->Tr R->Prop)->Prop
 |.it i t,K=>t.run λl t'=>K (i::l) t'
 |t,K=>K [] t
def Tr.its:List It->Tr R->Tr R
 |[],t=>t
 |i::l,t=>.it i (Tr.its l t)
theorem Tr.its_val:∀(l:List It) (t:Tr R),(Tr.its l t).val=t.val
 |[],_=>rfl
 |_::l,t=>Tr.its_val l t
theorem Tr.run_ok:∀{t:Tr R} {K:List It->Tr R->Prop},t.run K->∃l t',t'.val=t.val/\K l t'
 |.it i t,K,h=>by
  obtain⟨l,t',h1,h2⟩:=Tr.run_ok (t:=t) h
  exact⟨i::l,t',h1,h2⟩
 |.lf _,_,h=>⟨[],_,rfl,h⟩
 |.bd _ _,_,h=>⟨[],_,rfl,h⟩
 |.br _ _ _,_,h=>⟨[],_,rfl,h⟩
 |.bs _ _ _,_,h=>⟨[],_,rfl,h⟩
 |.b3 _ _ _ _,_,h=>⟨[],_,rfl,h⟩
def MS(m:Nat)(t:Tr R)(st:ay)(k:Tr R->ay->Prop):Prop:=match t with
 |.it (.fz i es lv rk) t'=>(Tr.it (.fz i es lv rk) t').run λsc t2=>Pc m sc st λsc st=>k (Tr.its sc t2) st
 |.it (.sh t kk e) t'=>(Tr.it (.sh t kk e) t').run λsc t2=>Pc m sc st λsc st=>k (Tr.its sc t2) st
 |t=>k t st
theorem P1{P:Program}{m:Nat}{t:Tr R}{st:ay}{k:Tr R->ay->Prop}(h:MS m t st k):∃t' st',t'.val=t.val/\pJ P m st st'/\k t' st':=by
 unfold MS at h
 split at h
 ·obtain⟨l,t2,h1,h2⟩:=Tr.run_ok h
  obtain⟨sc2,st2,hw,h3⟩:=Es (P:=P) h2
  exact⟨_,st2,(Tr.its_val _ _).trans h1,hw,h3⟩
 ·obtain⟨l,t2,h1,h2⟩:=Tr.run_ok h
  obtain⟨sc2,st2,hw,h3⟩:=Es (P:=P) h2
  exact⟨_,st2,(Tr.its_val _ _).trans h1,hw,h3⟩
 ·exact⟨_,_,rfl,.refl _,h⟩
def Cx(P:Program)(GE:List (Nat×List PVal))(A:List Nat)(m:Nat):Code->Tr R->ay->(Exit->Tr R->ay->Prop)->Prop
 |.skip,t,st,K=>K .normal t st
 |.label _,t,st,K=>K .normal t st
 |.region id ops draw,t,st,K=>t.go λt=>t.run λsc t'=>Ha P GE A m (.region id ops draw) sc st λe sc st=>K e (Tr.its sc t') st
 | .seq a b,t,st,K => t.go fun t =>
  let after (e:Exit) (t:Tr R) (st:ay):Prop:=match e with
   |.normal=>t.go λt=>MS m t st λt st=>Cx P GE A m b t st K
   |e=>K e t st
  match t with
  |.it (.pa 0) (.it (.pc st0 e st1) t')=>FG st st0/\cC P GE m a (EX e st1) st0/\after e t' st1
  |.it (.pa (n+1)) t'=>Cx P GE A m a (.it (.pa n) t') st after
  |t=>Cx P GE A m a t st after
 | .cond c a b,t,st,K => t.go fun t => kX GE st.tmps c fun v => match v with
  | .bool x => match t with
   |.it .k t'=>match x with
    |true=>t'.go λt=>MS m t st λt st=>Cx P GE A m a t st K
    |false=>t'.go λt=>MS m t st λt st=>Cx P GE A m b t st K
   |.it (.g _ y) t'=>x=y/\match y with
    |true=>t'.go λt=>MS m t st λt st=>Cx P GE A m a t st K
    |false=>t'.go λt=>MS m t st λt st=>Cx P GE A m b t st K
   |_=>False
  |_=>False
 |.block id c,t,st,K=>Cx P GE A m c t st λe t st=>match e with
  |.exit id'=>if id'=id then K .normal t st else K (.exit id') t st
  |e=>K e t st
 |.exit id,t,st,K=>K (.exit id) t st
 |.ret,t,st,K=>K .ret t st
 |.loop c,t,st,K=>t.go λt=>match t with
  |.it (.pc st0 e st1) t'=>FG st st0/\cC P GE m (.loop c) (EX e st1) st0/\K e t' st1
  |_=>False
 |_,_,_,_=>False
section
variable{P:Program}{GE:List (Nat×List PVal)}{A:List Nat}{m:Nat}
theorem eX(hf:P.follows .mixedOrders=true){r:R}:∀(c:Code) (t:Tr R) (st:ay) (K:Exit->Tr R->ay->Prop),t.val=some r->Cx P GE A m c t st K->cC P GE m c (λe st'=>∃t',t'.val=some r/\K e t' st') st
 |.skip,t,st,K,hv,h=>cC.skip ⟨t,hv,h⟩
 |.label _,t,st,K,hv,h=>cC.label ⟨t,hv,h⟩
 |.region id ops draw,t,st,K,hv,h=>by
  simp only[Cx]at h
  obtain⟨t1,v1,h⟩:=Tr.go_ok hv h
  obtain⟨l,t2,v2,h⟩:=Tr.run_ok h
  refine(fu hf (.region id ops draw) l st _ h).mono λe st' hx=>?_
  obtain⟨sc',hx⟩:=hx
  exact⟨_,.refl _,_,(Tr.its_val _ _).trans (v2.trans v1),hx⟩
 | .seq a b,t,st,K,hv,h => by
  simp only[Cx]at h
  obtain⟨t1,v1,h⟩:=Tr.go_ok hv h
  have aft:∀(e:Exit) (t':Tr R) (st':ay),t'.val=some r->(match e with|.normal=>t'.go (λt=>MS m t st' λt st=>Cx P GE A m b t st K)|e=>K e t' st')->(match e with|.normal=>cC P GE m b (λe st'=>∃t',t'.val=some r/\K e t' st') st'|e=>∃t',t'.val=some r/\K e t' st'):=by
   intro e t' st' hv' hx
   cases e with
   |normal=>
    obtain⟨t2,v2,hx⟩:=Tr.go_ok hv' hx
    obtain⟨t3,st3,v3,hw,hx⟩:=P1 (P:=P) hx
    exact cC.weak hw (eX hf b t3 st3 K (v3.trans v2) hx)
   |exit id=>exact⟨_,hv',hx⟩
   |goto l=>exact⟨_,hv',hx⟩
   |ret=>exact⟨_,hv',hx⟩
   |panic c=>exact⟨_,hv',hx⟩
   |outgrown=>exact⟨_,hv',hx⟩
  refine cC.seq ?_
  split at h
  ·rename_i st0 e st1 t'
   obtain⟨h1,h2,h3⟩:=h
   refine cC.weak h1.weak (EX.of h2 ?_)
   have:=aft e t' st1 v1 h3
   cases e<;>exact this
  ·exact(eX hf a _ st _ (by exact v1) h).imp λe st' hx=>by
    obtain⟨t',hv',hx⟩:=hx
    have:=aft e t' st' hv' hx
    cases e<;>exact this
  ·exact(eX hf a _ st _ v1 h).imp λe st' hx=>by
    obtain⟨t',hv',hx⟩:=hx
    have:=aft e t' st' hv' hx
    cases e<;>exact this
 | .cond c a b,t,st,K,hv,h => by
  simp only[Cx]at h
  obtain⟨t1,v1,h⟩:=Tr.go_ok hv h
  rw[bJ]at h
  have go:∀{x:Code} (hx:∀(t:Tr R) (st:ay),t.val=some r->Cx P GE A m x t st K->cC P GE m x (λe st'=>∃t',t'.val=some r/\K e t' st') st) {t:Tr R},t.val=some r->t.go (λt=>MS m t st (λt st=>Cx P GE A m x t st K))->cC P GE m x (λe st'=>∃t',t'.val=some r/\K e t' st') st:=by
   intro x hx t hv h
   obtain⟨t1,v1,h⟩:=Tr.go_ok hv h
   obtain⟨t2,st2,v2,hw,h⟩:=P1 (P:=P) h
   exact cC.weak hw (hx t2 st2 (v2.trans v1) h)
  split at h
  ·rename_i x hx
   split at h
   ·rename_i t'
    refine cC.cond hx (λh1=>?_) (λh1=>?_)
    ·subst h1;exact go (t:=t') (λt st hv h=>eX hf a t st K hv h) (by exact v1) h
    ·subst h1;exact go (t:=t') (λt st hv h=>eX hf b t st K hv h) (by exact v1) h
   ·rename_i j y t'
    obtain⟨rfl,h⟩:=h
    refine cC.cond hx (λh1=>?_) (λh1=>?_)
    ·subst h1;exact go (t:=t') (λt st hv h=>eX hf a t st K hv h) (by exact v1) h
    ·subst h1;exact go (t:=t') (λt st hv h=>eX hf b t st K hv h) (by exact v1) h
   ·exact h.elim
  ·exact h.elim
 | .block id c,t,st,K,hv,h => by
  simp only[Cx]at h
  refine cC.block ((eX hf c _ st _ hv h).imp λe st' hx=>?_)
  obtain⟨t',hv',hx⟩:=hx
  cases e with
  | exit id' =>
   simp only[Mq]
   simp only at hx
   split at hx
   ·rename_i hid;rw[vaJ hid];exact⟨t',hv',hx⟩
   ·rename_i hid;rw[vaM hid];exact⟨t',hv',hx⟩
  |normal=>exact⟨t',hv',hx⟩
  |goto l=>exact⟨t',hv',hx⟩
  |ret=>exact⟨t',hv',hx⟩
  |panic c=>exact⟨t',hv',hx⟩
  |outgrown=>exact⟨t',hv',hx⟩
 |.exit id,t,st,K,hv,h=>cC.exit ⟨t,hv,h⟩
 |.ret,t,st,K,hv,h=>cC.ret ⟨t,hv,h⟩
 | .loop c,t,st,K,hv,h => by
  simp only[Cx]at h
  obtain⟨t1,v1,h⟩:=Tr.go_ok hv h
  split at h
  ·rename_i st0 e st1 t'
   obtain⟨h1,h2,h3⟩:=h
   exact cC.weak h1.weak (EX.of h2 ⟨t',v1,h3⟩)
  ·exact h.elim
 |.rangeFunc ..,_,_,_,_,h=>by simp[Cx]at h
 |.scope _,_,_,_,_,h=>by simp[Cx]at h
 |.goto _,_,_,_,_,h=>by simp[Cx]at h
 |.refuse _,_,_,_,_,h=>by simp[Cx]at h
end
def PV(Lf:R->Prop)(o:Option R)(t:Tr R)(F:Prop):Prop:=t.val=o/\((∀r,Lf r)->F)
section
variable{Lf:R->Prop}
theorem tE{r:R}:PV Lf (some r) (.lf r) (Lf r):=⟨rfl,λh=>h r⟩
theorem GV{r:R}{F:Prop}(h:Lf r->F):PV Lf (some r) (.lf r) F:=⟨rfl,λq=>h (q r)⟩
theorem tb{α:Type}{o:Option α}{k:α->Option R}{t:α->Tr R}{F:α->Prop}(h:∀a,o=some a->PV Lf (k a) (t a) (F a)):PV Lf (o.bind k) (.bd o t) (∀a,o=some a->F a):=by
 refine⟨?_,λq a ha=>(h a ha).2 q⟩
 cases o with
 |none=>rfl
 |some a=>exact(h a rfl).1
theorem tf{b:Bool}{x y:Option R}{s t:Tr R}{F G:Prop}(h:b=true->PV Lf x s F)(h':b=false->PV Lf y t G):PV Lf (if b=true then x else y) (.br b s t) ((b=true->F)/\(b=false->G)):=by
 refine⟨?_,λq=>⟨λhb=>(h hb).2 q,λhb=>(h' hb).2 q⟩⟩
 cases b with
 |false=>exact(h' rfl).1
 |true=>exact(h rfl).1
theorem tF{b:Bool}{x y:Option R}{s t:Tr R}{F G:Prop}(h:PV Lf x s F)(h':PV Lf y t G):PV Lf (if b=true then x else y) (.br b (.it (.g 0 true) s) (.it (.g 0 false) t)) ((b=true->b=true/\F)/\(b=false->b=false/\G)):=by
 refine⟨?_,λq=>⟨λhb=>⟨hb,h.2 q⟩,λhb=>⟨hb,h'.2 q⟩⟩⟩
 cases b with
 |false=>exact h'.1
 |true=>exact h.1
theorem t2{α β:Type}{o:Option (α⊕β)}{k:α⊕β->Option R}{s:α->Tr R}{t:β->Tr R}{F:α->Prop}{G:β->Prop}(h:∀a,o=some (.inl a)->PV Lf (k (.inl a)) (s a) (F a))(h':∀a,o=some (.inr a)->PV Lf (k (.inr a)) (t a) (G a)):PV Lf (o.bind k) (.bs o s t) ((∀a,o=some (.inl a)->F a)/\∀a,o=some (.inr a)->G a):=by
 refine⟨?_,λq=>⟨λa ha=>(h a ha).2 q,λa ha=>(h' a ha).2 q⟩⟩
 simp only[Tr.val]
 rcases o with _|a|a
 ·rfl
 ·exact(h a rfl).1
 ·exact(h' a rfl).1
variable{oo:Option R}{tr:Tr R}{F X Y:Prop}
theorem tv{o:Option PVal}{p:PVal}(h:o=some p)(r:PV Lf oo tr F):PV Lf oo (.it (.v p) tr) (o=some p/\F):=⟨r.1,λq=>⟨h,r.2 q⟩⟩
theorem cb{o:List ax->Option PVal}{p:PVal}(h:∀H,o H=some p)(r:PV Lf oo tr F):PV Lf oo (.it (.v p) tr) ((∀H,o H=some p)/\F):=⟨r.1,λq=>⟨h,r.2 q⟩⟩
theorem tx{o:Option (List PVal)}{l:List PVal}(h:o=some l)(r:PV Lf oo tr F):PV Lf oo (.it (.x l) tr) (o=some l/\F):=⟨r.1,λq=>⟨h,r.2 q⟩⟩
theorem te{o:Option (List PVal)}{l:List PVal}(h:o=some l)(r:PV Lf oo tr F):PV Lf oo (.it (.e l) tr) (o=some l/\F):=⟨r.1,λq=>⟨h,r.2 q⟩⟩
theorem tg(n:Nat){x b:Bool}(h:x=b)(r:PV Lf oo tr F):PV Lf oo (.it (.g n b) tr) (x=b/\F):=⟨r.1,λq=>⟨h,r.2 q⟩⟩
theorem qdv{o:Option (List PVal)}{l:List PVal}(h:o=some l)(r:PV Lf oo tr F):PV Lf oo (.it (.s) tr) (o=some l/\F):=⟨r.1,λq=>⟨h,r.2 q⟩⟩
theorem ck{P:Program}{GE:List (Nat×List PVal)}{g:FuncId}{vs:List PVal}{p:PVal}{ro:List (Nat×TypeId)}(h:CC P GE g vs p ro)(r:PV Lf oo tr F):PV Lf oo (.it (.c p ro) tr) (CC P GE g vs p ro/\F):=⟨r.1,λq=>⟨h,r.2 q⟩⟩
theorem Mf{P:Program}{T:TypeId}{ps:List (Nat×PVal)}{p:PVal}{L:List (Nat×TypeId)}(h:cF P T ps=some p)(h':wL P T ps L)(r:PV Lf oo tr F):PV Lf oo (.it (.b p L) tr) (cF P T ps=some p/\wL P T ps L/\F):=⟨r.1,λq=>⟨h,h',r.2 q⟩⟩
theorem ty{l vs:List PVal}(h:l=vs)(r:PV Lf oo tr F):PV Lf oo (.it (.y vs) tr) (l=vs/\F):=⟨r.1,λq=>⟨h,r.2 q⟩⟩
theorem qe9{o:Option (List PVal)}{vs:List PVal}(h:o=some vs)(r:PV Lf oo tr F):PV Lf oo (.it (.y vs) tr) (o=some vs/\F):=⟨r.1,λq=>⟨h,r.2 q⟩⟩
theorem S2(an:List Nat)(r:PV Lf oo tr F):PV Lf oo (.it (.dr an) tr) F:=⟨r.1,r.2⟩
theorem gz(n:Nat)(r:PV Lf oo tr F):PV Lf oo (.it (.pa n) tr) F:=⟨r.1,r.2⟩
theorem cu{P:Program}{GE:List (Nat×List PVal)}{m:Nat}{c:Code}{e:Exit}{s0 s1:ay}(h:cC P GE m c (EX e s1) s0)(r:PV Lf oo tr F):PV Lf oo (.it (.pc s0 e s1) tr) ((s0.tmps=s0.tmps/\s0.boxes=s0.boxes/\true=true)/\cC P GE m c (EX e s1) s0/\F):=⟨r.1,λq=>⟨fr s0,h,r.2 q⟩⟩
theorem Av(i:It)(r:PV Lf oo tr F):PV Lf oo (.it i tr) F:=⟨r.1,r.2⟩
theorem ti(i:It)(h:X)(r:PV Lf oo tr F):PV Lf oo (.it i tr) (X/\F):=⟨r.1,λq=>⟨h,r.2 q⟩⟩
theorem tq(h:X)(r:PV Lf oo tr F):PV Lf oo tr (X/\F):=⟨r.1,λq=>⟨h,r.2 q⟩⟩
theorem V5{o:Option (List (PVal×PVal))}{m:List (PVal×PVal)}(h:o=some m)(r:PV Lf oo tr F):PV Lf oo (.it (.w 0 (.map m)) tr) (o=some m/\F):=⟨r.1,λq=>⟨h,r.2 q⟩⟩
theorem TV{o:Option (List PVal)}{l:List PVal}(h:o=some l)(hn:Ex l=true)(r:PV Lf oo tr F):PV Lf oo (.it (.x l) tr) (o=some l/\Ex l=true/\F):=⟨r.1,λq=>⟨h,hn,r.2 q⟩⟩
theorem tw{o o':Option PVal}{p p':PVal}(h:o=some p/\o'=some p')(r:PV Lf oo tr F):PV Lf oo (.it (.v p) (.it (.v p') tr)) (o=some p/\o'=some p'/\F):=⟨r.1,λq=>⟨h.1,h.2,r.2 q⟩⟩
theorem tk(r:PV Lf oo tr F):PV Lf oo (.it .k tr) F:=⟨r.1,r.2⟩
theorem ts(r:PV Lf oo tr F):PV Lf oo (.it .s tr) F:=⟨r.1,r.2⟩
end
end
def Nv(s:ay):Prop:=s.tmps=s.tmps/\s.boxes=s.boxes/\true=true
theorem Nv.ok(s:ay):Nv s:=fr s
def Zm:Exit->Bool
 |.normal=>true
 |_=>false
theorem Zn{e:Exit}(h:Zm e=false):e≠.normal:=by
 intro he
 subst he
 cases h
section
variable{P:Program}{GE:List (Nat×List PVal)}{A:List Nat}{m:Nat}{c:Code}{st:ay}{X σ:Type}
def Tr.fin{R:Type}:Tr R->(R->Prop)->Prop
 |.lf x,K=>K x
 |_,_=>False
theorem N0{R:Type}{r:R}{t:Tr R}{K:R->Prop}(hv:t.val=some r)(h:t.fin K):K r:=by
 unfold Tr.fin at h
 split at h
 ·cases hv;exact h
 ·exact h.elim
def LJ(ex:X->Exit)(so:X->ay)(x:X):Prop:=ex x=ex x/\Nv (so x)
def KJ(ex:X->Exit)(so:X->ay):Exit->Tr X->ay->Prop:=λe t st=>t.go λt=>t.fin λx=>FN (ex x) (so x) e [] st
theorem KJ.at{ex:X->Exit}{so:X->ay}{e:Exit}{t:Tr X}{st:ay}{x:X}(hv:t.val=some x)(h:KJ ex so e t st):FN (ex x) (so x) e [] st:=by
 obtain⟨t',v',h⟩:=Tr.go_ok hv h
 exact N0 (K:=λx=>FN (ex x) (so x) e [] st) v' h
theorem SE(hf:P.follows .mixedOrders=true){ex:X->Exit}{so:X->ay}{o:Option X}{x:X}(h:o=some x){t:Tr X}{F:Prop}(z:PV (LJ ex so) o t F)(he:F=Cx P GE A m c t st (KJ ex so)):cC P GE m c (EX (ex x) (so x)) st:=by
 have hF:=z.2 λr=>⟨rfl,Nv.ok _⟩
 rw[he]at hF
 refine(eX hf c t st _ (z.1.trans h) hF).mono λe st' hx=>?_
 obtain⟨t',v',hx⟩:=hx
 have hx:=KJ.at v' hx
 exact⟨so x,hx.2.weak,hx.1.symm,rfl⟩
def LB(S:σ->ay)(ex:X->Exit)(so:X->ay):σ⊕X->Prop
 |.inl s=>Exit.normal=Exit.normal/\Nv (S s)
 |.inr x=>false=false/\ex x=ex x/\Nv (so x)
def KB(S:σ->ay)(ex:X->Exit)(so:X->ay):Exit->Tr (σ⊕X)->ay->Prop:=λe t st=>t.go λt=>t.fin λy=>match y with
 |.inl s=>FN .normal (S s) e [] st
 |.inr x=>Zm (ex x)=false/\FN (ex x) (so x) e [] st
def qcO(m:Nat)(S:σ->ay)(ex:X->Exit)(so:X->ay):Exit->Tr (σ⊕X)->ay->Prop:=λe t st=>t.go λt=>t.fin λy=>match y with
 |.inl s=>XT m .normal (S s) e [] st
 |.inr x=>Zm (ex x)=false/\XT m (ex x) (so x) e [] st
theorem W7(hf:P.follows .mixedOrders=true){S:σ->ay}{ex:X->Exit}{so:X->ay}{o:Option (σ⊕X)}{y:σ⊕X}(h:o=some y){t:Tr (σ⊕X)}{F:Prop}(z:PV (LB S ex so) o t F)(he:F=Cx P GE A m c t st (KB S ex so)):cC P GE m c (LQ S ex so y) st:=by
 have hF:=z.2 λr=>by
  cases r with
  |inl s=>exact⟨rfl,Nv.ok _⟩
  |inr x=>exact⟨rfl,rfl,Nv.ok _⟩
 rw[he]at hF
 refine(eX hf c t st _ (z.1.trans h) hF).mono λe st' hx=>?_
 obtain⟨t',v',hx⟩:=hx
 obtain⟨t2,v2,hx⟩:=Tr.go_ok v' hx
 have hx:=N0 v2 hx
 cases y with
 |inl s=>exact⟨S s,hx.2.weak,hx.1.symm,rfl⟩
 |inr x=>exact⟨so x,hx.2.2.weak,by rw[<-hx.2.1];exact Zn hx.1,hx.2.1.symm,rfl⟩
theorem Vi(hf:P.follows .mixedOrders=true){S:σ->ay}{ex:X->Exit}{so:X->ay}{o:Option (σ⊕X)}{y:σ⊕X}(h:o=some y){t:Tr (σ⊕X)}{F:Prop}(z:PV (λ_=>True) o t F)(he:F=Cx P GE A m c t st (qcO m S ex so)):cC P GE m c (LQ S ex so y) st:=by
 have hF:=z.2 λr=>trivial
 rw[he]at hF
 refine(eX hf c t st _ (z.1.trans h) hF).mono λe st' hx=>?_
 obtain⟨t',v',hx⟩:=hx
 obtain⟨t2,v2,hx⟩:=Tr.go_ok v' hx
 have hx:=N0 v2 hx
 cases y with
 |inl s=>exact⟨S s,hx.2.weak,hx.1.symm,rfl⟩
 |inr x=>exact⟨so x,hx.2.2.weak,by rw[<-hx.2.1];exact Zn hx.1,hx.2.1.symm,rfl⟩
theorem ZL{S:σ->ay}{ex:X->Exit}{so:X->ay}{body:σ->Option (σ⊕X)}{s:σ}{x:X}(h:loop body s=some x)(hb:∀s y,body s=some y->cC P GE m c (LQ S ex so y) (S s)){st s1:ay}{e:Exit}(h1:st=S s:=by rfl)(h2:e=ex x:=by rfl)(h3:s1=so x:=by rfl):cC P GE m (.loop c) (EX e s1) st:=by
 subst h1 h2 h3
 exact cC.loop h hb
end
end Go.Proofs.YtankopenjcbeeaaGreatDoor
