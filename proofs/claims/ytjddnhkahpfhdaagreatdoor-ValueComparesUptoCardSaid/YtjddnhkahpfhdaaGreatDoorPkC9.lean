/- PROVED: a part of the proof. Conditions: none. -/
import Derived.Test.YtjddnhkahpfhdaaGreatDoorPkC8
import Derived.Test.YtjddnhkahpfhdaaGreatDoorRows
import Derived.Test.YtjddnhkahpfhdaaGreatDoorPkC3
import Derived.Shelf.SlicesE.Clone
set_option linter.unusedSimpArgs false
set_option linter.unusedVariables false
noncomputable section
namespace Go.Proofs.YtjddnhkahpfhdaaGreatDoor
open Go Go.RowKit Go.WideShapes Go.ChangeShapes Go.ChangeAt
set_option linter.unusedVariables false
mutual
def pm:PVal->Nat
 |.str s=>s.length+1
 |.slice es=>aN es+1
 |.int _ _=>1
 |.bool _=>1
 |_=>0
def bU:List PVal->Nat
 |[]=>0
 |p::l=>pm p+bU l
def aN:List (List PVal)->Nat
 |[]=>0
 |x::r=>bU x+aN r
end
theorem cX:∀(a b:List PVal),bU (a++b)=bU a+bU b
 |[],b=>by simp[bU]
 |p::a,b=>by simp only[vaS,bU,cX a b];omega
def US(P:Program)(S:TypeId->List PVal->Prop):List Field->List PVal->Prop
 |[],l=>l=[]
 |f::fs,l=>∃a b,l=a++b/\a.length=P.cellsOf f.type/\S f.type a/\US P S fs b
def Df(P:Program)(e:TypeId):Nat->Nat->List Field
 |0,_=>[]
 |n+1,o=>{name:= "",type:=e,offset:=o,embedded:=false,tag:= "",pkgPath:= "",byteOffset:=0}::Df P e n (o+P.cellsOf e)
def Sh(P:Program):Nat->TypeId->List PVal->Prop
 |0,_,_=>False
 |n+1,t,l=>match P.underlying t with
  |some .bool=>∃b,l=[.bool b]
  |some (.int k)=>∃i,l=[.int k i]/\(Lit.int k i).wf=true
  |some .string=>∃s:ai,l=[.str s]/\s.length<=maxLen
  |some (.slice e)=>∃es,l=[.slice es]/\es.length<=maxLen/\∀x∈es,Sh P n e x
  |some (.struct fs)=>US P (Sh P n) fs.toList l
  |some (.array k e)=>US P (Sh P n) (Df P e k 0) l
  |_=>True
def nh(P:Program):Nat->List Field->Nat->Bool
 |o,[],n=>decide (o=n)
 |o,f::fs,n=>decide (f.offset=o)&&nh P (o+P.cellsOf f.type) fs n
theorem Gd{P:Program}{e:TypeId}:∀{n o:Nat},∀f∈Df P e n o,f.type=e
 |0,o,f,h=>by simp[Df]at h
 | n + 1,o,f,h => by
  unfold Df at h
  rcases vat.1 h with rfl|h
  ·rfl
  ·exact Gd f h
theorem Bj{P:Program}{e:TypeId}:∀{n o:Nat},nh P o (Df P e n o) (o+n * P.cellsOf e)=true
 |0,o=>by simp[Df,nh]
 |n+1,o=>by
  unfold Df nh
  have:=Bj (P:=P) (e:=e) (n:=n) (o:=o+P.cellsOf e)
  rw[show o+P.cellsOf e+n * P.cellsOf e=o+(n+1) * P.cellsOf e by rw[vaN,vbw];omega]at this
  simp[this]
theorem GB{P:Program}{e:TypeId}{β:Type}{G:TypeId->Nat->Option β}:∀{n o:Nat} {xs:List β},xs.length=n->(∀i,i<n->G e (o+i * P.cellsOf e)=xs[i]?)->(Df P e n o).mapM (λf=>G f.type f.offset)=some xs
 |0,o,xs,hl,_=>by
  obtain rfl:=vai hl
  simp[Df]
 |n+1,o,[],hl,_=>by simp at hl
 | n + 1,o,x :: xs,hl,h => by
  have h0:=h 0 (by omega)
  have ih:=GB (P:=P) (e:=e) (G:=G) (n:=n) (o:=o+P.cellsOf e) (xs:=xs) (by simpa using hl) λi hi=>by
   have:=h (i+1) (by omega)
   rw[vaN,vbw]at this
   rw[show o+P.cellsOf e+i * P.cellsOf e=o+(i * P.cellsOf e+P.cellsOf e) by omega,this]
   rfl
  unfold Df
  simp only[vcz,Nat.add_zero,List.getElem?_cons_zero]at h0
  simp only[vbS,h0,ih]
  rfl
theorem L1{α:Type}{Q:Nat->α->Prop}:∀{n:Nat},(∀i,i<n->∃x,Q i x)->∃l:List α,l.length=n/\∀(i:Nat) x,l[i]? =some x->Q i x
 |0,_=>⟨[],rfl,λi x h=>by simp at h⟩
 | n + 1,h => by
  obtain⟨l,hl,hq⟩:=L1 (n:=n) λi hi=>h i (by omega)
  obtain⟨x,hx⟩:=h n (by omega)
  refine⟨l++[x],by simp[hl],λi y hy=>?_⟩
  by_cases hi:i<l.length
  ·rw[vac hi]at hy;exact hq i y hy
  ·have hlt:=ag hy
   simp at hlt
   have:i=l.length:=by omega
   subst this
   rw[vad (vaj _)]at hy
   simp at hy;subst hy;rw[hl];exact hx
theorem LC{H:Type}:∀{es:List (List PVal)} {ds:List (DataW H)},es.length=ds.length->(∀(i:Nat) x d,es[i]? =some x->ds[i]? =some d->bU x<=Rows.uptoBulk d)->aN es<=Rows.uptoBulkAll ds
 |[],[],_,_=>by simp[aN,Rows.uptoBulkAll]
 |x::es,d::ds,hl,h=>by
  have h1:=h 0 x d rfl rfl
  have h2:=LC (es:=es) (ds:=ds) (by simpa using hl) λi x d hx hd=>h (i+1) x d (by simpa using hx) (by simpa using hd)
  simp only[aN,Rows.uptoBulkAll];omega
section
variable{H:Type}{enc:TypeId×Value->H}{P:Program}{W:World}{base:Nat}{sp:Nat->Bool}{held:Bool}
def Tz(P:Program)(W:World)(n:Nat)(t:TypeId)(cs:List Value)(b:Nat):Prop:=
 ∃l:List PVal,l.length=cs.length/\(∀(i:Nat) p v,l[i]? =some p->cs[i]? =some v->VR (tu W) [] W p v)/\Sh P n t l/\bU l<=b
theorem Tz.one{n:Nat}{t:TypeId}{p:PVal}{v:Value}{b:Nat}(h:VR (tu W) [] W p v)(hs:Sh P n t [p])(hb:pm p<=b):Tz P W n t [v] b:=
 ⟨[p],rfl,λi q u hq hu=>by
  cases i with
  |zero=>simp at hq hu;subst hq;subst hu;exact h
  |succ i=>simp at hq,hs,by simp only[bU];omega⟩
theorem Am{L:List TypeId}{fuel:Nat}(ih:∀(t:TypeId),t∈L->∀(cs:List Value) (d:DataW H) (p:List MemPlace),DataW.trod enc P W base sp held fuel t cs=some (d,p)->Tz P W fuel t cs (Rows.uptoBulk d)){cs:List Value}:∀{fs:List Field} {o n:Nat} {xs:List (DataW H×List MemPlace)},(∀f∈fs,f.type∈L)->n<=cs.length->nh P o fs n=true->fs.mapM (λf=>DataW.trod enc P W base sp held fuel f.type ((cs.drop f.offset).take (P.cellsOf f.type)))=some xs->
   o<=n/\∃l:List PVal,l.length=n - o/\(∀(i:Nat) p v,l[i]? =some p->cs[o+i]? =some v->VR (tu W) [] W p v)/\US P (Sh P fuel) fs l/\bU l<=Rows.uptoBulkAll (xs.map (·.1))
 |[],o,n,xs,_,hn,hc,h=>by
  unfold nh at hc
  have:o=n:=by simpa using hc
  subst this
  exact⟨vaj _,[],by simp,λi p v hp=>by simp at hp,rfl,by simp[bU]⟩
 | f :: fs,o,n,xs,hL,hn,hc,h => by
  unfold nh at hc
  simp only[vae,vam]at hc
  obtain⟨hfo,hc⟩:=hc
  simp only[vbS,Option.bind_eq_bind,vbb,Option.pure_def,var]at h
  obtain⟨⟨d,p⟩,hd,xs',hxs,rfl⟩:=h
  obtain⟨ho,l2,k1,k2,k3,k4⟩:=Am ih (λg hg=>hL g (vaH _ hg)) hn hc hxs
  obtain⟨l1,q1,q2,q3,q4⟩:=ih _ (hL f (by simp)) _ _ _ hd
  have hl1:l1.length=P.cellsOf f.type:=by rw[q1,vaV,vbf,hfo];omega
  refine⟨by omega,l1++l2,by simp[hl1,k1];omega,λi q v hq hv=>?_,⟨l1,l2,rfl,hl1,q3,k3⟩,by rw[cX];simp only[vaM,Rows.uptoBulkAll];omega⟩
  by_cases hi:i<l1.length
  ·rw[vac hi]at hq
   refine q2 i q v hq ?_
   rw[vas (by omega),va6,hfo]
   exact hv
  ·rw[vad (by omega)]at hq
   refine k2 (i - l1.length) q v hq ?_
   rw[<-hv,hl1]
   congr 1
   rw[hl1]at hi
   omega
theorem RB{fuel:Nat}{t:TypeId}{cs:List Value}{x:DataW H×List MemPlace}(ht:P.underlying t=some .bool)(h:DataW.trod enc P W base sp held (fuel+1) t cs=some x):∃b,cs=[.bool b]/\x.1=.lit (.bool b):=by
 unfold DataW.trod at h
 rw[ht]at h
 split at h<;>simp_all
 exact h▸rfl
theorem Tg{fuel:Nat}{t:TypeId}{cs:List Value}{k:IntKind}{x:DataW H×List MemPlace}(ht:P.underlying t=some (.int k))(h:DataW.trod enc P W base sp held (fuel+1) t cs=some x):∃n,cs=[.int k n]/\(Lit.int k n).wf=true/\x.1=.lit (.int k n):=by
 unfold DataW.trod at h
 rw[ht]at h
 cases cs with
 |nil=>simp at h
 | cons v r =>
  cases r with
  |cons _ _=>simp at h
  |nil=>
   cases v<;>simp at h
   obtain⟨⟨rfl,h1⟩,rfl⟩:=h
   exact⟨_,rfl,h1,rfl⟩
theorem NR{fuel:Nat}{t:TypeId}{cs:List Value}{x:DataW H×List MemPlace}(ht:P.underlying t=some .string)(h:DataW.trod enc P W base sp held (fuel+1) t cs=some x):∃s:ByteArray,cs=[.string s]/\s.size<=maxLen/\x.1=.lit (.string s.data.toList):=by
 unfold DataW.trod at h
 rw[ht]at h
 split at h<;>simp_all
 exact h.2▸rfl
theorem P9{fuel:Nat}{t e:TypeId}{cs:List Value}{x:DataW H×List MemPlace}(ht:P.underlying t=some (.slice e))(h:DataW.trod enc P W base sp held (fuel+1) t cs=some x):(cs=[.slice none 0 0]/\x.1=.nil)\/∃a len cap elems rest,cs=[.slice (some a) len cap]/\len<=cap/\cap<=maxLen/\x.1=.slice (elems.map (·.1)) rest/\
   (List.range len).mapM (λi=>(W.cells? base (a.add (i * P.cellsOf e)) (P.cellsOf e)).bind (DataW.trod enc P W base sp held fuel e))=some elems:=by
 unfold DataW.trod at h
 rw[ht]at h
 cases cs with
 |nil=>simp at h
 | cons v r =>
  cases r with
  |cons _ _=>simp at h
  | nil =>
   cases v<;>try (simp at h;done)
   rename_i ad len cap
   cases ad with
   |none=>
    left
    match len,cap,h with
    |0,0,h=>simp at h;exact⟨rfl,h▸rfl⟩
    |0,c+1,h=>simp at h
    |n+1,c,h=>simp at h
   | some a =>
    right
    simp only at h
    split at h
    ·rename_i hc
     obtain⟨elems,h1,h2⟩:=vbb.1 h
     obtain⟨rest,h3,h4⟩:=vaL.1 h2
     exact⟨a,len,cap,elems,rest.map (·.1),rfl,hc.2.1,hc.2.2,by rw[<-h4],h1⟩
    ·cases h
theorem NS{fuel:Nat}{t:TypeId}{cs:List Value}{fs:Array Field}{x:DataW H×List MemPlace}(ht:P.underlying t=some (.struct fs))(h:DataW.trod enc P W base sp held (fuel+1) t cs=some x):cs.length=P.cellsOf t/\∃xs,fs.toList.mapM (λf=>DataW.trod enc P W base sp held fuel f.type ((cs.drop f.offset).take (P.cellsOf f.type)))=some xs/\x.1=.agg (xs.map (·.1)):=by
 unfold DataW.trod at h
 rw[ht]at h
 simp only at h
 split at h
 ·rename_i hl
  obtain⟨xs,h1,h2⟩:=vaL.1 h
  exact⟨hl,xs,h1,by rw[<-h2]⟩
 ·cases h
theorem P8{fuel k:Nat}{t e:TypeId}{cs:List Value}{x:DataW H×List MemPlace}(ht:P.underlying t=some (.array k e))(h:DataW.trod enc P W base sp held (fuel+1) t cs=some x):cs.length=P.cellsOf t/\∃xs,(List.range k).mapM (λi=>DataW.trod enc P W base sp held fuel e ((cs.drop (i * P.cellsOf e)).take (P.cellsOf e)))=some xs/\x.1=.agg (xs.map (·.1)):=by
 unfold DataW.trod at h
 rw[ht]at h
 simp only at h
 split at h
 ·rename_i hl
  obtain⟨xs,h1,h2⟩:=vaL.1 h
  exact⟨hl,xs,h1,by rw[<-h2]⟩
 ·cases h
theorem IF(a:Addr):a.add 0=a:=by unfold Addr.add;simp
theorem NK{w:World}{a:Addr}{v:Value}(h:w.cell? a=some v):a.spot=none:=by
 unfold World.cell? at h
 split at h
 ·split at h
  ·cases h
  ·rename_i hs;simpa using hs
 ·cases h
structure N6(P:Program)(L:List TypeId):Prop where
 st:∀t∈L,∀fs,P.underlying t=some (.struct fs)->nh P 0 fs.toList (P.cellsOf t)=true/\∀f∈fs.toList,f.type∈L
 sl:∀t∈L,∀e,P.underlying t=some (.slice e)->0<P.cellsOf e/\e∈L
 ar:∀t∈L,∀k e,P.underlying t=some (.array k e)->P.cellsOf t=k * P.cellsOf e/\e∈L
def LU(P:Program)(L:List TypeId)(t:TypeId):Bool:=match P.underlying t with
 |some (.struct fs)=>nh P 0 fs.toList (P.cellsOf t)&&fs.toList.all λf=>L.contains f.type
 |some (.slice e)=>decide (0<P.cellsOf e)&&L.contains e
 |some (.array k e)=>decide (P.cellsOf t=k * P.cellsOf e)&&L.contains e
 |_=>true
theorem QQ{L:List TypeId}(h:L.all (LU P L)=true):N6 P L:=by
 refine⟨λt ht fs hu=>?_,λt ht e hu=>?_,λt ht k e hu=>?_⟩
 ·have:=vao.1 h t ht
  unfold LU at this
  rw[hu]at this
  simp only[vae,vao,vbP]at this
  exact this
 ·have:=vao.1 h t ht
  unfold LU at this
  rw[hu]at this
  simpa using this
 ·have:=vao.1 h t ht
  unfold LU at this
  rw[hu]at this
  simpa using this
theorem Kw{L:List TypeId}(hF:N6 P L):∀(fuel:Nat) (t:TypeId),t∈L->∀(cs:List Value) (d:DataW H) (p:List MemPlace),DataW.trod enc P W base sp held fuel t cs=some (d,p)->Tz P W fuel t cs (Rows.uptoBulk d)
 |0,t,_,cs,d,p,h=>by simp[DataW.trod]at h
 | fuel + 1,t,htL,cs,d,p,h => by
  have ih:=Kw hF fuel
  have other:(∀l,Sh P (fuel+1) t l)->Tz P W (fuel+1) t cs (Rows.uptoBulk d):=λhs=>by
   refine⟨cs.map .val,by simp,λi q v hq hv=>?_,hs _,?_⟩
   ·simp only[vax,hv,vak,var]at hq
    subst hq;exact .val v
   ·have:∀cs:List Value,bU (cs.map .val)=0:=by
     intro cs
     induction cs with
     |nil=>rfl
     |cons c cs ih=>simp only[vaM,bU,ih,pm]
    rw[this];exact vaQ _
  cases hu:P.underlying t with
  |none=>exact other λl=>by unfold Sh;rw[hu];trivial
  | some u =>
   cases u with
   |bool=>
    obtain⟨b,rfl,hx⟩:=RB hu h
    simp only at hx;subst hx
    exact .one (.bool b) (by unfold Sh;rw[hu];exact⟨b,rfl⟩) (by simp[pm,Rows.uptoBulk])
   |int k=>
    obtain⟨n,rfl,hw,hx⟩:=Tg hu h
    simp only at hx;subst hx
    exact .one (.int k n) (by unfold Sh;rw[hu];exact⟨n,rfl,hw⟩) (by simp[pm,Rows.uptoBulk])
   |string=>
    obtain⟨s,rfl,hl,hx⟩:=NR hu h
    simp only at hx;subst hx
    exact .one (.str s.data.toList) (by unfold Sh;rw[hu];exact⟨s.data.toList,rfl,by rw[Array.length_toList];exact hl⟩) (by simp[pm,Rows.uptoBulk])
   |struct fs=>
    obtain⟨hl,xs,hxs,hx⟩:=NS hu h
    simp only at hx;subst hx
    obtain⟨_,l,k1,k2,k3,k4⟩:=Am ih (hF.st t htL fs hu).2 (by omega) (hF.st t htL fs hu).1 hxs
    refine⟨l,by omega,λi q v hq hv=>k2 i q v hq (by rw[vaG];exact hv),by unfold Sh;rw[hu];exact k3,by simp only[Rows.uptoBulk];omega⟩
   | array k e =>
    obtain⟨hl,xs,hxs,hx⟩:=P8 hu h
    simp only at hx;subst hx
    obtain⟨hca,heL⟩:=hF.ar t htL k e hu
    have hxl:xs.length=k:=by simpa using Lib.mapM_length hxs
    have hm:=GB (P:=P) (e:=e) (G:=λt o=>DataW.trod enc P W base sp held fuel t ((cs.drop o).take (P.cellsOf t))) (n:=k) (o:=0) (xs:=xs) hxl λi hi=>by
     obtain⟨y,hy,hb⟩:=Lib.mapM_at hxs i i (by simp[hi])
     rw[vaG,hy]
     exact hb
    have hc:=Bj (P:=P) (e:=e) (n:=k) (o:=0)
    rw[vaG]at hc
    obtain⟨_,l,k1,k2,k3,k4⟩:=Am ih (λf hf=>by rw[Gd f hf];exact heL) (by omega) hc hm
    refine⟨l,by omega,λi q v hq hv=>k2 i q v hq (by rw[vaG];exact hv),by unfold Sh;rw[hu];exact k3,by simp only[Rows.uptoBulk];omega⟩
   | slice e =>
    obtain⟨hz,heL⟩:=hF.sl t htL e hu
    rcases P9 hu h with⟨rfl,hx⟩|⟨a,len,cap,elems,rest,rfl,hlc,hcm,hx,hm⟩
    ·simp only at hx;subst hx
     exact .one .sliceNil (by unfold Sh;rw[hu];exact⟨[],rfl,by simp,by simp⟩) (by simp[pm,aN,Rows.uptoBulk])
    simp only at hx;subst hx
    have hel:elems.length=len:=by simpa using Lib.mapM_length hm
    have hat:∀i,i<len->∃x:List PVal,∃ci y,elems[i]? =some y/\W.cells? base (a.add (i * P.cellsOf e)) (P.cellsOf e)=some ci/\x.length=ci.length/\(∀(k:Nat) q v,x[k]? =some q->ci[k]? =some v->VR (tu W) [] W q v)/\Sh P fuel e x/\bU x<=Rows.uptoBulk y.1:=λi hi=>by
     obtain⟨y,hy,hb⟩:=Lib.mapM_at hm i i (by simp[hi])
     obtain⟨ci,hci,hd⟩:=vbb.1 hb
     obtain⟨x,k1,k2,k3,k4⟩:=ih e heL ci y.1 y.2 hd
     exact⟨x,ci,y,hy,hci,k1,k2,k3,k4⟩
    obtain⟨es,hes,hq⟩:=L1 hat
    have hbulk:aN es<=Rows.uptoBulkAll (elems.map (·.1)):=LC (by simp[hes,hel]) λi x d hx hd=>by
     obtain⟨ci,y,hy,_,_,_,_,hle⟩:=hq i x hx
     simp only[vax,hy,vak,var]at hd
     subst hd;exact hle
    have hsh:Sh P (fuel+1) t [.slice es]:=by
     unfold Sh;rw[hu]
     refine⟨es,rfl,by omega,λx hx=>?_⟩
     obtain⟨i,hi⟩:=va7.1 hx
     obtain⟨_,_,_,_,_,_,hs,_⟩:=hq i x hi
     exact hs
    refine .one ?_ hsh (by simp only[pm,Rows.uptoBulk];omega)
    by_cases h0:len=0
    ·subst h0
     obtain rfl:es=[]:=vai hes
     exact .sliceE a cap
    ·have hcell:∀i,i<len->∀k,k<P.cellsOf e->∃(x:List PVal) (ci:List Value),es[i]? =some x/\W.cell? ((a.add (i * P.cellsOf e)).add k)=ci[k]?/\ci.length=P.cellsOf e/\x.length=ci.length/\(∀(k:Nat) q v,x[k]? =some q->ci[k]? =some v->VR (tu W) [] W q v):=λi hi k hk=>by
      have hx:es[i]? =some es[i]:=vaa (by omega)
      obtain⟨ci,y,hy,hc,hl,hv,_,_⟩:=hq i _ hx
      obtain⟨_,hcl,hcc⟩:=World.cells?_some hc
      exact⟨_,ci,hx,hcc k hk,hcl,hl,hv⟩
     have hspot:a.spot=none:=by
      obtain⟨x,ci,_,h2,h3,_,_⟩:=hcell 0 (by omega) 0 hz
      rw[vcz,IF,IF,vaa (by omega)]at h2
      exact NK h2
     obtain⟨ab,ao,asp⟩:=a
     simp only at hspot;subst hspot
     have hadd:∀i k,((⟨ab,ao,none⟩:Addr).add (i * P.cellsOf e)).add k=⟨ab,ao+i * P.cellsOf e+k,none⟩:=λi k=>by
      rw[IE ⟨ab,ao,none⟩ _ rfl,IE _ _ rfl]
     have hcl:∀(i:Nat) x (k:Nat) q,es[i]? =some x->x[k]? =some q->∃v,W.cell? ⟨ab,ao+i * P.cellsOf e+k,none⟩=some v/\VR (tu W) [] W q v:=λi x k q hx hqk=>by
      have hi:i<len:=by have:=ag hx;omega
      obtain⟨ci,y,hy,hc,hl,hv,_,_⟩:=hq i x hx
      obtain⟨_,hcl,hcc⟩:=World.cells?_some hc
      have hk:k<P.cellsOf e:=by have:=ag hqk;omega
      have hck:ci[k]? =some ci[k]:=vaa (by omega)
      refine⟨ci[k],?_,hv k q _ hqk hck⟩
      rw[<-hadd,hcc k hk,hck]
     have hlen:∀(i:Nat) x,es[i]? =some x->x.length=P.cellsOf e:=λi x hx=>by
      obtain⟨ci,y,hy,hc,hl,_,_,_⟩:=hq i x hx
      exact hl.trans (World.cells?_some hc).2.1
     obtain⟨c,ty,fr,hh⟩:∃c ty fr,W.heap[ab]? =some (.cells c ty fr):=by
      obtain⟨x,ci,h1,h2,h3,h4,_⟩:=hcell 0 (by omega) 0 hz
      rw[hadd,vaa (by omega)]at h2
      unfold World.cell? at h2
      split at h2
      ·rename_i c ty fr hh;exact⟨c,ty,fr,hh⟩
      ·cases h2
     have hin:ao+es.length * P.cellsOf e<=c.size:=by
      obtain⟨x,ci,h1,h2,h3,h4,_⟩:=hcell (len - 1) (by omega) (P.cellsOf e - 1) (by omega)
      rw[hadd,vaa (by omega),cell_of_row W _ _ c ty fr hh]at h2
      have:=(vaf.1 h2).1
      have e1:(len - 1) * P.cellsOf e+P.cellsOf e=len * P.cellsOf e:=by
       have:len=(len - 1)+1:=by omega
       conv=>rhs;rw[this,vaN,vbw]
      rw[hes];omega
     have:=VR.slice (Γ:=tu W) (bs:=[]) (w:=W) es ab ao cap c.size (P.cellsOf e) (λi k=>(W.cell? ⟨ab,ao+i * P.cellsOf e+k,none⟩).getD undef) hz (by omega) (F9 hh) hin hlen
      (λi x k q hx hqk=>by obtain⟨v,h1,_⟩:=hcl i x k q hx hqk;rw[h1];rfl)
      (λi x k q hx hqk=>by obtain⟨v,h1,h2⟩:=hcl i x k q hx hqk;rw[h1];exact h2)
     rw[hes]at this
     exact this
   |_=>exact other λl=>by unfold Sh;rw[hu];trivial
end
end Go.Proofs.YtjddnhkahpfhdaaGreatDoor
namespace Go.Proofs.YtjddnhkahpfhdaaGreatDoor
open Go
set_option linter.unusedVariables false
abbrev In(P:Program)(t:TypeId){α:Type}(c:α->List PVal):Prop:=∀n l,Sh P n t l->∃x,l=c x
section
variable{P:Program}{t e:TypeId}{α:Type}{c:α->List PVal}
theorem I7{k:IntKind}(hu:P.underlying t=some (.int k)):In P t (cI k):=λn l h=>by
 cases n with
 |zero=>exact h.elim
 |succ n=>
  unfold Sh at h
  rw[hu]at h
  obtain⟨i,rfl,_⟩:=h
  exact⟨i,rfl⟩
theorem V7(hu:P.underlying t=some .bool):In P t cB:=λn l h=>by
 cases n with
 |zero=>exact h.elim
 |succ n=>
  unfold Sh at h
  rw[hu]at h
  obtain⟨i,rfl⟩:=h
  exact⟨i,rfl⟩
theorem jj(hu:P.underlying t=some .string):In P t cS:=λn l h=>by
 cases n with
 |zero=>exact h.elim
 |succ n=>
  unfold Sh at h
  rw[hu]at h
  obtain⟨i,rfl,_⟩:=h
  exact⟨i,rfl⟩
theorem Jf:∀{es:List (List PVal)},(∀x∈es,∃y,x=c y)->∃ys:List α,es=ys.map c
 |[],_=>⟨[],rfl⟩
 |x::es,h=>by
  obtain⟨y,rfl⟩:=h x (by simp)
  obtain⟨ys,rfl⟩:=Jf λz hz=>h z (vaH _ hz)
  exact⟨y::ys,rfl⟩
theorem DI(hu:P.underlying t=some (.slice e)){n:Nat}(hE:∀m,m<n->∀l,Sh P m e l->∃x,l=c x)(l:List PVal)(h:Sh P n t l):∃xs,l=cL c xs:=by
 cases n with
 |zero=>exact h.elim
 |succ n=>
  unfold Sh at h
  rw[hu]at h
  obtain⟨es,rfl,_,h⟩:=h
  obtain⟨ys,rfl⟩:=Jf λx hx=>hE n (vb3 n) x (h x hx)
  exact⟨ys,rfl⟩
theorem kg(hu:P.underlying t=some (.slice e))(hE:In P e c):In P t (cL c):=λn l h=>DI hu (λm _=>hE m) l h
theorem Jx:∀(es:List (List PVal)),(∀x∈es,1<=bU x)->es.length<=aN es
 |[],_=>by simp[aN]
 |x::es,h=>by
  have h1:=h x (by simp)
  have h2:=Jx es λy hy=>h y (vaH _ hy)
  simp only[aN,vaZ];omega
theorem qL:∀{es:List (List PVal)} {x:List PVal},x∈es->bU x<=aN es
 | y :: es,x,h => by
  simp only[aN]
  rcases vat.1 h with rfl|h
  ·omega
  ·have:=qL h;omega
end
section
variable{H:Type}{enc:TypeId×Value->H}{P:Program}{W:World}{base b0:Nat}{sp:Nat->Bool}{held:Bool}{t e:TypeId}{v:Value}{d:DataW H}{p:List MemPlace}{L:List TypeId}
theorem MR(hF:N6 P L)(hL:t∈L){fs:Array Field}(hu:P.underlying t=some (.struct fs))(h:DataW.Trod enc P W base sp held t v d p)(hv:Value.okWide P W .any b0 t v):∃n l,VR (tu W) [] W (.agg l) v/\Sh P n t l/\bU l<=Rows.uptoBulk d:=by
 obtain⟨n,h⟩:=h
 unfold Value.okWide at hv
 rw[hu]at hv
 obtain⟨cs,rfl,_,_⟩:=hv
 obtain⟨l,h1,h2,h3,h4⟩:=Kw hF n t hL _ d p h
 refine⟨n,l,.agg l cs ?_ λi q u hq hu'=>h2 i q u hq ?_,h3,h4⟩
 ·have:(Value.agg cs).cells.toList.length=cs.size:=by simp[Value.cells]
  omega
 ·show cs.toList[i]? =some u
  rw[va0];exact hu'
theorem OJ(hF:N6 P L)(hL:t∈L){k:Nat}{e:TypeId}(hu:P.underlying t=some (.array k e))(h:DataW.Trod enc P W base sp held t v d p)(hv:Value.okWide P W .any b0 t v):∃n l,VR (tu W) [] W (.agg l) v/\Sh P n t l/\bU l<=Rows.uptoBulk d:=by
 obtain⟨n,h⟩:=h
 unfold Value.okWide at hv
 rw[hu]at hv
 obtain⟨cs,rfl,_,_⟩:=hv
 obtain⟨l,h1,h2,h3,h4⟩:=Kw hF n t hL _ d p h
 refine⟨n,l,.agg l cs ?_ λi q u hq hu'=>h2 i q u hq ?_,h3,h4⟩
 ·have:(Value.agg cs).cells.toList.length=cs.size:=by simp[Value.cells]
  omega
 ·show cs.toList[i]? =some u
  rw[va0];exact hu'
end
def Qy(n:Nat):av->Prop
 |.dead=>True
 |.cells cs _=>dU n cs
 |.map es=>∀x∈es,x.1.cl n/\x.2.cl n
def MH(n:Nat):List av->Prop
 |[]=>True
 |B::l=>Qy n B/\MH n l
theorem I1{k:Nat}:∀{ps qs:List PVal},Gp ps qs=qs->dU k qs->oG k ps qs
 |[],[],_,_=>trivial
 |[],_::_,h,_=>by simp[Gp]at h
 |p::ps,[],h,_=>by simp[Gp]at h
 |p::ps,q::qs,h,hc=>by
  obtain⟨hc1,hc2⟩:=hc
  cases q<;>simp only[Gp,vbM]at h<;>refine⟨?_,I1 h.2 hc2⟩<;>first|exact .inl rfl|exact .inr ⟨h.1,hc1⟩
theorem MQ{k:Nat}{p q:av}(h:oR p q=q)(hc:Qy k q):lI k p q:=by
 cases q with
 |dead=>cases p<;>simp[lI]
 | cells cs own =>
  cases p with
  | cells cs0 own0 =>
   simp only[oR,av.cells.injEq]at h
   obtain⟨rfl,h⟩:=h
   refine⟨rfl,hc,λx hx=>?_⟩
   split at h
   ·rename_i ha
    simpa using vao.1 ha x hx
   ·rw[h];exact hx
  |map es=>simp[oR]at h
  |dead=>simp[oR]at h
 |map es=>
  have h':p=.map es:=by cases p<;>simp[oR]at h ⊢<;>exact h
  subst h'
  exact⟨rfl,hc⟩
theorem IZ{k:Nat}:∀{ps qs:List av},J1 (ps.take qs.length) qs=qs->MH k qs->fa k ps qs
 |_,[],_,_=>by unfold fa;trivial
 |[],_::_,h,_=>by simp[J1]at h
 |p::ps,q::qs,h,hc=>by
  obtain⟨hc1,hc2⟩:=hc
  rw[vaZ,List.take_succ_cons]at h
  simp only[J1,vbM]at h
  exact⟨MQ h.1 hc1,IZ h.2 hc2⟩
def Vb(m:Nat)(st st0:az):Prop:=Gp st.tmps st0.tmps=st0.tmps/\J1 (st.boxes.take st0.boxes.length) st0.boxes=st0.boxes/\(st0.own.all λx=>decide (x∈st.own))=true/\decide (m % 1000<=st0.boxes.length)=true/\
 dU st0.boxes.length st0.tmps/\MH st0.boxes.length st0.boxes
theorem Vb.weak{P:Program}{m:Nat}{st st0:az}(h:Vb m st st0):oQ P m st st0:=by
 obtain⟨h1,h2,h3,h4,h5,h6⟩:=h
 exact .of_less ⟨I1 h1 h5,IZ h2 h6,λx hx=>by simpa using vao.1 h3 x hx⟩ (by simpa using h4)
def Wt(m:Nat)(e0:Exit)(st0:az):Exit->List It->az->Prop:=λe _ st=>e0=e/\Vb m st st0
mutual
theorem LG{n m:Nat}(hnm:n<=m):∀(p:PVal),p.cl n->p.cl m
 |.undef,_=>by simp[PVal.cl]
 |.int _ _,_=>by simp[PVal.cl]
 |.bool _,_=>by simp[PVal.cl]
 |.str _,_=>by simp[PVal.cl]
 |.val _,_=>by simp[PVal.cl]
 |.agg cs,h=>by simp only[PVal.cl]at h ⊢;exact lW hnm cs h
 |.tuple cs,h=>by simp only[PVal.cl]at h ⊢;exact lW hnm cs h
 |.slice es,h=>by simp only[PVal.cl]at h ⊢;exact Gg hnm es h
 |.eptr cs,h=>by simp only[PVal.cl]at h ⊢;exact lW hnm cs h
 |.bptr i _,h=>by simp only[PVal.cl]at h ⊢;omega
 |.bsl i _ _,h=>by simp only[PVal.cl]at h ⊢;omega
 |.mapr i,h=>by simp only[PVal.cl]at h ⊢;omega
 |.nptr i _,h=>by simp only[PVal.cl]at h ⊢;omega
 |.func _ f c,h=>by simp only[PVal.cl]at h ⊢;exact⟨lW hnm f h.1,lW hnm c h.2⟩
theorem lW{n m:Nat}(hnm:n<=m):∀(l:List PVal),dU n l->dU m l
 |[],_=>by simp[dU]
 |p::l,h=>by simp only[dU]at h ⊢;exact⟨LG hnm p h.1,lW hnm l h.2⟩
theorem Gg{n m:Nat}(hnm:n<=m):∀(l:List (List PVal)),lV n l->lV m l
 |[],_=>by simp[lV]
 |p::l,h=>by simp only[lV]at h ⊢;exact⟨lW hnm p h.1,Gg hnm l h.2⟩
end
theorem Sx{n:Nat}{l:List PVal}(h:dU 0 l):dU n l:=lW (vaQ n) l h
theorem up{n:Nat}{p:PVal}(h:p.cl 0):p.cl n:=LG (vaQ n) p h
theorem VO{n:Nat}{α:Type}(f:α->PVal)(h:∀x,(f x).cl 0)(l:List (ai×α)):Qy n (.map (jO f l)):=by
 intro x hx
 obtain⟨y,_,rfl⟩:=vah.1 hx
 exact⟨vzz,up (h y.2)⟩
def Qq:TypeDesc->Bool
 |.struct _=>true
 |.array _ _=>true
 |_=>false
theorem gW{P:Program}{t:TypeId}{l r:List PVal}(h:(P.underlying t).any Qq=true)(hc:P.cellsOf t=l.length):aC P t (l++r)=some (.agg l):=by
 unfold aC
 split
 ·rw[vaA (by rw[hc];simp),hc,vbK]
 ·rw[vaA (by rw[hc];simp),hc,vbK]
 ·rename_i d h1 h2 hd
  rw[hd]at h
  cases d<;>simp_all[Qq]
 ·rename_i hd;rw[hd]at h;cases h
section
variable{X Y:Type}
def Ui(F:(X->Option Y)->X->Option Y):Nat->X->Option Y
 |0,_=>none
 |n+1,x=>F (Ui F n) x
end
theorem xR(ρ:List Nat)(p:PVal)(h:p.cl 0):rm ρ p p:=.refl p h
theorem xM(ρ:List Nat)(i j:Nat)(h:ρ[i]? =some j):rm ρ (.mapr j) (.mapr i):=.mapr i j h
theorem xA(ρ:List Nat)(f f':List PVal)(h:Ac ρ f f'):rm ρ (.agg f) (.agg f'):=.agg f f' h.len h.get
theorem jy{a a':PVal}{l l':List PVal}(h:a=a')(h':l=l'):a::l=a'::l':=by rw[h,h']
open Go Go.Shelf Go.RowKit Go.Lib
variable{P:Program}{ρ:Ren}
theorem Hd{w:World}(base:Nat)(t ty e:TypeId)(i:TypeInfo)(z:Value)(ht:P.underlying t=some (.slice e))(hi:P.info? e=some i)(hz:i.zero=some z)
  (v:Value) (n:Nat) (xs:List Value) (hown:w.ownsRow base e i.size v n xs)
  (a:Addr) (m c:Nat) (news:List Value) (hl:news.length=m * i.size) (hnews:∀j u,news[j]? =some u->w.cell? (a.add j)=some u) (h1:∀u∈news,u.oneCell'=true)
  (h63:n+m<=maxLen) (hbytes:(n+m) * i.bytes<=140737488355328) {v':Value} {w':World} (hr:(Builtin.append_ #[t,t] ty #[v,.slice (some a) m c]).run P w=.ok v' w'):w.drawn<=w'.drawn:=by
 have hsmall:n+m<=9223372036854775807:=by simp only[maxLen]at h63;omega
 rcases hown.2 with⟨rfl,rfl⟩|⟨g,cap,cur,rfl,hbg,hg,hnc,hcm,hcs,htake⟩
 ·by_cases hm:m=0
  ·subst hm
   have hn:news=[]:=vai (by simpa using hl)
   subst hn
   have:(Builtin.append_ #[t,t] ty #[.slice none 0 0,.slice (some a) 0 c]).run P w=.ok (.slice none 0 0) w:=by
    simp[Builtin.append_,run_underlying ht,Go.sizeOf,typeInfo,hi,Builtin.lenOf,Builtin.firstCells,loadCells,loadCellsFrom]
   rw[this]at hr;cases hr;exact vaj _
  ·rw[run_append_nil (P:=P) w t ty e i z ht hi hz a m c news hl hnews (by omega) (by omega) (by have hb:=hbytes;simp only[vaG]at hb;omega)]at hr
   cases hr;exact vb7 _
 ·by_cases hroom:n+m<=cap
  ·have hfit:n * i.size+news.length<=cur.size:=by rw[hl,hcs,<-vaN];exact vaK _ hroom
   rw[run_append_room (P:=P) w t ty e i ht hi g n cap cur hg a m c news hl hnews h1 hroom hfit]at hr
   cases hr;exact vaj _
  ·have holds:∀j u,xs[j]? =some u->w.cell? ((⟨g,0,none⟩:Addr).add j)=some u:=hown.cells (g:=g) rfl
   rw[run_append_grow (P:=P) w t ty e i z ht hi hz ⟨g,0,none⟩ n cap xs hown.1 holds a m c news hl hnews (by omega) (by omega) (growslice_fits (by omega) hbytes)]at hr
   cases hr;exact vb7 _
theorem EO(w:World){o:Oper}{a:Act}{K:Act->World->Prop}{Q:Exit->Act->World->Prop}(s x:Operand)(t:TypeId)
  (ho:o.op=.call {callee:=.builtin .append,args:=#[s,x],argTypes:=#[t,t]})
  (base:Nat) (e:TypeId) (i:TypeInfo) (z:Value) (size bytes:Nat) (ht:P.underlying t=some (.slice e)) (hi:P.info? e=some i) (hz:i.zero=some z)
  (hsize:i.size=size) (hby:i.bytes=bytes) (hzs:z.cells.size=size) (hsz:0<size)
  (v:Value) (n:Nat) (xs:List Value) (hs:a.eval s=v) (hown:w.ownsRow base e size v n xs)
  (ad:Addr) (m c:Nat) (news:List Value) (hx:a.eval x=.slice (some ad) m c) (hl:news.length=m * size) (hnews:∀j u,news[j]? =some u->w.cell? (ad.add j)=some u) (h1:∀u∈news,u.oneCell'=true)
  (h63:n+m<=maxLen) (hbytes:(n+m) * bytes<=140737488355328) (hbase:base<=w.heap.size)
  (h:∀v' w',w'.ownsRow base e size v' (n+m) (xs++news)->w.grownBy w' v.ownBlock->w.drawn<=w'.drawn->K (a.put o.dst v') w'):o.wp P a w K Q:=by
 obtain⟨v',w',hr,h2,h3,_⟩:=run_append_own (P:=P) w base t o.type e i z size bytes ht hi hz hsize hby hzs hsz v n xs hown ad m c news hl hnews h1 h63 hbytes hbase
 subst hsize
 subst hby
 have hd:=Hd (P:=P) base t o.type e i z ht hi hz v n xs hown ad m c news hl hnews h1 h63 hbytes hr
 unfold Oper.wp execOp
 simp only[ho,resolve,invoke,builtin,Sem.run_bind,Sem.run_pure,Result.andThen_ok,vcT,vaM,vbV,hs,hx,hr]
 exact h v' w' h2 h3 hd
theorem oP(w:World){ops:Array Oper}{rest:List Oper}{o:Oper}{a:Act}{Q:Exit->Act->World->Prop}(hgd:o.guard=none)(s x:Operand)(t:TypeId)
  (ho:o.op=.call {callee:=.builtin .append,args:=#[s,x],argTypes:=#[t,t]})
  (base:Nat) (e:TypeId) (i:TypeInfo) (z:Value) (size bytes:Nat) (ht:P.underlying t=some (.slice e)) (hi:P.info? e=some i) (hz:i.zero=some z)
  (hsize:i.size=size) (hby:i.bytes=bytes) (hzs:z.cells.size=size) (hsz:0<size)
  (v:Value) (n:Nat) (xs:List Value) (hs:a.eval s=v) (hown:w.ownsRow base e size v n xs)
  (ad:Addr) (m c:Nat) (news:List Value) (hx:a.eval x=.slice (some ad) m c) (hl:news.length=m * size) (hnews:∀j u,news[j]? =some u->w.cell? (ad.add j)=some u) (h1:∀u∈news,u.oneCell'=true)
  (h63:n+m<=maxLen) (hbytes:(n+m) * bytes<=140737488355328) (hbase:base<=w.heap.size)
  (h:∀v' w',w'.ownsRow base e size v' (n+m) (xs++news)->w.grownBy w' v.ownBlock->w.drawn<=w'.drawn->wpList P ops Q rest (a.put o.dst v') w'):wpList P ops Q (o::rest) a w:=
 wpList_plain hgd λ_ hK=>EO w s x t ho base e i z size bytes ht hi hz hsize hby hzs hsz v n xs hs hown ad m c news hx hl hnews h1 h63 hbytes hbase λv' w' h2 h3 h4=>hK _ _ (h v' w' h2 h3 h4)
set_option maxHeartbeats 2000000 in
set_option maxRecDepth 100000 in
theorem Kl(L:SlLaysE0.n41 P ρ)(i0:TypeInfo)(z:Value)(size bytes:Nat)(hi:P.info? (ρ.t 23)=some i0)(hz0:i0.zero=some z)(hz1:i0.size=size)(hz2:i0.bytes=bytes)(hzs:z.cells.size=size)(hsz:0<size)
  (z23:∀w,(Go.sizeOf (ρ.t 23)).run P w=.ok size w) (b off n c:Nat) (news:List Value) (w:World) (hl:news.length=n * size) (hn:n<=maxLen) (hbig:n * bytes<=140737488355328)
  (hc:∀j u,news[j]? =some u->w.cell? ⟨b,off+j,none⟩=some u) (h1:∀u∈news,u.oneCell'=true):
  Calls P (ρ.f 41) #[.slice (some ⟨b,off,none⟩) n c] w λe w'=>∃v',e=.returned v'/\w'.ownsRow w.heap.size (ρ.t 23) size v' n news/\(Below w.heap.size w w'/\w.drawn<=w'.drawn):=by
 have mixed:=L.mixed;have t4:=L.t4;have a4:=L.a4;have z4:=L.z4;have v4:=L.v4;have t22:=L.t22;have a22:=L.a22;have z22:=L.z22;have v22:=L.v22
 have q22:∀(w:World) (a:Option Addr) (n c n' c':Nat),(binOp .eql (ρ.t 22) (.slice a n c) (.slice none n' c')).run P w=.ok (.bool a.isNone) w:=λw a n c n' c'=>Lib.run_eql_slice_nil w _ _ a n c n' c' L.t22
 have u22:∀w,Sem.run P (underlying (ρ.t 22)) w=.ok (TypeDesc.slice (ρ.t 23)) w:=run_underlying t22
 have A:Aside (∀j u,news[j]? =some u->w.cell? ⟨b,off+j,none⟩=some u):=hc
 clear hc
 obtain⟨_,_,FG⟩:=L.f41
 go_enter FG,SlBodyN.n41_ntmps ρ
 go_wp2_with (at_builtin;refine oP _ rfl _ _ (ρ.t 22) rfl w.heap.size (ρ.t 23) i0 z size bytes t22 hi hz0 hz1 hz2 hzs hsz _ _ _ rfl (World.ownsRow_made w #[] 0 (vaj _) (vaQ _) (by simp)) ⟨b,off,none⟩ n c news rfl ?qc1 ?qc2 ?qc3 ?qc4 ?qc5 ?qc6 ?_)
 case qc1=>exact hl
 case qc2=>
  intro j u hj
  rw[Addr.add_lit]
  exact Lib.cell?_alloc_some _ (A.out j u hj)
 case qc3=>exact h1
 case qc4=>rw[vaG];exact hn
 case qc5=>rw[vaG];exact hbig
 case qc6=>simp
 intro v' w1 hown hgrow hdr
 go_wp2
 go_ret
 refine⟨v',rfl,by simpa using hown,?_,hdr⟩
 exact((Below.refl _ w).alloc (vaj _) _).grown hgrow (by simp) (by intro k hk;simp[Value.ownBlock]at hk;omega)
set_option maxHeartbeats 2000000 in
set_option maxRecDepth 100000 in
theorem IW(L:SlLaysE0.n41 P ρ)(i0:TypeInfo)(z:Value)(hi:P.info? (ρ.t 23)=some i0)(hz0:i0.zero=some z)(hzs:z.cells.size=i0.size)(hsz:0<i0.size)
  (z23:∀w,(Go.sizeOf (ρ.t 23)).run P w=.ok i0.size w) (ad:Addr) (c:Nat) (w:World):
  Calls P (ρ.f 41) #[.slice (some ad) 0 c] w λr w'=>∃v',r=.returned v'/\w'.ownsRow w.heap.size (ρ.t 23) i0.size v' 0 []/\(Below w.heap.size w w'/\w.drawn<=w'.drawn):=by
 have mixed:=L.mixed;have t4:=L.t4;have a4:=L.a4;have z4:=L.z4;have v4:=L.v4;have t22:=L.t22;have a22:=L.a22;have z22:=L.z22;have v22:=L.v22
 have q22:∀(w:World) (a:Option Addr) (n c n' c':Nat),(binOp .eql (ρ.t 22) (.slice a n c) (.slice none n' c')).run P w=.ok (.bool a.isNone) w:=λw a n c n' c'=>Lib.run_eql_slice_nil w _ _ a n c n' c' L.t22
 have u22:∀w,Sem.run P (underlying (ρ.t 22)) w=.ok (TypeDesc.slice (ρ.t 23)) w:=run_underlying t22
 obtain⟨_,_,FG⟩:=L.f41
 go_enter FG,SlBodyN.n41_ntmps ρ
 go_wp2_with (at_builtin;refine oP _ rfl _ _ (ρ.t 22) rfl w.heap.size (ρ.t 23) i0 z i0.size i0.bytes t22 hi hz0 rfl rfl hzs hsz _ _ _ rfl (World.ownsRow_made w #[] 0 (vaj _) (vaQ _) (by simp)) ad 0 c [] rfl (by simp) (by simp) (by simp) (by simp) (by simp) (by simp) ?_)
 intro v' w1 hown hgrow hdr
 go_wp2
 go_ret
 exact⟨v',rfl,by simpa using hown,((Below.refl _ w).alloc (vaj _) _).grown hgrow (by simp) (by intro k hk;simp[Value.ownBlock]at hk;omega),hdr⟩
theorem MJ(L:SlLaysE0.n41 P ρ)(i0:TypeInfo)(z:Value)(hi:P.info? (ρ.t 23)=some i0)(hz0:i0.zero=some z)(hzs:z.cells.size=i0.size)(hsz:0<i0.size)(hby:i0.bytes<=65536)
  (hcall:∀vs w,(callFunc (ρ.f 41) vs).run P w=.ok (.enter (ρ.f 41) vs) w):rr P (ρ.f 41) (ρ.t 23):=by
 have hc:P.cellsOf (ρ.t 23)=i0.size:=by simp[Program.cellsOf,hi]
 have z23:∀w,(Go.sizeOf (ρ.t 23)).run P w=.ok i0.size w:=λw=>by rw[<-hc];exact run_sizeOf w hi
 refine⟨hcall,λw x n news hx hl h1 hn=>?_⟩
 rw[hc]at hl ⊢
 rcases hx with⟨rfl,rfl⟩|⟨a,c,rfl,hcell⟩
 ·have hnews:news=[]:=vai (by simpa using hl)
  subst hnews
  refine(AnyE.slices_Clone_nil L 0 0 w).mono λr w' hr=>?_
  obtain⟨rfl,rfl⟩:=hr
  exact⟨_,rfl,World.ownsRow_nil _ _ _ _,Below.refl _ _,vaj _⟩
 ·by_cases h0:n=0
  ·subst h0
   have hnews:news=[]:=vai (by simpa using hl)
   subst hnews
   exact IW L i0 z hi hz0 hzs hsz z23 a c w
  ·have hpos:0<news.length:=by rw[hl];exact vcV (Nat.pos_of_ne_zero h0) hsz
   have hsp:a.spot=none:=by
    have hk:=hcell 0 _ (vaa hpos)
    unfold Addr.add at hk
    simp only[if_true]at hk
    unfold World.cell? at hk
    split at hk
    ·split at hk
     ·cases hk
     ·rename_i hs;simpa using hs
    ·cases hk
   obtain⟨b,off,sp⟩:=a
   simp only at hsp
   subst hsp
   refine Kl L i0 z i0.size i0.bytes hi hz0 rfl rfl hzs hsz z23 b off n c news w hl (by unfold maxLen;unfold cy at hn;omega) ?_ (λj u hj=>by rw[<-Addr.add_lit];exact hcell j u hj) h1
   have:n * i0.bytes<=1073741824 * 65536:=vb0 (by unfold cy at hn;omega) hby
   omega
theorem MI(L:SlLaysE0.n41 P ρ){f:FuncId}{e:TypeId}(hf:ρ.f 41=f)(he:ρ.t 23=e)(hq:(P.info? e).any (λi=>(i.zero.any λz=>z.cells.size==i.size)&&decide (0<i.size)&&decide (i.bytes<=65536))=true)
  (hcall:∀vs w,(callFunc f vs).run P w=.ok (.enter f vs) w):rr P f e:=by
 subst hf;subst he
 cases hi:P.info? (ρ.t 23)with
 |none=>rw[hi]at hq;cases hq
 | some i0 =>
  rw[hi]at hq
  simp only[Option.any_some,vae,vam]at hq
  obtain⟨⟨h1,h2⟩,h3⟩:=hq
  cases hz:i0.zero with
  |none=>rw[hz]at h1;cases h1
  |some z=>
   rw[hz]at h1
   simp only[Option.any_some,vaY]at h1
   exact MJ L i0 z hi hz h1 h2 h3 hcall
end Go.Proofs.YtjddnhkahpfhdaaGreatDoor
namespace Go.Proofs.YtjddnhkahpfhdaaGreatDoor
open Go
def py{α:Type}(c:α->List PVal)(l:List α):List PVal:=(l.map c).flatten
def Kh{α:Type}(l:List α):Option (List α):=if l.length<=cy then some l else none
section
variable{P:Program}{GE:List (Nat×List PVal)}{T e:TypeId}{α:Type}{c:α->List PVal}
theorem IV{l r:List α}(h:Kh l=some r):l.length<=cy/\r=l:=by
 unfold Kh at h
 split at h
 ·rename_i hl;cases h;exact⟨hl,rfl⟩
 ·cases h
theorem tJ.mapOk(s:tJ P T e c)(l:List α):∀x∈l.map c,x.length=P.cellsOf e/\∀q∈x,q.one=true:=λx hx=>by
 obtain⟨y,_,rfl⟩:=vah.1 hx
 exact⟨s.hc y,s.ho y⟩
theorem tJ.flat_len(s:tJ P T e c)(l:List α):(py c l).length=l.length * P.cellsOf e:=by
 unfold py
 rw[Go.Proofs.YtjddnhkahpfhdaaGreatDoor.flat_len (sz:=P.cellsOf e) (λx hx=>(s.mapOk l x hx).1)]
 simp
end
def PS(_:List It)(F:Prop):Prop:=F
section
variable{sc:List It}{F X Y:Prop}
theorem en(h:F):PS [] F:=h
theorem sv{o:Option PVal}{p:PVal}(h:o=some p)(r:PS sc F):PS (.v p::sc) (o=some p/\F):=⟨h,r⟩
theorem U8{o:List av->Option PVal}{p:PVal}(h:∀H,o H=some p)(r:PS sc F):PS (.v p::sc) ((∀H,o H=some p)/\F):=⟨h,r⟩
theorem sx{o:Option (List PVal)}{l:List PVal}(h:o=some l)(r:PS sc F):PS (.x l::sc) (o=some l/\F):=⟨h,r⟩
theorem se{o:Option (List PVal)}{l:List PVal}(h:o=some l)(r:PS sc F):PS (.e l::sc) (o=some l/\F):=⟨h,r⟩
theorem sg(n:Nat){x b:Bool}(h:x=b)(r:PS sc F):PS (.g n b::sc) (x=b/\F):=⟨h,r⟩
theorem sk(r:PS sc F):PS (.k::sc) F:=r
theorem ss(r:PS sc F):PS (.s::sc) F:=r
theorem Ta{P:Program}{GE:List (Nat×List PVal)}{g:FuncId}{vs:List PVal}{p:PVal}{ro:List (Nat×TypeId)}(h:CC P GE g vs p ro)(r:PS sc F):PS (.c p ro::sc) (CC P GE g vs p ro/\F):=⟨h,r⟩
theorem sz{o:Option PVal}{l:List PVal}(h:o=some (.agg l))(r:PS sc F):PS (.z l::sc) (o=some (.agg l)/\F):=⟨h,r⟩
theorem sf(h:X)(r:PS sc F):PS sc (X/\F):=⟨h,r⟩
theorem Wp(i:Nat)(es:List (List PVal))(lv rk:List Nat)(h:X)(h':Y){Z:Prop}(h'':Z)(r:PS sc F):PS (.fz i es lv rk::sc) (X/\Y/\Z/\F):=⟨h,h',h'',r⟩
end
section
variable{P:Program}{GE:List (Nat×List PVal)}{A:List Nat}{m:Nat}
theorem cN(hf:P.follows .mixedOrders=true){c:Code}{e0:Exit}{st0 st:az}{sc:List It}{F:Prop}(h:PS sc F)(he:F=Bm P GE A m c sc st (FN e0 st0)):cQ P GE m c (EX e0 st0) st:=piece hf sc (Eq.mp he h)
theorem C.evp(hf:P.follows .mixedOrders=true){f:FuncId}{fn:Func}{c:Code}{args:List PVal}{r:PVal}{ro:List (Nat×TypeId)}
  (hcall:∀vs w,(callFunc f vs).run P w=.ok (.enter f vs) w) (hfn:P.funcs[f]? =some fn) (hb:fn.body=some c) (hcl:dU 0 args) {sc:List It} {F:Prop} (h:PS sc F)
  (he:F=Bm P GE A 0 c sc ⟨args++List.replicate (fn.ntmps - args.length) .undef,[],[]⟩ (FR P fn.results.toList r ro)):CC P GE f args r ro:=C.ev hf hcall hfn hb hcl sc (Eq.mp he h)
end
def tm(n:Nat):Nat->List (Nat×PVal)->List PVal
 |k,[]=>List.replicate (n - k) .undef
 |k,x::l=>List.replicate (x.1 - k) .undef++x.2::tm n (x.1+1) l
abbrev cc(n:Nat)(l:List (Nat×PVal))(H:List av)(o:List ((Nat×Nat)×TypeId)):az:=⟨tm n 0 l,H,o⟩
def IS(n:Nat):List (Nat×PVal)->Prop
 |[]=>True
 |x::l=>x.2.cl n/\IS n l
theorem Hl{n:Nat}{l:List PVal}(h:dU n l):∀k,dU n (List.replicate k .undef++l)
 |0=>h
 |k+1=>by rw[List.replicate_succ,vaS];exact⟨vzz,Hl h k⟩
theorem pp{n N:Nat}:∀{l:List (Nat×PVal)} {k:Nat},IS n l->dU n (tm N k l)
 |[],k,_=>by unfold tm;have:=Hl (n:=n) (l:=[]) trivial (N - k);rwa[vbe]at this
 |x::l,k,h=>by unfold tm;exact Hl (l:=x.2::tm N (x.1+1) l) (by simp only[dU];exact⟨h.1,pp h.2⟩) _
def bits:Nat->Nat->List Bool->List Bool
 |0,_,l=>l
 |k+1,n,l=>if n<=1 then l else bits k (n / 2) ((n % 2==1)::l)
def cA(c:Code)(n:Nat):Code:=bg c (bits 100 n [])
section
variable{X Y:Type}
def oc(F:(X->Option Y)->X->Option Y)(x:X):Option Y:=Ui F RH x
theorem Sr:18446744073709551616<RH:=by unfold RH;omega
theorem cV{F:(X->Option Y)->X->Option Y}{M:X->Y->Prop}(hF:∀rec:X->Option Y,(∀x r,rec x=some r->M x r)->∀x r,F rec x=some r->M x r){x:X}{r:Y}(h:oc F x=some r):M x r:=by
 have key:∀n x r,Ui F n x=some r->M x r:=by
  intro n
  induction n with
  |zero=>intro x r h;cases h
  |succ n ih=>intro x r h;exact hF _ ih x r h
 exact key _ x r h
theorem nl{F:(X->Option Y)->X->Option Y}(μ:X->Nat)(Q:X->Prop)(s:X->Y)(h:∀(R:X->Option Y) x,Q x->(∀y,μ y<μ x->Q y->R y=some (s y))->F R x=some (s x))(x:X)(hx:Q x)(hm:μ x<RH):oc F x=some (s x):=by
 have key:∀n x,μ x<n->Q x->Ui F n x=some (s x):=by
  intro n
  induction n with
  |zero=>intro x hx;omega
  |succ n ih=>intro x hx hq;exact h _ x hq λy hy hqy=>ih y (by omega) hqy
 exact key _ x hm hx
end
section
variable{P:Program}{GE:List (Nat×List PVal)}{T e:TypeId}{α:Type}{c:α->List PVal}
theorem VV{m b:Nat}(hb:decide (m % 1000<=b)=true)(l:List PVal)(hl:decide (l.length≠0)=true):(m % 1000<=b)/\∃sz,0<sz/\∀x∈[l],x.length=sz:=⟨vaI hb,l.length,by have:=vaI hl;omega,λx hx=>by rw[vbd.1 hx]⟩
theorem VW(b:Nat){l:List PVal}(h:dU 0 l):DV b [l]:=xE b _ ⟨h,vzz⟩
theorem VX{l r:List PVal}(h:r=l):l=[r].flatten:=by rw[h];simp
theorem U4(b:Nat){p:PVal}(h:p.cl 0):p.no b:=DW b p h
theorem KQ(b:Nat){p:List PVal}(h:dU 0 p):(PVal.eptr p).no b:=DW b _ h
end
theorem Xj(ρ:List Nat):∀(l:List PVal),dU 0 l->Ac ρ l l
 |[],_=>trivial
 |p::l,h=>by simp only[dU]at h;exact⟨.refl p h.1,Xj ρ l h.2⟩
theorem eF(e:Exit)(s:az):PS [] (e=e/\s.tmps=s.tmps/\s.boxes=s.boxes/\true=true):=⟨rfl,fr s⟩
inductive Tr(R:Type):Type 1 where
 |lf (r:R)
 |it (i:It) (t:Tr R)
 |bd {α:Type} (o:Option α) (k:α->Tr R)
 |br (b:Bool) (s t:Tr R)
 |bs {α β:Type} (o:Option (α⊕β)) (s:α->Tr R) (t:β->Tr R)
 |b3 {α β γ:Type} (o:Option (α⊕(β⊕γ))) (s:α->Tr R) (t:β->Tr R) (u:γ->Tr R)
section
variable{R:Type}
def Tr.val:Tr R->Option R
 |.lf r=>some r
 |.it _ t=>t.val
 |.bd o k=>o.bind λa=>(k a).val
 |.br b s t=>if b=true then s.val else t.val
 |.bs o s t=>o.bind λx=>match x with
  |.inl a=>(s a).val
  |.inr a=>(t a).val
 |.b3 o s t u=>o.bind λx=>match x with
  |.inl a=>(s a).val
  |.inr (.inl a)=>(t a).val
  |.inr (.inr a)=>(u a).val
def Tr.go:Tr R->(Tr R->Prop)->Prop
 |.lf r,K=>K (.lf r)
 |.it i t,K=>K (.it i t)
 |.bd o k,K=>∀a,o=some a->(k a).go K
 |.br b s t,K=>(b=true->s.go K)/\(b=false->t.go K)
 |.bs o s t,K=>(∀a,o=some (.inl a)->(s a).go K)/\∀a,o=some (.inr a)->(t a).go K
 |.b3 o s t u,K=>(∀a,o=some (.inl a)->(s a).go K)/\(∀a,o=some (.inr (.inl a))->(t a).go K)/\∀a,o=some (.inr (.inr a))->(u a).go K
theorem Tr.go_ok{r:R}:∀{t:Tr R} {K:Tr R->Prop},t.val=some r->t.go K->∃t',t'.val=some r/\K t'
 |.lf _,_,hv,h=>⟨_,hv,h⟩
 |.it _ _,_,hv,h=>⟨_,hv,h⟩
 |.bd o k,K,hv,h=>by
  simp only[Tr.val]at hv
  obtain⟨a,ha,hv⟩:=Af hv
  exact Tr.go_ok hv (h a ha)
 | .br b s t,K,hv,h => by
  simp only[Tr.val]at hv
  rcases OI hv with⟨hb,hv⟩|⟨hb,hv⟩
  ·exact Tr.go_ok hv (h.1 hb)
  ·exact Tr.go_ok hv (h.2 hb)
 | .bs o s t,K,hv,h => by
  simp only[Tr.val]at hv
  obtain⟨a,ha,hv⟩:=Af hv
  rcases a with a|a
  ·exact Tr.go_ok hv (h.1 a ha)
  ·exact Tr.go_ok hv (h.2 a ha)
 | .b3 o s t u,K,hv,h => by
  simp only[Tr.val]at hv
  obtain⟨a,ha,hv⟩:=Af hv
  rcases a with a|a|a
  ·exact Tr.go_ok hv (h.1 a ha)
  ·exact Tr.go_ok hv (h.2.1 a ha)
  ·exact Tr.go_ok hv (h.2.2 a ha)
def Tr.run:Tr R->(List It->Tr R->Prop)->Prop
 |.it i t,K=>t.run λl t'=>K (i::l) t'
 |t,K=>K [] t
def Tr.its:List It->Tr R->Tr R
 |[],t=>t
 |i::l,t=>.it i (Tr.its l t)
theorem Tr.its_val:∀(l:List It) (t:Tr R),(Tr.its l t).val=t.val
 |[],_=>rfl
 |_::l,t=>Tr.its_val l t
theorem Tr.run_ok:∀{t:Tr R} {K:List It->Tr R->Prop},t.run K->∃l t',t'.val=t.val/\K l t'
 |.it i t,K,h=>by
  obtain⟨l,t',h1,h2⟩:=Tr.run_ok (t:=t) h
  exact⟨i::l,t',h1,h2⟩
 |.lf _,_,h=>⟨[],_,rfl,h⟩
 |.bd _ _,_,h=>⟨[],_,rfl,h⟩
 |.br _ _ _,_,h=>⟨[],_,rfl,h⟩
 |.bs _ _ _,_,h=>⟨[],_,rfl,h⟩
 |.b3 _ _ _ _,_,h=>⟨[],_,rfl,h⟩
def HA(m:Nat)(t:Tr R)(st:az)(k:Tr R->az->Prop):Prop:=match t with
 |.it (.fz i es lv rk) t'=>(Tr.it (.fz i es lv rk) t').run λsc t2=>Ku m sc st λsc st=>k (Tr.its sc t2) st
 |.it (.sh t kk e) t'=>(Tr.it (.sh t kk e) t').run λsc t2=>Ku m sc st λsc st=>k (Tr.its sc t2) st
 |t=>k t st
theorem LW{P:Program}{m:Nat}{t:Tr R}{st:az}{k:Tr R->az->Prop}(h:HA m t st k):∃t' st',t'.val=t.val/\oQ P m st st'/\k t' st':=by
 unfold HA at h
 split at h
 ·obtain⟨l,t2,h1,h2⟩:=Tr.run_ok h
  obtain⟨sc2,st2,hw,h3⟩:=xx (P:=P) h2
  exact⟨_,st2,(Tr.its_val _ _).trans h1,hw,h3⟩
 ·obtain⟨l,t2,h1,h2⟩:=Tr.run_ok h
  obtain⟨sc2,st2,hw,h3⟩:=xx (P:=P) h2
  exact⟨_,st2,(Tr.its_val _ _).trans h1,hw,h3⟩
 ·exact⟨_,_,rfl,.refl _,h⟩
def yd(P:Program)(GE:List (Nat×List PVal))(A:List Nat)(m:Nat):Code->Tr R->az->(Exit->Tr R->az->Prop)->Prop
 |.skip,t,st,K=>K .normal t st
 |.label _,t,st,K=>K .normal t st
 |.region id ops draw,t,st,K=>t.go λt=>t.run λsc t'=>Bm P GE A m (.region id ops draw) sc st λe sc st=>K e (Tr.its sc t') st
 | .seq a b,t,st,K => t.go fun t =>
  let after (e:Exit) (t:Tr R) (st:az):Prop:=match e with
   |.normal=>t.go λt=>HA m t st λt st=>yd P GE A m b t st K
   |e=>K e t st
  match t with
  |.it (.pa 0) (.it (.pc st0 e st1) t')=>FG st st0/\cQ P GE m a (EX e st1) st0/\after e t' st1
  |.it (.pa (n+1)) t'=>yd P GE A m a (.it (.pa n) t') st after
  |t=>yd P GE A m a t st after
 | .cond c a b,t,st,K => t.go fun t => jP GE st.tmps c fun v => match v with
  | .bool x => match t with
   |.it .k t'=>match x with
    |true=>t'.go λt=>HA m t st λt st=>yd P GE A m a t st K
    |false=>t'.go λt=>HA m t st λt st=>yd P GE A m b t st K
   |.it (.g _ y) t'=>x=y/\match y with
    |true=>t'.go λt=>HA m t st λt st=>yd P GE A m a t st K
    |false=>t'.go λt=>HA m t st λt st=>yd P GE A m b t st K
   |_=>False
  |_=>False
 |.block id c,t,st,K=>yd P GE A m c t st λe t st=>match e with
  |.exit id'=>if id'=id then K .normal t st else K (.exit id') t st
  |e=>K e t st
 |.exit id,t,st,K=>K (.exit id) t st
 |.ret,t,st,K=>K .ret t st
 |.loop c,t,st,K=>t.go λt=>match t with
  |.it (.pc st0 e st1) t'=>FG st st0/\cQ P GE m (.loop c) (EX e st1) st0/\K e t' st1
  |_=>False
 |_,_,_,_=>False
section
variable{P:Program}{GE:List (Nat×List PVal)}{A:List Nat}{m:Nat}
theorem fG(hf:P.follows .mixedOrders=true){r:R}:∀(c:Code) (t:Tr R) (st:az) (K:Exit->Tr R->az->Prop),t.val=some r->yd P GE A m c t st K->cQ P GE m c (λe st'=>∃t',t'.val=some r/\K e t' st') st
 |.skip,t,st,K,hv,h=>cQ.skip ⟨t,hv,h⟩
 |.label _,t,st,K,hv,h=>cQ.label ⟨t,hv,h⟩
 |.region id ops draw,t,st,K,hv,h=>by
  simp only[yd]at h
  obtain⟨t1,v1,h⟩:=Tr.go_ok hv h
  obtain⟨l,t2,v2,h⟩:=Tr.run_ok h
  refine(gv hf (.region id ops draw) l st _ h).mono λe st' hx=>?_
  obtain⟨sc',hx⟩:=hx
  exact⟨_,.refl _,_,(Tr.its_val _ _).trans (v2.trans v1),hx⟩
 | .seq a b,t,st,K,hv,h => by
  simp only[yd]at h
  obtain⟨t1,v1,h⟩:=Tr.go_ok hv h
  have aft:∀(e:Exit) (t':Tr R) (st':az),t'.val=some r->(match e with|.normal=>t'.go (λt=>HA m t st' λt st=>yd P GE A m b t st K)|e=>K e t' st')->(match e with|.normal=>cQ P GE m b (λe st'=>∃t',t'.val=some r/\K e t' st') st'|e=>∃t',t'.val=some r/\K e t' st'):=by
   intro e t' st' hv' hx
   cases e with
   |normal=>
    obtain⟨t2,v2,hx⟩:=Tr.go_ok hv' hx
    obtain⟨t3,st3,v3,hw,hx⟩:=LW (P:=P) hx
    exact cQ.weak hw (fG hf b t3 st3 K (v3.trans v2) hx)
   |exit id=>exact⟨_,hv',hx⟩
   |goto l=>exact⟨_,hv',hx⟩
   |ret=>exact⟨_,hv',hx⟩
   |panic c=>exact⟨_,hv',hx⟩
   |outgrown=>exact⟨_,hv',hx⟩
  refine cQ.seq ?_
  split at h
  ·rename_i st0 e st1 t'
   obtain⟨h1,h2,h3⟩:=h
   refine cQ.weak h1.weak (EX.of h2 ?_)
   have:=aft e t' st1 v1 h3
   cases e<;>exact this
  ·exact(fG hf a _ st _ (by exact v1) h).imp λe st' hx=>by
    obtain⟨t',hv',hx⟩:=hx
    have:=aft e t' st' hv' hx
    cases e<;>exact this
  ·exact(fG hf a _ st _ v1 h).imp λe st' hx=>by
    obtain⟨t',hv',hx⟩:=hx
    have:=aft e t' st' hv' hx
    cases e<;>exact this
 | .cond c a b,t,st,K,hv,h => by
  simp only[yd]at h
  obtain⟨t1,v1,h⟩:=Tr.go_ok hv h
  rw[bu]at h
  have go:∀{x:Code} (hx:∀(t:Tr R) (st:az),t.val=some r->yd P GE A m x t st K->cQ P GE m x (λe st'=>∃t',t'.val=some r/\K e t' st') st) {t:Tr R},t.val=some r->t.go (λt=>HA m t st (λt st=>yd P GE A m x t st K))->cQ P GE m x (λe st'=>∃t',t'.val=some r/\K e t' st') st:=by
   intro x hx t hv h
   obtain⟨t1,v1,h⟩:=Tr.go_ok hv h
   obtain⟨t2,st2,v2,hw,h⟩:=LW (P:=P) h
   exact cQ.weak hw (hx t2 st2 (v2.trans v1) h)
  split at h
  ·rename_i x hx
   split at h
   ·rename_i t'
    refine cQ.cond hx (λh1=>?_) (λh1=>?_)
    ·subst h1;exact go (t:=t') (λt st hv h=>fG hf a t st K hv h) (by exact v1) h
    ·subst h1;exact go (t:=t') (λt st hv h=>fG hf b t st K hv h) (by exact v1) h
   ·rename_i j y t'
    obtain⟨rfl,h⟩:=h
    refine cQ.cond hx (λh1=>?_) (λh1=>?_)
    ·subst h1;exact go (t:=t') (λt st hv h=>fG hf a t st K hv h) (by exact v1) h
    ·subst h1;exact go (t:=t') (λt st hv h=>fG hf b t st K hv h) (by exact v1) h
   ·exact h.elim
  ·exact h.elim
 | .block id c,t,st,K,hv,h => by
  simp only[yd]at h
  refine cQ.block ((fG hf c _ st _ hv h).imp λe st' hx=>?_)
  obtain⟨t',hv',hx⟩:=hx
  cases e with
  | exit id' =>
   simp only[He]
   simp only at hx
   split at hx
   ·rename_i hid;rw[vaA hid];exact⟨t',hv',hx⟩
   ·rename_i hid;rw[vaz hid];exact⟨t',hv',hx⟩
  |normal=>exact⟨t',hv',hx⟩
  |goto l=>exact⟨t',hv',hx⟩
  |ret=>exact⟨t',hv',hx⟩
  |panic c=>exact⟨t',hv',hx⟩
  |outgrown=>exact⟨t',hv',hx⟩
 |.exit id,t,st,K,hv,h=>cQ.exit ⟨t,hv,h⟩
 |.ret,t,st,K,hv,h=>cQ.ret ⟨t,hv,h⟩
 | .loop c,t,st,K,hv,h => by
  simp only[yd]at h
  obtain⟨t1,v1,h⟩:=Tr.go_ok hv h
  split at h
  ·rename_i st0 e st1 t'
   obtain⟨h1,h2,h3⟩:=h
   exact cQ.weak h1.weak (EX.of h2 ⟨t',v1,h3⟩)
  ·exact h.elim
 |.rangeFunc ..,_,_,_,_,h=>by simp[yd]at h
 |.scope _,_,_,_,_,h=>by simp[yd]at h
 |.goto _,_,_,_,_,h=>by simp[yd]at h
 |.refuse _,_,_,_,_,h=>by simp[yd]at h
end
def PV(Lf:R->Prop)(o:Option R)(t:Tr R)(F:Prop):Prop:=t.val=o/\((∀r,Lf r)->F)
section
variable{Lf:R->Prop}
theorem tE{r:R}:PV Lf (some r) (.lf r) (Lf r):=⟨rfl,λh=>h r⟩
theorem NP{r:R}{F:Prop}(h:Lf r->F):PV Lf (some r) (.lf r) F:=⟨rfl,λq=>h (q r)⟩
theorem tb{α:Type}{o:Option α}{k:α->Option R}{t:α->Tr R}{F:α->Prop}(h:∀a,o=some a->PV Lf (k a) (t a) (F a)):PV Lf (o.bind k) (.bd o t) (∀a,o=some a->F a):=by
 refine⟨?_,λq a ha=>(h a ha).2 q⟩
 cases o with
 |none=>rfl
 |some a=>exact(h a rfl).1
theorem tf{b:Bool}{x y:Option R}{s t:Tr R}{F G:Prop}(h:b=true->PV Lf x s F)(h':b=false->PV Lf y t G):PV Lf (if b=true then x else y) (.br b s t) ((b=true->F)/\(b=false->G)):=by
 refine⟨?_,λq=>⟨λhb=>(h hb).2 q,λhb=>(h' hb).2 q⟩⟩
 cases b with
 |false=>exact(h' rfl).1
 |true=>exact(h rfl).1
theorem tF{b:Bool}{x y:Option R}{s t:Tr R}{F G:Prop}(h:PV Lf x s F)(h':PV Lf y t G):PV Lf (if b=true then x else y) (.br b (.it (.g 0 true) s) (.it (.g 0 false) t)) ((b=true->b=true/\F)/\(b=false->b=false/\G)):=by
 refine⟨?_,λq=>⟨λhb=>⟨hb,h.2 q⟩,λhb=>⟨hb,h'.2 q⟩⟩⟩
 cases b with
 |false=>exact h'.1
 |true=>exact h.1
theorem t2{α β:Type}{o:Option (α⊕β)}{k:α⊕β->Option R}{s:α->Tr R}{t:β->Tr R}{F:α->Prop}{G:β->Prop}(h:∀a,o=some (.inl a)->PV Lf (k (.inl a)) (s a) (F a))(h':∀a,o=some (.inr a)->PV Lf (k (.inr a)) (t a) (G a)):PV Lf (o.bind k) (.bs o s t) ((∀a,o=some (.inl a)->F a)/\∀a,o=some (.inr a)->G a):=by
 refine⟨?_,λq=>⟨λa ha=>(h a ha).2 q,λa ha=>(h' a ha).2 q⟩⟩
 simp only[Tr.val]
 rcases o with _|a|a
 ·rfl
 ·exact(h a rfl).1
 ·exact(h' a rfl).1
variable{oo:Option R}{tr:Tr R}{F X Y:Prop}
theorem tv{o:Option PVal}{p:PVal}(h:o=some p)(r:PV Lf oo tr F):PV Lf oo (.it (.v p) tr) (o=some p/\F):=⟨r.1,λq=>⟨h,r.2 q⟩⟩
theorem cE{o:List av->Option PVal}{p:PVal}(h:∀H,o H=some p)(r:PV Lf oo tr F):PV Lf oo (.it (.v p) tr) ((∀H,o H=some p)/\F):=⟨r.1,λq=>⟨h,r.2 q⟩⟩
theorem tx{o:Option (List PVal)}{l:List PVal}(h:o=some l)(r:PV Lf oo tr F):PV Lf oo (.it (.x l) tr) (o=some l/\F):=⟨r.1,λq=>⟨h,r.2 q⟩⟩
theorem te{o:Option (List PVal)}{l:List PVal}(h:o=some l)(r:PV Lf oo tr F):PV Lf oo (.it (.e l) tr) (o=some l/\F):=⟨r.1,λq=>⟨h,r.2 q⟩⟩
theorem tg(n:Nat){x b:Bool}(h:x=b)(r:PV Lf oo tr F):PV Lf oo (.it (.g n b) tr) (x=b/\F):=⟨r.1,λq=>⟨h,r.2 q⟩⟩
theorem Yq{o:Option (List PVal)}{l:List PVal}(h:o=some l)(r:PV Lf oo tr F):PV Lf oo (.it (.s) tr) (o=some l/\F):=⟨r.1,λq=>⟨h,r.2 q⟩⟩
theorem bV{P:Program}{GE:List (Nat×List PVal)}{g:FuncId}{vs:List PVal}{p:PVal}{ro:List (Nat×TypeId)}(h:CC P GE g vs p ro)(r:PV Lf oo tr F):PV Lf oo (.it (.c p ro) tr) (CC P GE g vs p ro/\F):=⟨r.1,λq=>⟨h,r.2 q⟩⟩
theorem FM{P:Program}{T:TypeId}{ps:List (Nat×PVal)}{p:PVal}{L:List (Nat×TypeId)}(h:dF P T ps=some p)(h':tB P T ps L)(r:PV Lf oo tr F):PV Lf oo (.it (.b p L) tr) (dF P T ps=some p/\tB P T ps L/\F):=⟨r.1,λq=>⟨h,h',r.2 q⟩⟩
theorem ty{l vs:List PVal}(h:l=vs)(r:PV Lf oo tr F):PV Lf oo (.it (.y vs) tr) (l=vs/\F):=⟨r.1,λq=>⟨h,r.2 q⟩⟩
theorem tz{o:Option PVal}{l:List PVal}(h:o=some (.agg l))(r:PV Lf oo tr F):PV Lf oo (.it (.z l) tr) (o=some (.agg l)/\F):=⟨r.1,λq=>⟨h,r.2 q⟩⟩
theorem tK(an:List Nat)(r:PV Lf oo tr F):PV Lf oo (.it (.dr an) tr) F:=⟨r.1,r.2⟩
theorem tH(n:Nat)(r:PV Lf oo tr F):PV Lf oo (.it (.pa n) tr) F:=⟨r.1,r.2⟩
theorem eo{P:Program}{GE:List (Nat×List PVal)}{m:Nat}{c:Code}{e:Exit}{s0 s1:az}(h:cQ P GE m c (EX e s1) s0)(r:PV Lf oo tr F):PV Lf oo (.it (.pc s0 e s1) tr) ((s0.tmps=s0.tmps/\s0.boxes=s0.boxes/\true=true)/\cQ P GE m c (EX e s1) s0/\F):=⟨r.1,λq=>⟨fr s0,h,r.2 q⟩⟩
theorem Yp(i:It)(r:PV Lf oo tr F):PV Lf oo (.it i tr) F:=⟨r.1,r.2⟩
theorem Yr{o:Option (List PVal)}{l:List PVal}(h:o=some l)(hn:AD l=true)(r:PV Lf oo tr F):PV Lf oo (.it (.x l) tr) (o=some l/\AD l=true/\F):=⟨r.1,λq=>⟨h,hn,r.2 q⟩⟩
theorem tw{o o':Option PVal}{p p':PVal}(h:o=some p/\o'=some p')(r:PV Lf oo tr F):PV Lf oo (.it (.v p) (.it (.v p') tr)) (o=some p/\o'=some p'/\F):=⟨r.1,λq=>⟨h.1,h.2,r.2 q⟩⟩
theorem ts(r:PV Lf oo tr F):PV Lf oo (.it .s tr) F:=⟨r.1,r.2⟩
end
end
def Iz(s:az):Prop:=s.tmps=s.tmps/\s.boxes=s.boxes/\true=true
theorem Iz.ok(s:az):Iz s:=fr s
def Zm:Exit->Bool
 |.normal=>true
 |_=>false
theorem Zn{e:Exit}(h:Zm e=false):e≠.normal:=by
 intro he
 subst he
 cases h
section
variable{P:Program}{GE:List (Nat×List PVal)}{A:List Nat}{m:Nat}{c:Code}{st:az}{X σ:Type}
def Tr.fin{R:Type}:Tr R->(R->Prop)->Prop
 |.lf x,K=>K x
 |_,_=>False
theorem L0{R:Type}{r:R}{t:Tr R}{K:R->Prop}(hv:t.val=some r)(h:t.fin K):K r:=by
 unfold Tr.fin at h
 split at h
 ·cases hv;exact h
 ·exact h.elim
def LJ(ex:X->Exit)(so:X->az)(x:X):Prop:=ex x=ex x/\Iz (so x)
def KJ(ex:X->Exit)(so:X->az):Exit->Tr X->az->Prop:=λe t st=>t.go λt=>t.fin λx=>FN (ex x) (so x) e [] st
theorem KJ.at{ex:X->Exit}{so:X->az}{e:Exit}{t:Tr X}{st:az}{x:X}(hv:t.val=some x)(h:KJ ex so e t st):FN (ex x) (so x) e [] st:=by
 obtain⟨t',v',h⟩:=Tr.go_ok hv h
 exact L0 (K:=λx=>FN (ex x) (so x) e [] st) v' h
theorem S1(hf:P.follows .mixedOrders=true){ex:X->Exit}{so:X->az}{o:Option X}{x:X}(h:o=some x){t:Tr X}{F:Prop}(z:PV (LJ ex so) o t F)(he:F=yd P GE A m c t st (KJ ex so)):cQ P GE m c (EX (ex x) (so x)) st:=by
 have hF:=z.2 λr=>⟨rfl,Iz.ok _⟩
 rw[he]at hF
 refine(fG hf c t st _ (z.1.trans h) hF).mono λe st' hx=>?_
 obtain⟨t',v',hx⟩:=hx
 have hx:=KJ.at v' hx
 exact⟨so x,hx.2.weak,hx.1.symm,rfl⟩
def LB(S:σ->az)(ex:X->Exit)(so:X->az):σ⊕X->Prop
 |.inl s=>Exit.normal=Exit.normal/\Iz (S s)
 |.inr x=>false=false/\ex x=ex x/\Iz (so x)
def KB(S:σ->az)(ex:X->Exit)(so:X->az):Exit->Tr (σ⊕X)->az->Prop:=λe t st=>t.go λt=>t.fin λy=>match y with
 |.inl s=>FN .normal (S s) e [] st
 |.inr x=>Zm (ex x)=false/\FN (ex x) (so x) e [] st
def Wu(m:Nat)(S:σ->az)(ex:X->Exit)(so:X->az):Exit->Tr (σ⊕X)->az->Prop:=λe t st=>t.go λt=>t.fin λy=>match y with
 |.inl s=>Wt m .normal (S s) e [] st
 |.inr x=>Zm (ex x)=false/\Wt m (ex x) (so x) e [] st
theorem TP(hf:P.follows .mixedOrders=true){S:σ->az}{ex:X->Exit}{so:X->az}{o:Option (σ⊕X)}{y:σ⊕X}(h:o=some y){t:Tr (σ⊕X)}{F:Prop}(z:PV (LB S ex so) o t F)(he:F=yd P GE A m c t st (KB S ex so)):cQ P GE m c (LQ S ex so y) st:=by
 have hF:=z.2 λr=>by
  cases r with
  |inl s=>exact⟨rfl,Iz.ok _⟩
  |inr x=>exact⟨rfl,rfl,Iz.ok _⟩
 rw[he]at hF
 refine(fG hf c t st _ (z.1.trans h) hF).mono λe st' hx=>?_
 obtain⟨t',v',hx⟩:=hx
 obtain⟨t2,v2,hx⟩:=Tr.go_ok v' hx
 have hx:=L0 v2 hx
 cases y with
 |inl s=>exact⟨S s,hx.2.weak,hx.1.symm,rfl⟩
 |inr x=>exact⟨so x,hx.2.2.weak,by rw[<-hx.2.1];exact Zn hx.1,hx.2.1.symm,rfl⟩
theorem Ss(hf:P.follows .mixedOrders=true){S:σ->az}{ex:X->Exit}{so:X->az}{o:Option (σ⊕X)}{y:σ⊕X}(h:o=some y){t:Tr (σ⊕X)}{F:Prop}(z:PV (λ_=>True) o t F)(he:F=yd P GE A m c t st (Wu m S ex so)):cQ P GE m c (LQ S ex so y) st:=by
 have hF:=z.2 λr=>trivial
 rw[he]at hF
 refine(fG hf c t st _ (z.1.trans h) hF).mono λe st' hx=>?_
 obtain⟨t',v',hx⟩:=hx
 obtain⟨t2,v2,hx⟩:=Tr.go_ok v' hx
 have hx:=L0 v2 hx
 cases y with
 |inl s=>exact⟨S s,hx.2.weak,hx.1.symm,rfl⟩
 |inr x=>exact⟨so x,hx.2.2.weak,by rw[<-hx.2.1];exact Zn hx.1,hx.2.1.symm,rfl⟩
theorem ZL{S:σ->az}{ex:X->Exit}{so:X->az}{body:σ->Option (σ⊕X)}{s:σ}{x:X}(h:loop body s=some x)(hb:∀s y,body s=some y->cQ P GE m c (LQ S ex so y) (S s)){st s1:az}{e:Exit}(h1:st=S s:=by rfl)(h2:e=ex x:=by rfl)(h3:s1=so x:=by rfl):cQ P GE m (.loop c) (EX e s1) st:=by
 subst h1 h2 h3
 exact cQ.loop h hb
end
class K0 (p:PVal):Prop where h:p.cl 0
class K0l (l:List PVal):Prop where h:dU 0 l
class KE {α:Type} (c:α->List PVal):Prop where h:∀x,dU 0 (c x)
class KF {α:Type} (f:α->PVal):Prop where h:∀x,(f x).cl 0
class LTc (i n:Nat):Prop where h:i<n
class ATc (ρ:List Nat) (i:Nat) (j:outParam Nat):Prop where h:ρ[i]? =some j
instance iq1{n:Nat}:LTc 0 (n+1):=⟨by omega⟩
instance iq2{i n:Nat}[q:LTc i n]:LTc (i+1) (n+1):=⟨by have:=q.h;omega⟩
instance iq3{j:Nat}{ρ:List Nat}:ATc (j::ρ) 0 j:=⟨rfl⟩
instance iq6{k:IntKind}{n:Int}:K0 (.int k n):=⟨vzz⟩
instance iq7{b:Bool}:K0 (.bool b):=⟨vzz⟩
instance iq8{s:ai}:K0 (.str s):=⟨vzz⟩
instance iq10{l:List PVal}[q:K0l l]:K0 (.agg l):=⟨q.h⟩
instance iq11{l:List PVal}[q:K0l l]:K0 (.tuple l):=⟨q.h⟩
instance iq13{fn:Fn}{f c:List PVal}[q:K0l f][q':K0l c]:K0 (.func fn f c):=⟨⟨q.h,q'.h⟩⟩
instance iq14:K0l []:=⟨vzz⟩
instance iq15{p:PVal}{l:List PVal}[q:K0 p][q':K0l l]:K0l (p::l):=⟨⟨q.h,q'.h⟩⟩
instance iq16{α:Type}{c:α->List PVal}{l:List α}[q:KE c]:K0 (sl c l):=⟨ba q.h l⟩
instance iq18{k:IntKind}:KE (cI k):=⟨WW k⟩
instance iq20:KE cS:=⟨Ix⟩
class KC (n:Nat) (p:PVal):Prop where h:p.cl n
class KCl (n:Nat) (l:List PVal):Prop where h:dU n l
class KCb (n:Nat) (B:av):Prop where h:Qy n B
class KCs (n:Nat) (H:List av):Prop where h:MH n H
instance iq29{n:Nat}{p:PVal}[q:K0 p]:KC n p:=⟨up q.h⟩
instance iq30{n i off:Nat}[q:LTc i n]:KC n (.bptr i off):=⟨by simp only[PVal.cl];exact q.h⟩
instance iq32{n i:Nat}[q:LTc i n]:KC n (.mapr i):=⟨by simp only[PVal.cl];exact q.h⟩
instance iq36{n:Nat}{l:List PVal}[q:KCl n l]:KC n (.eptr l):=⟨q.h⟩
instance iq37{n:Nat}{fn:Fn}{f c:List PVal}[q:KCl n f][q':KCl n c]:KC n (.func fn f c):=⟨⟨q.h,q'.h⟩⟩
instance iq38{n:Nat}{l:List PVal}[q:K0l l]:KCl n l:=⟨Sx q.h⟩
instance iq39{n:Nat}:KCl n []:=⟨vzz⟩
instance iq40{n:Nat}{p:PVal}{l:List PVal}[q:KC n p][q':KCl n l]:KCl n (p::l):=⟨⟨q.h,q'.h⟩⟩
instance iq41{n:Nat}:KCb n .dead:=⟨vzz⟩
instance iq42{n:Nat}{cs:List PVal}{own:List (Nat×TypeId)}[q:KCl n cs]:KCb n (.cells cs own):=⟨q.h⟩
instance iq43{n:Nat}{α:Type}{f:α->PVal}{l:List (ai×α)}[q:KF f]:KCb n (.map (jO f l)):=⟨VO f q.h l⟩
instance iq45{n:Nat}:KCs n []:=⟨vzz⟩
instance iq46{n:Nat}{B:av}{H:List av}[q:KCb n B][q':KCs n H]:KCs n (B::H):=⟨⟨q.h,q'.h⟩⟩
class RXc (ρ:List Nat) (q:PVal) (p:outParam PVal):Prop where h:rm ρ p q
class RXl (ρ:List Nat) (q:List PVal) (p:outParam (List PVal)):Prop where h:Ac ρ p q
class RXb (ρ:List Nat) (q:av) (p:outParam av):Prop where h:J7 ρ p q
class RXs (ρ:List Nat) (q:List av) (p:outParam (List av)):Prop where h:og ρ p q
instance iq47{ρ:List Nat}{p:PVal}[q:K0 p]:RXc ρ p p:=⟨xR ρ p q.h⟩
instance iq49{ρ:List Nat}{i j:Nat}[q:ATc ρ i j]:RXc ρ (.mapr i) (.mapr j):=⟨xM ρ i j q.h⟩
instance iq53{ρ:List Nat}{l l':List PVal}[q:RXl ρ l l']:RXc ρ (.agg l) (.agg l'):=⟨xA ρ l' l q.h⟩
instance iq54{ρ:List Nat}{l:List PVal}[q:K0l l]:RXl ρ l l:=⟨Xj ρ l q.h⟩
instance iq55{ρ:List Nat}:RXl ρ [] []:=⟨vzz⟩
instance iq56{ρ:List Nat}{p p':PVal}{l l':List PVal}[q:RXc ρ p p'][q':RXl ρ l l']:RXl ρ (p::l) (p'::l'):=⟨⟨q.h,q'.h⟩⟩
instance iq58{ρ:List Nat}{α:Type}{f:α->PVal}{l:List (ai×α)}[q:KF f]:RXb ρ (.map (jO f l)) (.map (jO f l)):=⟨⟨rfl,VO (n:=0) f q.h l⟩⟩
instance iq59{ρ:List Nat}:RXs ρ [] []:=⟨vzz⟩
instance iq60{ρ:List Nat}{B B':av}{H H':List av}[q:RXb ρ B B'][q':RXs ρ H H']:RXs ρ (B::H) (B'::H'):=⟨⟨q.h,q'.h⟩⟩
def HI(ρ:List Nat):List av->List av->Prop
 |[],[]=>True
 |B::Bs,Bc::Hc=>(B=B/\J7 ρ B Bc)/\HI ρ Bs Hc
 |_,_=>False
theorem HI.of{ρ:List Nat}:∀{Bs Hc:List av},og ρ Bs Hc->HI ρ Bs Hc
 |[],[],_=>trivial
 |[],_::_,h=>h.elim
 |_::_,[],h=>h.elim
 |_::_,_::_,h=>⟨⟨rfl,h.1⟩,HI.of h.2⟩
section
variable{R:Type}{Lf:R->Prop}{oo:Option R}{tr:Tr R}{F:Prop}{P:Program}{GE:List (Nat×List PVal)}
theorem tc(ρ:List Nat){g:FuncId}{args argsC:List PVal}{Bs Hc Bs' Hc':List av}{r rc:PVal}{ro:List (Nat×TypeId)}(ok:C P GE g argsC [] Hc rc ro Hc')[q1:RXl ρ argsC args][q2:RXs ρ Hc Bs][q3:RXs ρ Hc' Bs'][q4:RXc ρ rc r](z:PV Lf oo tr F):PV Lf oo (.it (.cg ⟨ρ,argsC,[],Bs,Hc,Bs',Hc',r,rc,ro⟩) tr) (C P GE g argsC [] Hc rc ro Hc'/\Ac ρ args argsC/\HI ρ Bs Hc/\og ρ Bs' Hc'/\rm ρ r rc/\F):=
 ⟨z.1,λq=>⟨ok,q1.h,.of q2.h,q3.h,q4.h,z.2 q⟩⟩
end
class KS (m:Nat) (s:az):Prop where h:decide (m % 1000<=s.boxes.length)=true/\dU s.boxes.length s.tmps/\MH s.boxes.length s.boxes
def Yo(s:az)(l:List (Nat×PVal)):az:=⟨l.foldl (λtm x=>tm.set x.1 x.2) s.tmps,s.boxes,s.own⟩
class KTm (n:Nat) (l:List (Nat×PVal)):Prop where h:IS n l
instance iq70{n:Nat}:KTm n []:=⟨vzz⟩
instance iq71{n t:Nat}{p:PVal}{l:List (Nat×PVal)}[q:KC n p][q':KTm n l]:KTm n ((t,p)::l):=⟨⟨q.h,q'.h⟩⟩
theorem ks(k:Nat){m N:Nat}{l:List (Nat×PVal)}{B:List av}{o:List ((Nat×Nat)×TypeId)}(h:(B.length==k&&decide (m % 1000<=k))=true)[q:KTm k l][q':KCs k B]:KS m (cc N l B o):=by
 rw[vae,vaY]at h
 obtain⟨rfl,h⟩:=h
 exact⟨h,pp q.h,q'.h⟩
def R3(m:Nat)(s:az):Prop:=s.tmps=s.tmps/\s.boxes=s.boxes/\true=true/\decide (m % 1000<=s.boxes.length)=true/\dU s.boxes.length s.tmps/\MH s.boxes.length s.boxes
theorem KS.f{m:Nat}{s:az}(q:KS m s):R3 m s:=⟨rfl,rfl,rfl,q.h⟩
def Xk(m:Nat){σ X:Type}(S:σ->az)(ex:X->Exit)(so:X->az):σ⊕X->Prop
 |.inl s=>Exit.normal=Exit.normal/\R3 m (S s)
 |.inr x=>false=false/\ex x=ex x/\R3 m (so x)
def Tl(P:Program)(GE:List (Nat×List PVal))(f:FuncId)(args:List PVal){R:Type}(o:Option R)(res:R->PVal)(ro:List (Nat×TypeId)):Prop:=∀r:R,o=some r->CC P GE f args (res r) ro
def Vc(P:Program)(GE:List (Nat×List PVal))(m:Nat)(c:Code){X:Type}(o:Option X)(e:Exit)(so:X->az)(st:az):Prop:=∀x:X,o=some x->cQ P GE m c (EX e (so x)) st
def Vd(P:Program)(GE:List (Nat×List PVal))(m:Nat)(c:Code){X:Type}(o:Option X)(ex:X->Exit)(so:X->az)(st:az):Prop:=∀x:X,o=some x->cQ P GE m c (EX (ex x) (so x)) st
def Tk(P:Program)(GE:List (Nat×List PVal))(m:Nat)(c:Code){σ X:Type}(o:Option (σ⊕X))(S:σ->az)(ex:X->Exit)(so:X->az)(st:az):Prop:=∀y:σ⊕X,o=some y->cQ P GE m c (LQ S ex so y) st
def ZF(P:Program)(A:List Nat)(f:FuncId)(fn:Func)(c:Code):Prop:=(∀vs w,(callFunc f vs).run P w=.ok (.enter f vs) w)/\P.funcs[f]? =some fn/\fn.body=some c/\P.follows .mixedOrders=true/\A=A
section
variable{P:Program}{GE:List (Nat×List PVal)}{A:List Nat}{f:FuncId}{fn:Func}{c:Code}{args:List PVal}{ro:List (Nat×TypeId)}{R:Type}{res:R->PVal}{o:Option R}{t:Tr R}{F:Prop}
theorem zf(h1:∀vs w,(callFunc f vs).run P w=.ok (.enter f vs) w)(h2:P.funcs[f]? =some fn)(h3:fn.body=some c)(h4:P.follows .mixedOrders=true):ZF P A f fn c:=⟨h1,h2,h3,h4,rfl⟩
theorem pM(h:∀r,o=some r->CC P GE f args (res r) ro):Tl P GE f args o res ro:=h
def LV(res:R->PVal)(r:R):Prop:=res r=res r/\(res r).cl 0
def Xl(res:R->PVal)(r:R):Prop:=res r=res r/\(res r).cl 0/\(res r).isAgg=true
def KV(P:Program)(rs:List ResultVar)(res:R->PVal)(ro:List (Nat×TypeId)):Exit->Tr R->az->Prop:=λe t st=>t.go λt=>t.fin λr=>FR P rs (res r) ro e [] st
theorem KV.at{r:R}{rs:List ResultVar}{e:Exit}{st:az}(hv:t.val=some r)(h:KV P rs res ro e t st):FR P rs (res r) ro e [] st:=by
 obtain⟨t',v',h⟩:=Tr.go_ok hv h
 exact L0 (K:=λr=>FR P rs (res r) ro e [] st) v' h
theorem ZF.v0(g:ZF P A f fn c)(ha:dU 0 args)(hv:t.val=o)(hF:yd P GE A 0 c t ⟨args++List.replicate (fn.ntmps - args.length) .undef,[],[]⟩ (KV P fn.results.toList res ro)):Tl P GE f args o res ro:=λ_ h=>
 ⟨ha,C.ofSat g.1 g.2.1 g.2.2.1 ((fG g.2.2.2.1 c t _ _ (hv.trans h) hF).imp λe st hx=>by obtain⟨t',v',hx⟩:=hx;exact(KV.at v' hx).to)⟩
theorem ZF.v(g:ZF P A f fn c)[ha:K0l args](z:PV (LV res) o t F)[hr:∀r,K0 (res r)](he:F=yd P GE A 0 c t ⟨args++List.replicate (fn.ntmps - args.length) .undef,[],[]⟩ (KV P fn.results.toList res ro):=by kernel_rfl):Tl P GE f args o res ro:=
 ZF.v0 g ha.h z.1 (he▸z.2 λr=>⟨rfl,(hr r).h⟩)
theorem ZF.va(g:ZF P A f fn c)[ha:K0l args](z:PV (Xl res) o t F)[hr:∀r,K0 (res r)](hg:∀r,(res r).isAgg=true:=by intro r;rfl)(he:F=yd P GE A 0 c t ⟨args++List.replicate (fn.ntmps - args.length) .undef,[],[]⟩ (KV P fn.results.toList res ro):=by kernel_rfl):Tl P GE f args o res ro:=
 ZF.v0 g ha.h z.1 (he▸z.2 λr=>⟨rfl,(hr r).h,hg r⟩)
variable{H:List av}{H':R->List av}{oa:List ((Nat×Nat)×TypeId)}{m:Nat}
end
section
variable{P:Program}{GE:List (Nat×List PVal)}{A:List Nat}{f:FuncId}{fn:Func}{c0 c:Code}{m:Nat}{st:az}{X σ:Type}{S:σ->az}{ex:X->Exit}{so:X->az}{F:Prop}
theorem ZF.j(g:ZF P A f fn c0){e:Exit}{o:Option X}{t:Tr X}(z:PV (LJ (λ_=>e) so) o t F)(he:F=yd P GE A m c t st (KJ (λ_=>e) so):=by kernel_rfl):Vc P GE m c o e so st:=λ_ h=>S1 (ex:=λ_=>e) g.2.2.2.1 h z he
theorem ZF.l(g:ZF P A f fn c0){o:Option (σ⊕X)}{t:Tr (σ⊕X)}(z:PV (LB S ex so) o t F)(he:F=yd P GE A m c t st (KB S ex so):=by kernel_rfl):Tk P GE m c o S ex so st:=λ_ h=>TP g.2.2.2.1 h z he
theorem ZF.lx(g:ZF P A f fn c0){o:Option (σ⊕X)}{t:Tr (σ⊕X)}(z:PV (Xk m S ex so) o t F)[q:∀s,KS m (S s)][q':∀x,KS m (so x)](he:F=yd P GE A m c t st (Wu m S ex so):=by kernel_rfl):Tk P GE m c o S ex so st:=λ_ h=>Ss g.2.2.2.1 h ⟨z.1,λ_=>z.2 λy=>match y with
 |.inl s=>⟨rfl,(q s).f⟩
 |.inr x=>⟨rfl,rfl,(q' x).f⟩⟩ he
theorem Iy{body:σ->Option (σ⊕X)}{s:σ}(hb:∀s,Tk P GE m c (body s) S ex so (S s))(h1:st=S s:=by rfl):Vd P GE m (.loop c) (loop body s) ex so st:=λ_ h=>ZL (h1:=h1) h λs y hy=>hb s y hy
theorem uO{e:Exit}{body:σ->Option (σ⊕X)}{s:σ}(hb:∀s,Tk P GE m c (body s) S (λ_=>e) so (S s))(h1:st=S s:=by rfl):Vc P GE m (.loop c) (loop body s) e so st:=λ_ h=>ZL (ex:=λ_=>e) (h1:=h1) h λs y hy=>hb s y hy
end
end Go.Proofs.YtjddnhkahpfhdaaGreatDoor
