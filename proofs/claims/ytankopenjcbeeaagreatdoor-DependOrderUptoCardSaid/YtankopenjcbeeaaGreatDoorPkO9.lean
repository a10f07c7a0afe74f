/- PROVED: a part of the proof. Conditions: none. -/
import Derived.Test.YtankopenjcbeeaaGreatDoorPkO8
import Derived.LaidLaws
import Derived.Test.YtankopenjcbeeaaGreatDoorRows
import Derived.Test.YtankopenjcbeeaaGreatDoorPkO3
import Derived.Shelf.SlicesE.Clone
set_option linter.unusedSimpArgs false set_option linter.defProp false
set_option linter.unusedVariables false
noncomputable section
namespace Go.Proofs.YtankopenjcbeeaaGreatDoor
open Go Go.RowKit Go.WideShapes Go.ChangeShapes Go.ChangeAt
open Option renaming some→O,none→N
open Go renaming TypeId→G,Value→D,Program→I,Oper→M,World→J,Code→W
open Bool renaming true→T,false→Z
open Decidable renaming decide→Y
open YtankopenjcbeeaaGreatDoor renaming PVal→U
section
variable{P:I}{a:J}
def VK:∀{e:List (String×DataW Unit)}{i:List MemPlace}{b:String}{d:DataW Unit},DataW.LaidVars P a e i->(b,d)∈e->
  ∃g t h c p,P.globalNamed b=O g/\(P.globals[g]?).map (·.type)=O t/\a.var? P b=O h/\DataW.trod (λ_=>()) P a 0 (λ_=>T) Z c t h.toList=O (d,p)
 |[],_,_,_,_,hm=>by cases hm
 |(n,d')::r,i,b,d,⟨g,t,h,c,p,q,h1,h2,h3,h4,h5,_⟩,hm=>by cases hm with|head=>exact⟨g,t,h,c,p,h1,h2,h3,h4⟩|tail _ hm=>exact VK h5 hm
def qcA{b:String}{g:Nat}{d:Array D}(e:P.globalNamed b=O g)(h:a.var? P b=O d):∃t fr,a.heap[g]? =O (.cells d t fr):=by
 unfold World.var? at h;rw[e]at h;simp only[eJ]at h;split at h;.rename_i c t fr i;cases h;exact⟨t,fr,i⟩
 .cases h
def qaz{H:Type}(l:V aa):DataW H:=.agg (l.map λs=>.lit (.string s))
def W3{H:Type}{r:G×D->H}{base:Nat}{sp:Nat->K}{d:K}{c:Nat}{t e:G}{n:Nat}{q:V D}{o:V aa}{p:V MemPlace}
  (ht:P.underlying t=O (.array n e)) (S:P.underlying e=O .string) (w:P.cellsOf e=1) (x:P.cellsOf t=n)
  (h:DataW.trod r P a base sp d c t q=O (qaz o,p)):q=o.map λz=>Value.string ⟨z.toArray⟩:=by
 cases c with
 |zero=>simp[DataW.trod]at h
 | succ c =>
  simp only[DataW.trod,ht,w,x,vbv]at h
  split at h
  .rename_i hl
   let⟨A,B,hx⟩:=vaH.1 h
   have m:A.map (·.1)=o.map λz=>(DataW.lit (.string z):DataW H):=by have:=m4 Prod.fst hx;simpa[qaz]using this
   have a0:A.length=n:=by simpa using Lib.mapM_length B
   have a1:o.length=n:=by have:=m4 List.length m;simp at this;omega
   apply va2
   intro i
   by_cases hi:i<n
   .let⟨b,L,X⟩:=Lib.mapM_at B i i (by simp[hi])
    obtain⟨z,R,rfl,_⟩:=DataW.trod_string S X
    have E:q[i]? =O (.string z):=by have:=m4 (·[0]?) R;simpa[List.getElem?_take,vbo]using this
    have s:(A.map (·.1))[i]? =O (DataW.lit (.string z.data.toList):DataW H):=by simp[L]
    rw[m]at s
    simp only[o8,vaH,DataW.lit.injEq,Lit.string.injEq]at s
    let⟨z',y,F⟩:=s
    simp only[E,o8,y,or,F]
   .rw[vaU (by omega),vaU (by simp;omega)]
  .cases h
def qiw{x:Nat}{c:V U}{b:Array D}{t:G}{fr:Nat×Nat}(e:a.heap[x]? =O (.cells b t fr))(d:ie 0 c)(h:b.size=c.length)(m:∀(i:Nat) p v,c[i]? =O p->b[i]? =O v->VR (Kx a) [] a p v):qo9 a (x,c):=⟨d,b,t,fr,e,h,m⟩
def Vv{b:V (String×DataW Unit)}{name:String}{d:DataW Unit}{g:Nat}{t e:G}{n:Nat}{k:IntKind}{A:V Int}(L:laidMet P b a)(hm:(name,d)∈b)(S:d=Lib.tabData k A)
  (y:P.globalNamed name=O g) (o:(P.globals[g]?).map (·.type)=O t) (ht:P.underlying t=O (.array n e)) (X:P.underlying e=O (.int k)) (h:P.cellsOf e=1) (m:P.cellsOf t=n):qo9 a (g,A.map (PVal.int k)):=by
 let⟨ps,R,_⟩:=L
 let⟨g',t',cs,w,p,B,E,F,H⟩:=VK R hm
 obtain rfl:=vbp (y.symm.trans B)
 obtain rfl:=vbp (o.symm.trans E)
 subst S
 have x:=Lib.cells_of_tab ht X h m H
 let⟨ty,fr,hh⟩:=qcA y F
 refine qiw hh (qda λq c=>?_) (by simpa using m4 List.length x) (λi q v c r=>?_)
 .obtain⟨z,_,rfl⟩:=l9.1 c
  simp[PVal.cl]
 .rw[<-vaK,x]at r
  simp only[o8,vaH]at c r
  obtain⟨z,hz,rfl⟩:=c
  obtain⟨z',s,rfl⟩:=r
  cases hz.symm.trans s
  exact .int _ _
def qbt{b:V (String×DataW Unit)}{name:String}{d:DataW Unit}{g:Nat}{t e:G}{n:Nat}{A:V aa}(L:laidMet P b a)(hm:(name,d)∈b)(S:d=qaz A)
  (y:P.globalNamed name=O g) (o:(P.globals[g]?).map (·.type)=O t) (ht:P.underlying t=O (.array n e)) (X:P.underlying e=O .string) (h:P.cellsOf e=1) (m:P.cellsOf t=n):qo9 a (g,A.map PVal.str):=by
 let⟨ps,R,_⟩:=L
 let⟨g',t',cs,w,p,B,E,F,H⟩:=VK R hm
 obtain rfl:=vbp (y.symm.trans B)
 obtain rfl:=vbp (o.symm.trans E)
 subst S
 have x:=W3 ht X h m H
 let⟨ty,fr,hh⟩:=qcA y F
 refine qiw hh (qda λq c=>?_) (by simpa using m4 List.length x) (λi q v c r=>?_)
 .obtain⟨z,_,rfl⟩:=l9.1 c
  simp[PVal.cl]
 .rw[<-vaK,x]at r
  simp only[o8,vaH]at c r
  obtain⟨z,hz,rfl⟩:=c
  obtain⟨z',s,rfl⟩:=r
  cases hz.symm.trans s
  exact .str _
end
def qqF(w:J)(l:V (Nat×Array D)):J:={w with heap:=l.foldl (λh x=>h.modify x.1 λ|.cells _ t fr=>.cells x.2 t fr|o=>o) w.heap}
def qw8:U->D|.int k n=>.int k n|.str s=>.string ⟨s.toArray⟩|.bool b=>.bool b|_=>undef
def qoJ(l:V (Nat×V U)):V (Nat×Array D):=l.map λx=>(x.1,(x.2.map qw8).toArray)
mutual
def pm:U->Nat|.str s=>s.length+1|.slice es=>bL es+1|.int _ _=>1|.bool _=>1|_=>0
def dB:List U->Nat|[]=>0|p::l=>pm p+dB l
def bL:List (List U)->Nat|[]=>0|x::r=>dB x+bL r
end
theorem jM:∀(a b:V U),dB (a++b)=dB a+dB b
 |[],b=>by simp[dB]
 |p::a,b=>by simp only[vaT,dB,jM a b];omega
def qrM(P:I)(S:G->List U->Prop):List Field->List U->Prop|[],l=>l=[]|f::fs,l=>∃a b,l=a++b/\a.length=P.cellsOf f.type/\S f.type a/\qrM P S fs b
def Sh(P:I):Nat->G->List U->Prop|0,_,_=>False|n+1,t,l=>match P.underlying t with|some .bool=>∃b,l=[.bool b]|some (.int k)=>∃i,l=[.int k i]/\(Lit.int k i).wf=T|some .string=>∃s:aa,l=[.str s]/\s.length<=maxLen|some (.slice e)=>∃a,l=[.slice a]/\a.length<=maxLen/\∀x∈a,Sh P n e x|some (.struct fs)=>qrM P (Sh P n) fs.toList l|_=>True
def L4(P:I):Nat->List Field->Nat->K|o,[],n=>Y (o=n)|o,f::fs,n=>Y (f.offset=o)&&L4 P (o+P.cellsOf f.type) fs n
def qeY{α:Type}{m:Nat->α->Prop}:∀{n:Nat},(∀i,i<n->∃x,m i x)->∃l:List α,l.length=n/\∀(i:Nat) x,l[i]? =O x->m i x
 |0,_=>⟨[],rfl,λi x h=>by grind⟩
 |n+1,h=>by let⟨l,b,c⟩:=qeY (n:=n) λi a=>h i (by omega);let⟨x,d⟩:=h n (by omega);refine⟨l++[x],by grind,λi y e=>?_⟩;grind
def qeu{H:Type}:∀{es:List (List U)}{ds:List (DataW H)},es.length=ds.length->(∀(i:Nat) x d,es[i]? =O x->ds[i]? =O d->dB x<=Rows.uptoBulk d)->bL es<=Rows.uptoBulkAll ds
 |[],[],_,_=>by simp[bL,Rows.uptoBulkAll]
 |x::es,d::ds,hl,h=>by have a:=h 0 x d rfl rfl;have b:=qeu (es:=es) (ds:=ds) (by simp_all) λi x d e c=>h (i+1) x d (by simp_all) (by simp_all);grind [bL,Rows.uptoBulkAll]
section
variable{H:Type}{enc:G×D->H}{P:I}{A:J}{base:Nat}{z:Nat->K}{m:K}
def qpa(P:I)(A:J)(n:Nat)(t:G)(a:V D)(b:Nat):Prop:=∃l:V U,l.length=a.length/\(∀(i:Nat) p v,l[i]? =O p->a[i]? =O v->VR (Kx A) [] A p v)/\Sh P n t l/\dB l<=b
def qpa.one{n:Nat}{t:G}{p:U}{v:D}{b:Nat}(h:VR (Kx A) [] A p v)(a:Sh P n t [p])(c:pm p<=b):qpa P A n t [v] b:=
 ⟨[p],rfl,λi q u d e=>by grind,a,by simp_all[dB]⟩
def X7{L:List G}{a:Nat}(y:∀(t:G),t∈L->∀(c:List D)(d:DataW H)(p:List MemPlace),DataW.trod enc P A base z m a t c=O (d,p)->qpa P A a t c (Rows.uptoBulk d)){c:List D}:∀{e:List Field}{o n:Nat}{r:List (DataW H×List MemPlace)},(∀f∈e,f.type∈L)->n<=c.length->L4 P o e n=T->e.mapM (λf=>DataW.trod enc P A base z m a f.type ((c.drop f.offset).take (P.cellsOf f.type)))=O r->
   o<=n/\∃l:List U,l.length=n - o/\(∀(i:Nat) p v,l[i]? =O p->c[o+i]? =O v->VR (Kx A) [] A p v)/\qrM P (Sh P a) e l/\dB l<=Rows.uptoBulkAll (r.map (·.1))
 |[],o,n,r,_,hn,b,h=>by
  unfold L4 at b;have:o=n:=by simp_all
  subst this;exact⟨l8 _,[],by simp,λi p v hp=>by simp_all,rfl,by simp[dB]⟩
 |f::e,o,n,r,hL,hn,b,h=>by
  unfold L4 at b;simp only[ne,oy]at b;let⟨F,b⟩:=b;simp only[vb9,Option.bind_eq_bind,vbk,Option.pure_def,FS]at h;obtain⟨⟨d,p⟩,E,a0,w,rfl⟩:=h;let⟨ho,B,k1,k2,S,k4⟩:=X7 y (λg R=>hL g (vaQ _ R)) hn b w;let⟨x,q1,q2,X,q4⟩:=y _ (hL f (by simp)) _ _ _ E;have s:x.length=P.cellsOf f.type:=by grind
  refine⟨by omega,x++B,by grind,λi q v hq hv=>?_,⟨x,B,rfl,s,X,S⟩,by grind [jM,Rows.uptoBulkAll]⟩;grind
def qma{a:Nat}{t:G}{c:V D}{x:DataW H×V MemPlace}(d:P.underlying t=O .bool)(h:DataW.trod enc P A base z m (a+1) t c=O x):∃b,c=[.bool b]/\x.1=.lit (.bool b):=by unfold DataW.trod at h;grind
def qoL{a:Nat}{t:G}{b:V D}{k:IntKind}{x:DataW H×V MemPlace}(c:P.underlying t=O (.int k))(h:DataW.trod enc P A base z m (a+1) t b=O x):∃n,b=[.int k n]/\(Lit.int k n).wf=T/\x.1=.lit (.int k n):=by unfold DataW.trod at h;grind
def qhp{a:Nat}{t:G}{b:V D}{x:DataW H×V MemPlace}(c:P.underlying t=O .string)(h:DataW.trod enc P A base z m (a+1) t b=O x):∃s:ByteArray,b=[.string s]/\s.size<=maxLen/\x.1=.lit (.string s.data.toList):=by unfold DataW.trod at h;grind
def qki{d:Nat}{t e:G}{o:V D}{x:DataW H×V MemPlace}(B:P.underlying t=O (.slice e))(h:DataW.trod enc P A base z m (d+1) t o=O x):(o=[.slice N 0 0]/\x.1=.nil)\/∃a len b elems c,o=[.slice (O a) len b]/\len<=b/\b<=maxLen/\x.1=.slice (elems.map (·.1)) c/\
   (List.range len).mapM (λi=>(A.cells? base (a.add (i * P.cellsOf e)) (P.cellsOf e)).bind (DataW.trod enc P A base z m d e))=O elems:=by
 unfold DataW.trod at h
 rw[B]at h
 cases o with
 |nil=>grind
 | cons v r =>
  cases r with
  |cons _ _=>grind
  | nil =>
   cases v<;>try grind
   rename_i q len b
   cases q with
   |none=>grind
   | some a =>
    right
    simp only at h
    split at h
    .rename_i p
     let⟨elems,s,w⟩:=vbk.1 h
     let⟨c,E,y⟩:=vaH.1 w
     exact⟨a,len,b,elems,c.map (·.1),rfl,p.2.1,p.2.2,by rw[<-y],s⟩
    grind
def qhq{a:Nat}{t:G}{b:V D}{d:Array Field}{x:DataW H×V MemPlace}(e:P.underlying t=O (.struct d))(h:DataW.trod enc P A base z m (a+1) t b=O x):b.length=P.cellsOf t/\∃c,d.toList.mapM (λf=>DataW.trod enc P A base z m a f.type ((b.drop f.offset).take (P.cellsOf f.type)))=O c/\x.1=.agg (c.map (·.1)):=by
 unfold DataW.trod at h;rw[e]at h;simp only at h;split at h;.rename_i p;let⟨c,i,o⟩:=vaH.1 h;grind
 grind
def qaT(a:Addr):a.add 0=a:=by rfl
def qhk{w:J}{a:Addr}{v:D}(h:w.cell? a=O v):a.spot=N:=by
 unfold World.cell? at h;split at h;.simp_all
 grind
structure qkw(P:Program)(L:List TypeId):Prop where
 st:∀t∈L,∀fs,P.underlying t=some (.struct fs)->L4 P 0 fs.toList (P.cellsOf t)=true/\∀f∈fs.toList,f.type∈L
 sl:∀t∈L,∀e,P.underlying t=some (.slice e)->0<P.cellsOf e/\e∈L
def qir(P:I)(L:V G)(t:G):K:=match P.underlying t with|some (.struct fs)=>L4 P 0 fs.toList (P.cellsOf t)&&fs.toList.all λf=>L.contains f.type|some (.slice e)=>Y (0<P.cellsOf e)&&L.contains e|_=>T
def qld{L:V G}(h:L.all (qir P L)=T):qkw P L:=by
 refine⟨λt a c b=>?_,λt a e b=>?_⟩;.have:=vaE.1 h t a;unfold qir at this;grind
 grind [qir]
def qiy{L:List G}(hF:qkw P L):∀(r:Nat)(t:G),t∈L->∀(R:List D)(d:DataW H)(p:List MemPlace),DataW.trod enc P A base z m r t R=O (d,p)->qpa P A r t R (Rows.uptoBulk d)
 |0,t,_,R,d,p,h=>by simp[DataW.trod]at h
 | r + 1,t,htL,R,d,p,h => by
  have ih:=qiy hF r
  have a3:(∀l,Sh P (r+1) t l)->qpa P A (r+1) t R (Rows.uptoBulk d):=λhs=>by
   refine⟨R.map .val,by simp,λi q v hq hv=>?_,hs _,?_⟩;.simp only[o8,hv,or,FS]at hq;subst hq;exact .val v
   .have:∀R:List D,dB (R.map .val)=0:=by
     intro R
     induction R with
     |nil=>rfl
     |cons c R ih=>simp_all[ox,dB,pm]
    simp_all
  cases hu:P.underlying t with
  |none=>simp_all[Sh,hV]
  | some u =>
   cases u with
   |bool=>obtain⟨b,rfl,o⟩:=qma hu h;simp only at o;subst o;exact .one (.bool b) (by unfold Sh;simp_all) (by simp[pm,Rows.uptoBulk])
   |int k=>obtain⟨n,rfl,hw,o⟩:=qoL hu h;simp only at o;subst o;exact .one (.int k n) (by unfold Sh;simp_all) (by simp[pm,Rows.uptoBulk])
   |string=>obtain⟨s,rfl,hl,o⟩:=qhp hu h;simp only at o;subst o;exact .one (.str s.data.toList) (by unfold Sh;simp_all) (by simp[pm,Rows.uptoBulk])
   |struct fs=>let⟨hl,xs,an,o⟩:=qhq hu h;simp only at o;subst o;let⟨_,l,k1,k2,k3,k4⟩:=X7 ih (hF.st t htL fs hu).2 (by omega) (hF.st t htL fs hu).1 an;refine⟨l,by omega,λi q v hq hv=>k2 i q v hq (by simp_all),by simp_all[Sh],by grind [Rows.uptoBulk]⟩
   | slice e =>
    let⟨hz,a8⟩:=hF.sl t htL e hu;rcases qki hu h with⟨rfl,o⟩|⟨a,len,cap,elems,rest,rfl,hlc,hcm,o,hm⟩;.simp only at o;subst o;exact .one .sliceNil (by unfold Sh;simp_all) (by simp[pm,bL,Rows.uptoBulk])
    simp only at o;subst o;have b2:elems.length=len:=by simpa using Lib.mapM_length hm
    have a6:∀i,i<len->∃x:List U,∃E y,elems[i]? =O y/\A.cells? base (a.add (i * P.cellsOf e)) (P.cellsOf e)=O E/\x.length=E.length/\(∀(k:Nat) q v,x[k]? =O q->E[k]? =O v->VR (Kx A) [] A q v)/\Sh P r e x/\dB x<=Rows.uptoBulk y.1:=λi hi=>by let⟨y,hy,hb⟩:=Lib.mapM_at hm i i (by grind);let⟨E,b1,hd⟩:=vbk.1 hb;let⟨x,k1,k2,k3,k4⟩:=ih e a8 E y.1 y.2 hd;grind
    let⟨S,a4,hq⟩:=qeY a6;have a7:bL S<=Rows.uptoBulkAll (elems.map (·.1)):=qeu (by simp_all) λi x d o hd=>by grind
    have ad:Sh P (r+1) t [.slice S]:=by unfold Sh;rw[hu];refine⟨S,rfl,by omega,λx o=>?_⟩;let⟨i,hi⟩:=vbc.1 o;grind
    refine .one ?_ ad (by grind [pm,Rows.uptoBulk]);by_cases h0:len=0;.subst h0;obtain rfl:S=[]:=IO a4;exact .sliceE a cap
    .have B:∀i,i<len->∀k,k<P.cellsOf e->∃(x:List U)(E:List D),S[i]? =O x/\A.cell? ((a.add (i * P.cellsOf e)).add k)=E[k]?/\E.length=P.cellsOf e/\x.length=E.length/\(∀(k:Nat) q v,x[k]? =O q->E[k]? =O v->VR (Kx A) [] A q v):=λi hi k hk=>by
      have o:S[i]? =O S[i]:=m3 (by omega)
      let⟨E,y,hy,hc,hl,hv,_,_⟩:=hq i _ o
      let⟨_,a2,b0⟩:=World.cells?_some hc
      grind
     have X:a.spot=N:=by let⟨x,E,_,F,h3,_,_⟩:=B 0 (by omega) 0 hz;rw[Nat.zero_mul,qaT,qaT,m3 (by omega)]at F;exact qhk F
     let⟨ab,ao,ar⟩:=a
     simp only at X;subst X
     have a1:∀i k,((⟨ab,ao,N⟩:Addr).add (i * P.cellsOf e)).add k=⟨ab,ao+i * P.cellsOf e+k,N⟩:=λi k=>by rw[qaS ⟨ab,ao,N⟩ _ rfl,qaS _ _ rfl]
     have a2:∀(i:Nat) x (k:Nat) q,S[i]? =O x->x[k]? =O q->∃v,A.cell? ⟨ab,ao+i * P.cellsOf e+k,N⟩=O v/\VR (Kx A) [] A q v:=λi x k q o a0=>by
      have hi:i<len:=by have:=aq o;omega
      grind [aq]
     have a5:∀(i:Nat) x,S[i]? =O x->x.length=P.cellsOf e:=λi x o=>by grind
     obtain⟨c,ty,fr,hh⟩:∃c ty fr,A.heap[ab]? =O (.cells c ty fr):=by
      let⟨x,E,h1,F,h3,h4,_⟩:=B 0 (by omega) 0 hz;rw[a1,m3 (by omega)]at F;unfold World.cell? at F;split at F;.rename_i c ty fr hh;exact⟨c,ty,fr,hh⟩
      .cases F
     have a9:ao+S.length * P.cellsOf e<=c.size:=by
      let⟨x,E,h1,F,h3,h4,_⟩:=B (len - 1) (by omega) (P.cellsOf e - 1) (by omega);rw[a1,m3 (by omega),cell_of_row A _ _ c ty fr hh]at F;have:=(vh.1 F).1;have e1:(len - 1) * P.cellsOf e+P.cellsOf e=len * P.cellsOf e:=by
       have:len=(len - 1)+1:=by omega
       conv=>rhs;rw[this,vbg,vcg]
      rw[a4];omega
     have:=VR.slice (Γ:=Kx A) (bs:=[]) (w:=A) S ab ao cap c.size (P.cellsOf e) (λi k=>(A.cell? ⟨ab,ao+i * P.cellsOf e+k,N⟩).getD undef) hz (by omega) (XK hh) a9 a5
      (λi x k q o a0=>by let⟨v,h1,_⟩:=a2 i x k q o a0;rw[h1];rfl)
      (λi x k q o a0=>by let⟨v,h1,F⟩:=a2 i x k q o a0;rw[h1];exact F)
     simp_all
   |_=>exact a3 λl=>by unfold Sh;rw[hu];trivial
end
open Go
abbrev In(P:I)(t:G){α:Type}(c:α->V U):Prop:=∀n l,Sh P n t l->∃x,l=c x
section
variable{P:I}{t e:G}{α:Type}{c:α->V U}
def qge{k:IntKind}(a:P.underlying t=O (.int k)):In P t (cI k):=λn l h=>by cases n with|zero=>exact h.elim|succ n=>unfold Sh at h;rw[a]at h;obtain⟨i,rfl,_⟩:=h;exact⟨i,rfl⟩
def qua(a:P.underlying t=O .bool):In P t cB:=λn l h=>by cases n with|zero=>exact h.elim|succ n=>unfold Sh at h;rw[a]at h;obtain⟨i,rfl⟩:=h;exact⟨i,rfl⟩
def sU(a:P.underlying t=O .string):In P t cS:=λn l h=>by cases n with|zero=>exact h.elim|succ n=>unfold Sh at h;rw[a]at h;obtain⟨i,rfl,_⟩:=h;exact⟨i,rfl⟩
def qbJ:∀{a:List (List U)},(∀x∈a,∃y,x=c y)->∃b:List α,a=b.map c
 |[],_=>⟨[],rfl⟩
 |x::a,h=>by obtain⟨y,rfl⟩:=h x (by simp);obtain⟨b,rfl⟩:=qbJ λz d=>h z (vaQ _ d);exact⟨y::b,rfl⟩
def qbv(b:P.underlying t=O (.slice e)){n:Nat}(a:∀m,m<n->∀l,Sh P m e l->∃x,l=c x)(l:V U)(h:Sh P n t l):∃xs,l=cL c xs:=by cases n with|zero=>exact h.elim|succ n=>unfold Sh at h;rw[b]at h;obtain⟨o,rfl,_,h⟩:=h;obtain⟨i,rfl⟩:=qbJ λx d=>a n (vcc n) x (h x d);exact⟨i,rfl⟩
def uJ(b:P.underlying t=O (.slice e))(a:In P e c):In P t (cL c):=λn l h=>qbv b (λm _=>a m) l h
def qcc:∀(a:List (List U)),(∀x∈a,1<=dB x)->a.length<=bL a
 |[],_=>by simp[bL]
 |x::a,h=>by have d:=h x (by simp);have i:=qcc a λy b=>h y (vaQ _ b);simp only[bL,p6];omega
def GF:∀{a:List (List U)}{x:List U},x∈a->dB x<=bL a
 | y :: a,x,h => by
  simp only[bL];rcases x8.1 h with rfl|h;.omega
  .have:=GF h;omega
end
open Go Go.RowKit Go.WideShapes Go.ChangeShapes Go.ChangeAt
section
variable{H:Type}{enc:G×D->H}{P:I}{c:J}{base b0:Nat}{b:Nat->K}{a:K}{t e:G}{v:D}{d:DataW H}{p:V MemPlace}{L:V G}
def qgf(y:qkw P L)(z:t∈L){r:Array Field}(B:P.underlying t=O (.struct r))(h:DataW.Trod enc P c base b a t v d p)(o:Value.okWide P c .any b0 t v):∃n l,VR (Kx c) [] c (.agg l) v/\Sh P n t l/\dB l<=Rows.uptoBulk d:=by
 let⟨n,h⟩:=h;unfold Value.okWide at o;rw[B]at o;obtain⟨cs,rfl,_,_⟩:=o;let⟨l,E,s,w,x⟩:=qiy y n t z _ d p h;refine⟨n,l,.agg l cs ?_ λi q u A m=>s i q u A ?_,w,x⟩
 .have:(Value.agg cs).cells.toList.length=cs.size:=by simp[Value.cells]
  omega
 .show cs.toList[i]? =O u;rw[vaK];exact m
end
def qkY(n:Nat):ay->Prop|.dead=>True|.cells cs _=>ie n cs|.map es=>∀x∈es,x.1.cl n/\x.2.cl n
def Rn(n:Nat):List ay->Prop|[]=>True|B::l=>qkY n B/\Rn n l
def qbl{k:Nat}:∀{b a:List U},Vq b a=a->ie k a->CT k b a
 |[],[],_,_=>trivial
 |[],_::_,h,_=>by simp[Vq]at h
 |p::b,[],h,_=>by simp[Vq]at h
 |p::b,q::a,h,hc=>by let⟨c,d⟩:=hc;cases q<;>simp only[Vq,vbQ]at h<;>refine⟨?_,qbl h.2 d⟩<;>first|exact .inl rfl|exact .inr ⟨h.1,c⟩
def qf5{k:Nat}{p q:ay}(h:C2 p q=q)(a:qkY k q):xP k p q:=by
 cases q with
 |dead=>cases p<;>simp[xP]
 | cells cs own =>
  cases p with
  | cells cs0 own0 =>
   simp only[C2,ay.cells.injEq]at h;obtain⟨rfl,h⟩:=h;refine⟨rfl,a,λx b=>?_⟩;split at h;.rename_i d;simpa using vaE.1 d x b
   .rw[h];exact b
  |map es=>simp[C2]at h
  |dead=>simp[C2]at h
 |map es=>
  have c:p=.map es:=by cases p<;>simp[C2]at h ⊢<;>exact h
  subst c;exact⟨rfl,a⟩
def PT{k:Nat}:∀{d a:List ay},qaH (d.take a.length) a=a->Rn k a->eu k d a
 |_,[],_,_=>by unfold eu;trivial
 |[],_::_,h,_=>by simp[qaH]at h
 |p::d,q::a,h,hc=>by let⟨b,c⟩:=hc;rw[p6,List.take_succ_cons]at h;simp only[qaH,vbQ]at h;exact⟨qf5 h.1 b,PT h.2 c⟩
def qrt(m:Nat)(b a:az):Prop:=Vq b.tmps a.tmps=a.tmps/\qaH (b.boxes.take a.boxes.length) a.boxes=a.boxes/\(a.own.all λx=>Y (x∈b.own))=T/\Y (m % 1000<=a.boxes.length)=T/\ ie a.boxes.length a.tmps/\Rn a.boxes.length a.boxes
def qrt.weak{P:I}{m:Nat}{a st0:az}(h:qrt m a st0):yA P m a st0:=by let⟨b,c,d,e,i,o⟩:=h;exact .of_less ⟨qbl b i,PT c o,λx p=>by simpa using vaE.1 d x p⟩ (by simpa using e)
def qru(m:Nat)(b:Exit)(a:az):Exit->V It->az->Prop:=λe _ c=>b=e/\qrt m c a
section
variable{P:I}{GE:V (Nat×V U)}{A:V Nat}{m:Nat}
def qoq(e:P.follows .mixedOrders=T){c:W}{d:Exit}{a st:az}(sc:V It)(h:Rc P GE A m c sc st (qru m d a)):dz P GE m c (EX d a) st:=
 (jB e c sc st _ h).mono λ_ _ b=>by let⟨_,b⟩:=b;exact⟨a,b.2.weak,b.1.symm,rfl⟩
end
mutual
def qex{n m:Nat}(a:n<=m):∀(p:U),p.cl n->p.cl m
 |.undef,_=>by simp[PVal.cl]
 |.int _ _,_=>by simp[PVal.cl]
 |.bool _,_=>by simp[PVal.cl]
 |.str _,_=>by simp[PVal.cl]
 |.val _,_=>by simp[PVal.cl]
 |.agg cs,h=>by simp only[PVal.cl]at h ⊢;exact yB a cs h
 |.tuple cs,h=>by simp only[PVal.cl]at h ⊢;exact yB a cs h
 |.slice es,h=>by simp only[PVal.cl]at h ⊢;exact XS a es h
 |.eptr cs,h=>by simp only[PVal.cl]at h ⊢;exact yB a cs h
 |.bptr i _,h=>by simp only[PVal.cl]at h ⊢;omega
 |.bsl i _ _,h=>by simp only[PVal.cl]at h ⊢;omega
 |.mapr i,h=>by simp only[PVal.cl]at h ⊢;omega
 |.nptr i _,h=>by simp only[PVal.cl]at h ⊢;omega
 |.func _ f c,h=>by simp only[PVal.cl]at h ⊢;exact⟨yB a f h.1,yB a c h.2⟩
def yB{n m:Nat}(a:n<=m):∀(l:List U),ie n l->ie m l
 |[],_=>by simp[ie]
 |p::l,h=>by simp only[ie]at h ⊢;exact⟨qex a p h.1,yB a l h.2⟩
def XS{n m:Nat}(a:n<=m):∀(l:List (List U)),C0 n l->C0 m l
 |[],_=>by simp[C0]
 |p::l,h=>by simp only[C0]at h ⊢;exact⟨yB a p h.1,XS a l h.2⟩
end
def Ro{n:Nat}{l:V U}(h:ie 0 l):ie n l:=yB (s5 n) l h
def up{n:Nat}{p:U}(h:p.cl 0):p.cl n:=qex (s5 n) p h
def qiY{i n:Nat}(h:Y (i<n)=T):i<n:=vb1 h
def qnF{n:Nat}{α:Type}(f:α->U)(h:∀x,(f x).cl 0)(l:V (aa×α)):qkY n (.map (bU f l)):=by intro x a;obtain⟨y,_,rfl⟩:=l9.1 a;exact⟨hV,up (h y.2)⟩
def qwB(m:Nat)(st:az)(a:Y (m % 1000<=st.boxes.length)=T)(b:ie st.boxes.length st.tmps)(c:Rn st.boxes.length st.boxes):st.tmps=st.tmps/\st.boxes=st.boxes/\T=T/\Y (m % 1000<=st.boxes.length)=T/\ie st.boxes.length st.tmps/\Rn st.boxes.length st.boxes:=⟨rfl,rfl,rfl,a,b,c⟩
def qkK:TypeDesc->K|.struct _=>T|.array _ _=>T|_=>Z
def qjL{P:I}{t:G}{l r:V U}(h:(P.underlying t).any qkK=T)(a:P.cellsOf t=l.length):cO P t (l++r)=O (.agg l):=by
 unfold cO;split;.rw[l7 (by rw[a];simp),a,vcs]
 .rw[l7 (by rw[a];simp),a,vcs]
 .rename_i d c e b;rw[b]at h;cases d<;>simp_all[qkK]
 .rename_i b;rw[b]at h;cases h
def Nq{k:Nat}{B:ay}:∀{b a:List ay}{i:Nat},a.length<=i->eu k b a->eu k (b.set i B) a
 |_,[],_,_,_=>by unfold eu;trivial
 |[],_::_,_,_,h=>by simpa using h
 |p::b,q::a,0,hi,_=>by simp at hi
 |p::b,q::a,i+1,hi,h=>by simp only[List.set_cons_succ];exact⟨h.1,Nq (by simpa using hi) h.2⟩
def QJ(P:I)(m:V ResultVar)(r:U)(e:V (Nat×G))(b:V ay)(c:az):Prop:=∃(t:Tmp)(ty:G)(i a:Nat)(d:V U)(own:V (Nat×G))(l:V U),m=[.cell t ty]/\(∃h,P.underlying ty=O (.struct h))/\c.tmps.getD t .undef=.bptr i a/\c.boxes[i]? =O (.cells d own)/\ r=.agg l/\cO P ty (d.drop a)=O (.agg l)/\r.cl b.length/\b.length<=i/\eu b.length c.boxes b/\(∀x∈e,(a+x.1,x.2)∈own/\x.1<l.length)/\(e.map (·.1)).Nodup
def qfl(P:I)(c:V ResultVar)(r:U)(b:V (Nat×G))(a:V ay)(e:Exit)(d:az):Prop:=qrd P c r b a e d\/((e=.normal\/e=.ret)/\QJ P c r b a d)
section
variable{P:I}{E:qy}{Γ:aS}{bs:bC}{c:Nat->Q kg}{w:J}{a:Array D}{st:az}
def SR.finishCellG(h:SR P E Γ bs c w a st){fn:Func}{r:U}{ro:V (Nat×G)}{H':V ay}(hr:QJ P fn.results.toList r ro H' st):∃v q,(results fn a).run P w=.ok v w/\SR P E Γ (bs.take H'.length) q w #[v] ⟨[r],H',ro.map λx=>((0,x.1),x.2)⟩:=by
 obtain⟨t,ty,i,off,cs,own,l,A,⟨fs,S⟩,ht,F,rfl,hp,R,hi,L,o,X⟩:=hr;have a0:OO P st fn.results.toList=O (.agg l):=by rw[A];show mt P ty (st.tmps.getD t .undef) st.boxes=_;rw[ht];simp only[mt,F,hp]
 let⟨v,e1,e2,_⟩:=p7 h a0;have p:=h.getD t;rw[ht]at p;generalize a2:a.getD t undef=vt at p;cases p with|bptr _ _ b hb=>
 let⟨H,q1,q2,q3⟩:=On h hb F hp;have a3:H=v:=by
  have z:fn.results=#[.cell t ty]:=by
   have:fn.results=fn.results.toList.toArray:=by simp
   rw[this,A]
  have m:(results fn a).run P w=.ok H w:=by
   simp[results,z,asAddr];have B:a[t]?.getD undef=.pointer (O ⟨b,off,N⟩):=by rw[<-vaG];exact a2
   rw[B];simp[q1]
  rw[e1]at m;cases m;rfl
 subst a3;have g1:=h.pushed e2;let⟨q,g2⟩:=SR.takeOwns (off:=off) (d:=a.size) (u:=H) hb (by simp) ro g1 F (λx s=>(o x s).1) X λx s=>by have:=q3 ⟨_,S,hV⟩ x.1 (o x s).2;let⟨v',z1,_⟩:=h.ob i (off+x.1) x.2 cs own b F (o x s).1 hb;exact⟨v',this.trans z1,z1⟩
 refine⟨H,B3 (λk=>(a.size,k)) ro q,e1,?_⟩;exact g2.finish (H':=H') (src:=λk=>(a.size,k)) (ro:=ro) e2 R (Nq hi L) (λx s=>⟨va7 _ (vb3.2 (l9.2 ⟨x,s,rfl⟩)),λu v' hu a1=>by simp at hu;subst hu;exact a1⟩) (λx _ y _ e=>by simpa using e)
end
def C.ofSatG{P:I}{GE:V (Nat×V U)}{m:Nat}{f:FuncId}{fn:Func}{c:W}{args:V U}{oa:V ((Nat×Nat)×G)}{H:V ay}{r:U}{ro:V (Nat×G)}{H':V ay}(hm:m % 1000=H.length)(a5:m≠0)
  (F:∀E w,(callFunc f E).run P w=.ok (.enter f E) w) (a4:P.funcs[f]? =O fn) (hb:fn.body=O c) (hH:H'.length=H.length)
  (z:dz P GE m c (qfl P fn.results.toList r ro H') ⟨args++List.replicate (fn.ntmps - args.length) .undef,H,oa⟩):C P GE f args oa H r ro H':=by
 refine⟨F,λΓ bs L w E h=>calls_of_wp a4 hb ?_⟩
 have a3:bs.length=H.length:=h.bl
 have h0:SR P ⟨GE,Γ,w,aV bs L⟩ Γ bs L w (E++Array.replicate (fn.ntmps - E.size) undef) ⟨args++List.replicate (fn.ntmps - args.length) .undef,H,oa⟩:=by
  have a6:E.size=args.length:=h.sz;exact{h with
   sz:=by simp[a6]
   tm:=λt p v z hv=>by
    simp only at z;by_cases ht:t<args.length;.rw[B2 ht]at z;rw[va3 (by omega)]at hv;exact h.tm t p v z hv
    .rw[Lf (by omega),vaW]at z;split at z<;>cases z;exact .undef v
   ot:=λt k e he=>by let⟨u,v,h1,h2⟩:=h.ot t k e he;exact⟨u,v,by rw[va3 (vh.1 h1).1];exact h1,h2⟩}
 have hE:th GE m ⟨GE,Γ,w,aV bs L⟩:={
  ge:=rfl
  low:=λb n hb=>h.lt_of_ghost hb
  nt:=λh0=>absurd h0 a5
  gl:=λg cs hg=>(h.gl g cs hg).restrict (n:=0) (by simp only[PVal.cl];exact h.gc g cs hg) (λi b hi _=>absurd hi (w0 _))}
 have a7:=z N ⟨GE,Γ,w,aV bs L⟩ bs ⟨E++Array.replicate (fn.ntmps - E.size) undef,[]⟩ w hE (by rw[a3,hm]) ⟨Γ,bs,L,h0,λi _=>rfl⟩
 refine wp_mono a7 λe a X hq=>?_
 let⟨hd,st,⟨a2,bs1,a8,hS,hk⟩,d⟩:=hq
 have o:H'.length<=bs1.length->bs1.take H'.length=bs:=by
  intro a9;refine va2 λi=>?_;by_cases hi:i<H'.length;.rw[vay hi];exact hk i (by omega)
  .rw[List.getElem?_take_eq_none (by omega),vaU (by omega)]
 have s:∀{B:V ay},eu H'.length B H'->B.length=bs1.length->H'.length<=bs1.length:=λhB he=>by let⟨hl,_⟩:=rt hB;omega
 have a1:(OO P st fn.results.toList=O r/\r.cl H'.length/\eu H'.length st.boxes H'/\(∀x∈ro,(dX fn.results.toList x.1,x.2)∈st.own/\vB st fn.results.toList x.1)/\
   (∀x∈ro,∀y∈ro,dX fn.results.toList x.1=dX fn.results.toList y.1->x.1=y.1))->
   a.defers=[]/\∃v,(results fn a.tmps).run P X=.ok v X/\∃R S q,Ending.returned v=.returned R/\SR P ⟨GE,Γ,w,aV bs L⟩ S bs q X #[R] ⟨[r],H',ro.map λx=>((0,x.1),x.2)⟩:=by
  rintro⟨k1,k2,k3,k4,k5⟩
  let⟨v,e1,e2,e3⟩:=p7 hS k1
  refine⟨hd,v,e1,v,a2,B3 (dX fn.results.toList) ro a8,rfl,?_⟩
  have hf:=hS.finish (H':=H') (src:=dX fn.results.toList) (ro:=ro) e2 k2 k3 (λx hx=>⟨(k4 x hx).1,λu R=>e3 x.1 u R (k4 x hx).2⟩) k5
  rw[o (s k3 hS.bl.symm)]at hf
  exact hf
 have A:QJ P fn.results.toList r ro H' st->
   a.defers=[]/\∃v,(results fn a.tmps).run P X=.ok v X/\∃R S q,Ending.returned v=.returned R/\SR P ⟨GE,Γ,w,aV bs L⟩ S bs q X #[R] ⟨[r],H',ro.map λx=>((0,x.1),x.2)⟩:=by
  intro hc
  let⟨v,q,e1,e2⟩:=hS.finishCellG hc
  let⟨_,_,_,_,_,_,_,_,_,_,_,_,_,_,_,a0,_,_⟩:=hc
  rw[o (s a0 hS.bl.symm)]at e2
  exact⟨hd,v,e1,v,a2,q,rfl,e2⟩
 rcases d with d|⟨he,d⟩
 .cases e with
  |normal=>exact a1 d
  |ret=>exact a1 d
  |exit id=>exact d.elim
  |goto l=>exact d.elim
  |panic c=>exact d.elim
  |outgrown=>exact d.elim
 .rcases he with rfl|rfl
  .exact A d
  .exact A d
def qck(P:I)(c:V ResultVar)(a:V (Nat×G))(n:Nat)(b:az):K:=match c with
 | [.cell t ty] => match P.underlying ty with
  | some (.struct _) => match b.tmps.getD t .undef with
   |.bptr i off=>Y (n<=i)&&match b.boxes[i]? with|some (.cells _ own)=>a.all (λx=>Y ((off+x.1,x.2)∈own)&&Y (x.1<P.cellsOf ty))&&uR (a.map (·.1))|_=>Z
   |_=>Z
  |_=>Z
 |_=>Z
def qhH(P:I)(c:V ResultVar)(r:U)(d:V (Nat×G))(a:V ay)(b:az):Prop:=match Mw c d b with
 |true=>match OO P b c with|some p=>p=r/\r.cl a.length/\qaH (b.boxes.take a.length) a=a/\Rn a.length a|none=>False
 | false => match qck P c d a.length b with
  |true=>match OO P b c with|some p=>p=r/\r.cl a.length/\qaH (b.boxes.take a.length) a=a/\Rn a.length a/\r.isAgg=T|none=>False
  |false=>False
def qoR(P:I)(c:V ResultVar)(r:U)(b:V (Nat×G))(a:V ay):Exit->V It->az->Prop:=λe _ d=>match e with|.normal=>qhH P c r b a d|.ret=>qhH P c r b a d|_=>False
def qat{rs:V ResultVar}{ro:V (Nat×G)}{st:az}(c:Mw rs ro st=T):(∀x∈ro,(dX rs x.1,x.2)∈st.own/\vB st rs x.1)/\(∀x∈ro,∀y∈ro,dX rs x.1=dX rs y.1->x.1=y.1):=by
 have:=Ww (r:=.undef) (P:=default) (rs:=rs) (ro:=ro) (st:=⟨st.tmps,st.boxes,st.own⟩) c;by_cases p:OO default st rs=O .undef;.exact(this p hV).2.2.2
 .clear this;unfold Mw at c;rw[ne]at c;let⟨i,m⟩:=c;refine⟨λx d=>?_,λx d y s e=>?_⟩
  .have:=vaE.1 i x d;rw[ne]at this;refine⟨by simpa using this.1,?_⟩;have b:=this.2;clear this i m p;rcases rs with _|⟨y,_|⟨z,rs⟩⟩;.simp at b
   .cases y with|tmp t=>trivial|cell t ty=>cases b
   .have a:∀o:Q ResultVar,(match o with
     |some (.tmp t)=>(st.tmps.getD t .undef).isSlice
     |_=>Z)=T->(match o with
     |some (.tmp t)=>(st.tmps.getD t .undef).isSlice=T
     |_=>False):=by
     intro o
     cases o with
     |none=>intro h;cases h
     |some q=>cases q<;>intro h<;>first|exact h|cases h
    cases y with
    |tmp t=>exact a _ b
    |cell t ty=>exact a _ b
  .have:=vaE.1 (vaE.1 m x d) y s;simpa[e]using this
def qhH.to{P:I}{E:V ResultVar}{r:U}{S:V (Nat×G)}{q:V ay}{st:az}{e:Exit}(L:e=.normal\/e=.ret)(h:qhH P E r S q st):qfl P E r S q e st:=by
 unfold qhH at h;split at h
 .rename_i a;split at h
  .rename_i p B;obtain⟨rfl,d,m,c⟩:=h;let⟨s1,s2⟩:=qat a;have:OO P st E=O p/\p.cl q.length/\eu q.length st.boxes q/\_/\_:=⟨B,d,PT m c,s1,s2⟩
   rcases L with rfl|rfl<;>exact .inl this
  .exact h.elim
 .split at h
  .rename_i a;split at h
   .rename_i p B;obtain⟨rfl,d,m,c,b⟩:=h;refine .inr ⟨L,?_⟩;unfold qck at a;split at a
    .rename_i t ty _;split at a
     .rename_i fs s;split at a
      .rename_i i A R;rw[ne,oy]at a;let⟨hi,a⟩:=a;split at a
       .rename_i F own H;rw[ne]at a;let⟨X,c2⟩:=a;have z:cO P ty (F.drop A)=O p:=by have y:mt P ty (st.tmps.getD t .undef) st.boxes=O p:=B;rw[R]at y;simpa only[mt,H]using y
        cases p<;>simp only[PVal.isAgg]at b<;>first|(cases b;done)|skip
        rename_i l;have w:l.length=P.cellsOf ty:=by
         have o:=z;unfold cO at o;rw[s]at o;simp only at o;split at o;.rename_i hh;cases o;rw[vbb];omega
         .cases o
        refine⟨t,ty,i,A,F,own,l,rfl,⟨fs,s⟩,R,H,rfl,z,d,hi,PT m c,λx hx=>?_,n8 c2⟩;have:=vaE.1 X x hx;simp only[ne,oy]at this;exact⟨this.1,by rw[w];exact this.2⟩
       .cases a
      .cases a
     .cases a
    .cases a
   .exact h.elim
  .exact h.elim
def qoR.to{P:I}{c:V ResultVar}{r:U}{b:V (Nat×G)}{a:V ay}{e:Exit}{sc:V It}{st:az}(h:qoR P c r b a e sc st):qfl P c r b a e st:=by
 unfold qoR at h;split at h;.exact h.to (.inl rfl)
 .exact h.to (.inr rfl)
 .exact h.elim
section
variable{X a:Type}
def qmA(F:(X->Q a)->X->Q a):Nat->X->Q a|0,_=>N|n+1,x=>F (qmA F n) x
end
def rW(l:V (Nat×G)):l=l:=rfl
def rM(l:V (U×U)):l=l:=rfl
def xR(ρ:V Nat)(p:U)(h:p.cl 0):DG ρ p p:=.refl p h
def xB(ρ:V Nat)(i j a:Nat)(h:ρ[i]? =O j):DG ρ (.bptr j a) (.bptr i a):=.bptr i j a h
def xM(ρ:V Nat)(i j:Nat)(h:ρ[i]? =O j):DG ρ (.mapr j) (.mapr i):=.mapr i j h
def xN(ρ:V Nat)(i j:Nat)(a:G)(h:ρ[i]? =O j):DG ρ (.nptr j a) (.nptr i a):=.nptr i j a h
def xF(ρ:V Nat)(fn:Fn)(f c b a:V U)(h:MB ρ f b)(d:MB ρ c a):DG ρ (.func fn f c) (.func fn b a):=.func fn f c b a h.len d.len h.get d.get
def xA(ρ:V Nat)(f a:V U)(h:MB ρ f a):DG ρ (.agg f) (.agg a):=.agg f a h.len h.get
def ej{a b:U}{l l':V U}(h:a=b)(c:l=l'):a::l=b::l':=by rw[h,c]
open Go Go.Shelf Go.RowKit Go.Lib
variable{P:I}{ρ:Ren}
def Y8{w:J}(base:Nat)(t ty e:G)(i:TypeInfo)(z:D)(B:P.underlying t=O (.slice e))(y:P.info? e=O i)(H:i.zero=O z)
  (v:D) (n:Nat) (F:V D) (o:w.ownsRow base e i.size v n F)
  (a:Addr) (m c:Nat) (b:V D) (x:b.length=m * i.size) (d:∀j u,b[j]? =O u->w.cell? (a.add j)=O u) (L:∀u∈b,u.oneCell'=T)
  (E:n+m<=maxLen) (h:(n+m) * i.bytes<=140737488355328) {v':D} {w':J} (q:(Builtin.append_ #[t,t] ty #[v,.slice (O a) m c]).run P w=.ok v' w'):w.drawn<=w'.drawn:=by
 have A:n+m<=9223372036854775807:=by simp only[maxLen]at E;omega
 rcases o.2 with⟨rfl,rfl⟩|⟨g,cap,cur,rfl,hbg,hg,hnc,hcm,hcs,htake⟩
 .by_cases S:m=0
  .subst S
   have X:b=[]:=IO (by simpa using x)
   subst X
   have:(Builtin.append_ #[t,t] ty #[.slice N 0 0,.slice (O a) 0 c]).run P w=.ok (.slice N 0 0) w:=by simp[Builtin.append_,run_underlying B,Go.sizeOf,typeInfo,y,Builtin.lenOf,Builtin.firstCells,loadCells,loadCellsFrom]
   rw[this]at q;cases q;exact l8 _
  .rw[run_append_nil (P:=P) w t ty e i z B y H a m c b x d (by omega) (by omega) (by have R:=h;simp only[s7]at R;omega)]at q
   cases q;exact vch _
 .by_cases p:n+m<=cap
  .have s:n * i.size+b.length<=cur.size:=by rw[x,hcs,<-vbg];exact vbe _ p
   rw[run_append_room (P:=P) w t ty e i B y g n cap cur hg a m c b x d L p s]at q
   cases q;exact l8 _
  .have r:∀j u,F[j]? =O u->w.cell? ((⟨g,0,N⟩:Addr).add j)=O u:=o.cells (g:=g) rfl
   rw[run_append_grow (P:=P) w t ty e i z B y H ⟨g,0,N⟩ n cap F o.1 r a m c b x d (by omega) (by omega) (growslice_fits (by omega) h)]at q
   cases q;exact vch _
def WP(w:J){o:M}{a:Act}{a0:Act->J->Prop}{Q:Exit->Act->J->Prop}(s x:Operand)(t:G)
  (ho:o.op=.call {callee:=.builtin .append,args:=#[s,x],argTypes:=#[t,t]})
  (base:Nat) (e:G) (i:TypeInfo) (z:D) (size d:Nat) (ht:P.underlying t=O (.slice e)) (hi:P.info? e=O i) (hz:i.zero=O z)
  (r:i.size=size) (F:i.bytes=d) (X:z.cells.size=size) (S:0<size)
  (v:D) (n:Nat) (R:V D) (hs:a.eval s=v) (y:w.ownsRow base e size v n R)
  (H:Addr) (m c:Nat) (b:V D) (hx:a.eval x=.slice (O H) m c) (hl:b.length=m * size) (q:∀j u,b[j]? =O u->w.cell? (H.add j)=O u) (h1:∀u∈b,u.oneCell'=T)
  (E:n+m<=maxLen) (p:(n+m) * d<=140737488355328) (A:base<=w.heap.size)
  (h:∀L B,B.ownsRow base e size L (n+m) (R++b)->w.grownBy B v.ownBlock->w.drawn<=B.drawn->a0 (a.put o.dst L) B):o.wp P a w a0 Q:=by
 let⟨L,B,hr,h2,h3,_⟩:=run_append_own (P:=P) w base t o.type e i z size d ht hi hz r F X S v n R y H m c b hl q h1 E p A
 subst r
 subst F
 have hd:=Y8 (P:=P) base t o.type e i z ht hi hz v n R y H m c b hl q h1 E p hr
 unfold Oper.wp execOp
 simp only[ho,resolve,invoke,builtin,Sem.run_bind,Sem.run_pure,Result.andThen_ok,List.map_toArray,ox,vbt,hs,hx,hr]
 exact h L B h2 h3 hd
def CW(w:J){F:Array M}{q:V M}{o:M}{a:Act}{a2:Exit->Act->J->Prop}(X:o.guard=N)(s x:Operand)(t:G) (ho:o.op=.call {callee:=.builtin .append,args:=#[s,x],argTypes:=#[t,t]}) (base:Nat) (e:G) (i:TypeInfo) (z:D) (size d:Nat) (ht:P.underlying t=O (.slice e)) (hi:P.info? e=O i) (hz:i.zero=O z) (A:i.size=size) (S:i.bytes=d) (a1:z.cells.size=size) (a0:0<size) (v:D) (n:Nat) (xs:V D) (hs:a.eval s=v) (E:w.ownsRow base e size v n xs) (L:Addr) (m c:Nat) (b:V D) (hx:a.eval x=.slice (O L) m c) (hl:b.length=m * size) (y:∀j u,b[j]? =O u->w.cell? (L.add j)=O u) (h1:∀u∈b,u.oneCell'=T) (R:n+m<=maxLen) (p:(n+m) * d<=140737488355328) (r:base<=w.heap.size) (h:∀H B,B.ownsRow base e size H (n+m) (xs++b)->w.grownBy B v.ownBlock->w.drawn<=B.drawn->wpList P F a2 q (a.put o.dst H) B):wpList P F a2 (o::q) a w:=wpList_plain X λ_ hK=>WP w s x t ho base e i z size d ht hi hz A S a1 a0 v n xs hs E L m c b hx hl y h1 R p r λH B h2 h3 h4=>hK _ _ (h H B h2 h3 h4)
set_option maxHeartbeats 2000000 in
set_option maxRecDepth 100000 in
def qde(L:SlLaysE0.n41 P ρ)(q:TypeInfo)(z:D)(size h:Nat)(hi:P.info? (ρ.t 23)=O q)(B:q.zero=O z)(E:q.size=size)(F:q.bytes=h)(H:z.cells.size=size)(y:0<size)
  (a6:∀w,(Go.sizeOf (ρ.t 23)).run P w=.ok size w) (b i n c:Nat) (d:V D) (w:J) (hl:d.length=n * size) (hn:n<=maxLen) (o:n * h<=140737488355328)
  (X:∀j u,d[j]? =O u->w.cell? ⟨b,i+j,N⟩=O u) (h1:∀u∈d,u.oneCell'=T):
  Calls P (ρ.f 41) #[.slice (O ⟨b,i,N⟩) n c] w λe S=>∃s,e=.returned s/\S.ownsRow w.heap.size (ρ.t 23) size s n d/\(Below w.heap.size w S/\w.drawn<=S.drawn):=by
 have mixed:=L.mixed;have t4:=L.t4;have a4:=L.a4;have z4:=L.z4;have v4:=L.v4;have r:=L.t22;have a0:=L.a22;have a5:=L.z22;have a3:=L.v22
 have a1:∀(w:J)(a:Q Addr)(n c R t:Nat),(binOp .eql (ρ.t 22) (.slice a n c) (.slice N R t)).run P w=.ok (.bool a.isNone) w:=λw a n c R t=>Lib.run_eql_slice_nil w _ _ a n c R t L.t22
 have a2:∀w,Sem.run P (underlying (ρ.t 22)) w=.ok (TypeDesc.slice (ρ.t 23)) w:=run_underlying r
 have A:Aside (∀j u,d[j]? =O u->w.cell? ⟨b,i+j,N⟩=O u):=X
 clear X
 let⟨_,_,FG⟩:=L.f41
 go_enter FG,SlBodyN.n41_ntmps ρ
 go_wp2_with (at_builtin;refine CW _ rfl _ _ (ρ.t 22) rfl w.heap.size (ρ.t 23) q z size h r hi B E F H y _ _ _ rfl (World.ownsRow_made w #[] 0 (l8 _) (s5 _) (by simp)) ⟨b,i,N⟩ n c d rfl ?qc1 ?qc2 ?qc3 ?qc4 ?qc5 ?qc6 ?_)
 case qc1=>exact hl
 case qc2=>
  intro j u hj
  rw[Addr.add_lit]
  exact Lib.cell?_alloc_some _ (A.out j u hj)
 case qc3=>exact h1
 case qc4=>rw[s7];exact hn
 case qc5=>rw[s7];exact o
 case qc6=>simp
 intro s w1 p m x
 go_wp2
 go_ret
 refine⟨s,rfl,by simpa using p,?_,x⟩
 exact((Below.refl _ w).alloc (l8 _) _).grown m (by simp) (by intro k hk;simp[Value.ownBlock]at hk;omega)
set_option maxHeartbeats 2000000 in
set_option maxRecDepth 100000 in
def qa7(L:SlLaysE0.n41 P ρ)(b:TypeInfo)(z:D)(B:P.info? (ρ.t 23)=O b)(q:b.zero=O z)(s:z.cells.size=b.size)(p:0<b.size)
  (X:∀w,(Go.sizeOf (ρ.t 23)).run P w=.ok b.size w) (y:Addr) (c:Nat) (w:J):
  Calls P (ρ.f 41) #[.slice (O y) 0 c] w λr x=>∃i,r=.returned i/\x.ownsRow w.heap.size (ρ.t 23) b.size i 0 []/\(Below w.heap.size w x/\w.drawn<=x.drawn):=by
 have mixed:=L.mixed;have t4:=L.t4;have a4:=L.a4;have z4:=L.z4;have v4:=L.v4;have h:=L.t22;have A:=L.a22;have S:=L.z22;have R:=L.v22
 have F:∀(w:J)(a:Q Addr)(n c t m:Nat),(binOp .eql (ρ.t 22) (.slice a n c) (.slice N t m)).run P w=.ok (.bool a.isNone) w:=λw a n c t m=>Lib.run_eql_slice_nil w _ _ a n c t m L.t22
 have H:∀w,Sem.run P (underlying (ρ.t 22)) w=.ok (TypeDesc.slice (ρ.t 23)) w:=run_underlying h
 let⟨_,_,FG⟩:=L.f41
 go_enter FG,SlBodyN.n41_ntmps ρ
 go_wp2_with (at_builtin;refine CW _ rfl _ _ (ρ.t 22) rfl w.heap.size (ρ.t 23) b z b.size b.bytes h B q rfl rfl s p _ _ _ rfl (World.ownsRow_made w #[] 0 (l8 _) (s5 _) (by simp)) y 0 c [] rfl (by simp) (by simp) (by simp) (by simp) (by simp) (by simp) ?_)
 intro i w1 e d o
 go_wp2
 go_ret
 exact⟨i,rfl,by simpa using e,((Below.refl _ w).alloc (l8 _) _).grown d (by simp) (by intro k E;simp[Value.ownBlock]at E;omega),o⟩
def qfV(L:SlLaysE0.n41 P ρ)(i0:TypeInfo)(z:D)(y:P.info? (ρ.t 23)=O i0)(q:i0.zero=O z)(s:z.cells.size=i0.size)(i:0<i0.size)(A:i0.bytes<=65536)
  (e:∀R w,(callFunc (ρ.f 41) R).run P w=.ok (.enter (ρ.f 41) R) w):BF P (ρ.f 41) (ρ.t 23):=by
 have F:P.cellsOf (ρ.t 23)=i0.size:=by simp[Program.cellsOf,y]
 have t:∀w,(Go.sizeOf (ρ.t 23)).run P w=.ok i0.size w:=λw=>by rw[<-F];exact run_sizeOf w y
 refine⟨e,λw x n news hx m S H=>?_⟩
 rw[F]at m ⊢
 rcases hx with⟨rfl,rfl⟩|⟨a,c,rfl,hcell⟩
 .have d:news=[]:=IO (by simpa using m)
  subst d
  refine(AnyE.slices_Clone_nil L 0 0 w).mono λr w' hr=>?_
  obtain⟨rfl,rfl⟩:=hr
  exact⟨_,rfl,World.ownsRow_nil _ _ _ _,Below.refl _ _,l8 _⟩
 .by_cases E:n=0
  .subst E
   have d:news=[]:=IO (by simpa using m)
   subst d
   exact qa7 L i0 z y q s i t a c w
  .have o:0<news.length:=by rw[m];exact vdb (Nat.pos_of_ne_zero E) i
   have p:a.spot=N:=by
    have h:=hcell 0 _ (m3 o);unfold Addr.add at h;simp only[if_true]at h;unfold World.cell? at h;split at h
    .split at h;.cases h
     .rename_i hs;simpa using hs
    .cases h
   let⟨b,B,sp⟩:=a
   simp only at p
   subst p
   refine qde L i0 z i0.size i0.bytes y q rfl rfl s i t b B n c news w m (by unfold maxLen;unfold bO at H;omega) ?_ (λj u X=>by rw[<-Addr.add_lit];exact hcell j u X) S
   have:n * i0.bytes<=1073741824 * 65536:=vct (by unfold bO at H;omega) A
   omega
def qfU(L:SlLaysE0.n41 P ρ){f:FuncId}{e:G}(r:ρ.f 41=f)(q:ρ.t 23=e)(c:(P.info? e).any (λi=>(i.zero.any λz=>z.cells.size==i.size)&&Y (0<i.size)&&Y (i.bytes<=65536))=T)
  (a:∀m w,(callFunc f m).run P w=.ok (.enter f m) w):BF P f e:=by
 subst r;subst q
 cases d:P.info? (ρ.t 23)with
 |none=>rw[d]at c;cases c
 | some i0 =>
  rw[d]at c
  simp only[Option.any_some,ne,oy]at c
  let⟨⟨b,o⟩,p⟩:=c
  cases h:i0.zero with
  |none=>rw[h]at b;cases b
  |some z=>
   rw[h]at b
   simp only[Option.any_some,vbf]at b
   exact qfV L i0 z d h b o p a
open Go
def HM{α:Type}(l:V α):Q (V α):=if l.length<=bO then O l else N
section
variable{P:I}{GE:V (Nat×V U)}{T e:G}{α:Type}{c:α->V U}
def qa6{l r:V α}(h:HM l=O r):l.length<=bO/\r=l:=by
 unfold HM at h;split at h;.rename_i a;cases h;exact⟨a,rfl⟩
 .cases h
def Ku.mapOk(s:Ku P T e c)(l:V α):∀x∈l.map c,x.length=P.cellsOf e/\∀q∈x,q.one=true:=λx a=>by obtain⟨y,_,rfl⟩:=l9.1 a;exact⟨s.hc y,s.ho y⟩
def Ku.cloneCC(s:Ku P T e c){f:FuncId}(a:BF P f e){l r:V α}(h:HM l=O r):CC P GE f [sl c l] (sl c r) [(0,e)]:=by obtain⟨b,rfl⟩:=qa6 h;exact CC.clone a ⟨cw s.cl r,hV⟩ s.hp (s.mapOk r) (by simpa using b)
end
def CN.ofSat{P:I}{GE:V (Nat×V U)}{f:FuncId}{fn:Func}{c:W}{args:V U}{r:U}{ro:V (Nat×G)}{H':V ay}
  (B:∀s w,(callFunc f s).run P w=.ok (.enter f s) w) (a0:P.funcs[f]? =O fn) (A:fn.body=O c)
  (o:dz P GE 0 c (qfl P fn.results.toList r ro H') ⟨args++List.replicate (fn.ntmps - args.length) .undef,[],[]⟩):CN P GE f args r ro H':=by
 refine⟨B,λΓ w s h=>calls_of_wp a0 A ?_⟩
 have hT:∀b,¬aV [] (λ_=>N) b:=λb A=>by
  rcases A with⟨i,hi⟩|A;.simp at hi
  .exact A rfl
 have h0:SR P ⟨GE,Γ,w,aV [] λ_=>N⟩ Γ [] (λ_=>N) w (s++Array.replicate (fn.ntmps - s.size) undef) ⟨args++List.replicate (fn.ntmps - args.length) .undef,[],[]⟩:=by
  have a1:s.size=args.length:=h.sz;exact{h with
   sz:=by simp[a1]
   tm:=λt p v o hv=>by
    simp only at o;by_cases ht:t<args.length;.rw[B2 ht]at o;rw[va3 (by omega)]at hv;exact h.tm t p v o hv
    .rw[Lf (by omega),vaW]at o;split at o<;>cases o;exact .undef v
   ot:=λt k e he=>by simp at he}
 have hE:th GE 0 ⟨GE,Γ,w,aV [] λ_=>N⟩:={
  ge:=rfl
  low:=λb n A=>h.lt_of_ghost A
  nt:=λ_=>hT
  gl:=λg cs hg=>(h.gl g cs hg).restrict (n:=0) (by simp only[PVal.cl];exact h.gc g cs hg) (λi b hi _=>absurd hi (w0 _))}
 have a2:=o N ⟨GE,Γ,w,aV [] λ_=>N⟩ [] ⟨s++Array.replicate (fn.ntmps - s.size) undef,[]⟩ w hE rfl ⟨Γ,[],λ_=>N,h0,λi _=>rfl⟩
 refine wp_mono a2 λe a H hq=>?_
 let⟨hd,S,⟨X,L,a3,hS,hk⟩,d⟩:=hq
 have R:(OO P S fn.results.toList=O r/\r.cl H'.length/\eu H'.length S.boxes H'/\(∀x∈ro,(dX fn.results.toList x.1,x.2)∈S.own/\vB S fn.results.toList x.1)/\
   (∀x∈ro,∀y∈ro,dX fn.results.toList x.1=dX fn.results.toList y.1->x.1=y.1))->
   a.defers=[]/\∃v,(results fn a.tmps).run P H=.ok v H/\∃E F z m,Ending.returned v=.returned E/\SR P ⟨GE,Γ,w,aV [] λ_=>N⟩ F z m H #[E] ⟨[r],H',ro.map λx=>((0,x.1),x.2)⟩:=by
  rintro⟨k1,k2,k3,k4,k5⟩
  let⟨v,e1,e2,e3⟩:=p7 hS k1
  refine⟨hd,v,e1,v,X,L.take H'.length,B3 (dX fn.results.toList) ro a3,rfl,?_⟩
  exact hS.finish (H':=H') (src:=dX fn.results.toList) (ro:=ro) e2 k2 k3 (λx hx=>⟨(k4 x hx).1,λu E=>e3 x.1 u E (k4 x hx).2⟩) k5
 have q:QJ P fn.results.toList r ro H' S->
   a.defers=[]/\∃v,(results fn a.tmps).run P H=.ok v H/\∃E F z m,Ending.returned v=.returned E/\SR P ⟨GE,Γ,w,aV [] λ_=>N⟩ F z m H #[E] ⟨[r],H',ro.map λx=>((0,x.1),x.2)⟩:=by
  intro hc
  let⟨v,m,e1,e2⟩:=hS.finishCellG hc
  exact⟨hd,v,e1,v,X,L.take H'.length,m,rfl,e2⟩
 rcases d with d|⟨he,d⟩
 .cases e with
  |normal=>exact R d
  |ret=>exact R d
  |exit id=>exact d.elim
  |goto l=>exact d.elim
  |panic c=>exact d.elim
  |outgrown=>exact d.elim
 .rcases he with rfl|rfl
  .exact q d
  .exact q d
def PS(_:V It)(F:Prop):Prop:=F
section
variable{sc:V It}{F X a:Prop}
def en(h:F):PS [] F:=h
def sv{o:Q U}{p:U}(h:o=O p)(r:PS sc F):PS (.v p::sc) (o=O p/\F):=⟨h,r⟩
def qvK{o:V ay->Q U}{p:U}(h:∀H,o H=O p)(r:PS sc F):PS (.v p::sc) ((∀H,o H=O p)/\F):=⟨h,r⟩
def sx{o:Q (V U)}{l:V U}(h:o=O l)(r:PS sc F):PS (.x l::sc) (o=O l/\F):=⟨h,r⟩
def se{o:Q (V U)}{l:V U}(h:o=O l)(r:PS sc F):PS (.e l::sc) (o=O l/\F):=⟨h,r⟩
def sg(n:Nat){x b:K}(h:x=b)(r:PS sc F):PS (.g n b::sc) (x=b/\F):=⟨h,r⟩
def ss(r:PS sc F):PS (.s::sc) F:=r
def qhB{P:I}{GE:V (Nat×V U)}{g:FuncId}{d:V U}{p:U}{b:V (Nat×G)}(h:CC P GE g d p b)(r:PS sc F):PS (.c p b::sc) (CC P GE g d p b/\F):=⟨h,r⟩
def sz{o:Q U}{l:V U}(h:o=O (.agg l))(r:PS sc F):PS (.z l::sc) (o=O (.agg l)/\F):=⟨h,r⟩
def qwU{P:I}{GE:V (Nat×V U)}{m:Nat}{c:W}{e:Exit}{b d:az}(h:dz P GE m c (EX e d) b)(r:PS sc F):PS (.pc b e d::sc) ((b.tmps=b.tmps/\b.boxes=b.boxes/\T=T)/\dz P GE m c (EX e d) b/\F):=⟨fr b,h,r⟩
def si(i:It)(h:X)(r:PS sc F):PS (i::sc) (X/\F):=⟨h,r⟩
def sf(h:X)(r:PS sc F):PS sc (X/\F):=⟨h,r⟩
def qvI(i:Nat)(c:V (V U))(e m:V Nat)(h:X)(d:a){o:Prop}(b:o)(r:PS sc F):PS (.fz i c e m::sc) (X/\a/\o/\F):=⟨h,d,b,r⟩
end
section
variable{P:I}{GE:V (Nat×V U)}{A:V Nat}{m:Nat}
def fU(e:P.follows .mixedOrders=T){c:W}{b:Exit}{a st:az}{sc:V It}{F:Prop}(h:PS sc F)(d:F=Rc P GE A m c sc st (FN b a)):dz P GE m c (EX b a) st:=piece e sc (Eq.mp d h)
def C.evp(q:P.follows .mixedOrders=T){f:FuncId}{fn:Func}{c:W}{a:V U}{r:U}{ro:V (Nat×G)} (b:∀i w,(callFunc f i).run P w=.ok (.enter f i) w) (e:P.funcs[f]? =O fn) (o:fn.body=O c) (d:ie 0 a) {sc:V It} {F:Prop} (h:PS sc F) (p:F=Rc P GE A 0 c sc ⟨a++List.replicate (fn.ntmps - a.length) .undef,[],[]⟩ (FR P fn.results.toList r ro)):CC P GE f a r ro:=C.ev q b e o d sc (Eq.mp p h)
end
section
variable{P:I}{GE:V (Nat×V U)}{A:V Nat}{m:Nat}
def Ux(e:P.follows .mixedOrders=T){c:W}{b:Exit}{a st:az}{sc:V It}{F:Prop}(h:PS sc F)(d:F=Rc P GE A m c sc st (qru m b a)):dz P GE m c (EX b a) st:=qoq e sc (Eq.mp d h)
end
def tm(n:Nat):Nat->List (Nat×U)->List U|k,[]=>List.replicate (n - k) .undef|k,x::l=>List.replicate (x.1 - k) .undef++x.2::tm n (x.1+1) l
abbrev aR(n:Nat)(l:V (Nat×U))(H:V ay)(o:V ((Nat×Nat)×G)):az:=⟨tm n 0 l,H,o⟩
def qkZ(n:Nat):List (Nat×U)->Prop|[]=>True|x::l=>x.2.cl n/\qkZ n l
def Zo{n:Nat}{l:List U}(h:ie n l):∀k,ie n (List.replicate k .undef++l)
 |0=>h
 |k+1=>by rw[List.replicate_succ,vaT];exact⟨hV,Zo h k⟩
def I6{n N:Nat}:∀{l:List (Nat×U)}{k:Nat},qkZ n l->ie n (tm N k l)
 |[],k,_=>by unfold tm;have:=Zo (n:=n) (l:=[]) trivial (N - k);rwa[vbR]at this
 |x::l,k,h=>by unfold tm;exact Zo (l:=x.2::tm N (x.1+1) l) (by simp only[ie];exact⟨h.1,I6 h.2⟩) _
def bits:Nat->Nat->List K->List K|0,_,l=>l|k+1,n,l=>if n<=1 then l else bits k (n / 2) ((n % 2==1)::l)
def cA(c:W)(n:Nat):W:=aE c (bits 100 n [])
section
variable{X Y:Type}
def sQ(F:(X->Q Y)->X->Q Y)(x:X):Q Y:=qmA F qhA x
def qnC:18446744073709551616<qhA:=by unfold qhA;omega
def ij{F:(X->Q Y)->X->Q Y}{M:X->Y->Prop}(b:∀rec:X->Q Y,(∀x r,rec x=O r->M x r)->∀x r,F rec x=O r->M x r){x:X}{r:Y}(h:sQ F x=O r):M x r:=by
 have a:∀n x r,qmA F n x=O r->M x r:=by
  intro n;induction n with
  |zero=>intro x r h;cases h
  |succ n ih=>intro x r h;exact b _ ih x r h
 exact a _ x r h
def ql{F:(X->Q Y)->X->Q Y}(μ:X->Nat)(m:X->Prop)(s:X->Y)(h:∀(R:X->Q Y) x,m x->(∀y,μ y<μ x->m y->R y=O (s y))->F R x=O (s x))(x:X)(b:m x)(d:μ x<qhA):sQ F x=O (s x):=by
 have c:∀n x,μ x<n->m x->qmA F n x=O (s x):=by intro n;induction n with|zero=>intro x b;omega|succ n ih=>intro x b e;exact h _ x e λy i a=>ih y (by omega) a
 exact c _ x d b
end
section
variable{P:I}{GE:V (Nat×V U)}{T e:G}{α:Type}{c:α->V U}
def qvs{m b:Nat}(a:Y (m % 1000<=b)=true)(l:V U)(d:Y (l.length≠0)=true):(m % 1000<=b)/\∃sz,0<sz/\∀x∈[l],x.length=sz:=⟨vb1 a,l.length,by have:=vb1 d;omega,λx h=>by rw[va1.1 h]⟩
def qvt(b:Nat){l:V U}(h:ie 0 l):V1 b [l]:=Oq b _ ⟨h,hV⟩
def qvE(l:V U):l=l:=rfl
def qvu{l r:V U}(h:r=l):l=[r].flatten:=by rw[h];simp
def qwI(b:Nat){p:U}(h:p.cl 0):p.no b:=Ld b p h
end
def qvT(ρ:List Nat):∀(l:List U),ie 0 l->MB ρ l l
 |[],_=>trivial
 |p::l,h=>by simp only[ie]at h;exact⟨.refl p h.1,qvT ρ l h.2⟩
def eF(e:Exit)(s:az):PS [] (e=e/\s.tmps=s.tmps/\s.boxes=s.boxes/\T=T):=⟨rfl,fr s⟩
def qvp(m:Nat)(e:Exit)(s:az)(a:Y (m % 1000<=s.boxes.length)=T)(b:ie s.boxes.length s.tmps)(c:Rn s.boxes.length s.boxes):PS [] (e=e/\s.tmps=s.tmps/\s.boxes=s.boxes/\T=T/\Y (m % 1000<=s.boxes.length)=T/\ie s.boxes.length s.tmps/\Rn s.boxes.length s.boxes):=⟨rfl,qwB m s a b c⟩
def qwW{o:Q (V U)}{l:V U}{sc:V It}{F:Prop}(h:o=O l)(a:Ot l=T)(r:PS sc F):PS (.x l::sc) (o=O l/\Ot l=T/\F):=⟨h,a,r⟩
def qfF(l:V Int)(s:aa):Q (V Int):=if l.length+s.length<=1073741824 then O (l++s.map λc=>(c.toNat:Int))else N
def qet{P:I}{q a e:G}{l z:V Int}{s:aa}(b:Ku P q e (cI .u8))(m:P.underlying a=O .string)(c:P.bytesOf e=1)(d:P.cellsOf e=1)(p:qlm ((P.info? e).bind (·.zero))=T)(h:qfF l s=O z):Gz P q a (l.map (cI .u8)) s=O (sl (cI .u8) z):=by
 unfold qfF at h;split at h;.rename_i i;cases h;unfold Gz;rw[b.hu,m];simp only;rw[l7 ⟨by simpa[bO]using i,c,d,p,λx o=>by obtain⟨y,_,rfl⟩:=l9.1 o;rfl⟩];simp only[sl,va5,NR,vb4];rfl
 .cases h
def qpK{P:I}{β:Type}{t e:G}{n:Nat}{v:β->U}{l:V β}(h:P.underlying t=O (.array n e))(b:P.cellsOf e=1)(d:(P.info? e).isSome=T)(m:Y (l.length=n)=T)
  {k:IntKind} {i:Int} {x:β} (a:cJ l i=O x):nn P t (.eptr (l.map v)) (.int k i)=O (.eptr ((l.map v).drop i.toNat)):=by
 let⟨c,a⟩:=K3 a
 have o:i.toNat<l.length:=(vbO.1 a).1
 have p:l.length=n:=by simpa using m
 unfold nn
 simp only[h]
 rw[l7 ⟨c,by omega,d,by rw[b,vbv,va0];omega⟩,b,vbv]
def qpM{P:I}{β:Type}{e:G}{v:β->U}{l:V β}(c:(P.underlying e).any NG=T){i:Int}{x:β}(b:cJ l i=O x):cO P e ((l.map v).drop i.toNat)=O (v x):=by let⟨d,b⟩:=K3 b;have a:i.toNat<l.length:=(vbO.1 b).1;rw[vaN (by simpa using a),cX c];simp only[vcH];rw[m3 a]at b;cases b;rfl
inductive Tr(R:Type):Type 1 where
 |lf (r:R)
 |it (i:It) (t:Tr R)
 |bd {α:Type} (o:Option α) (k:α->Tr R)
 |br (b:Bool) (s t:Tr R)
 |bs {α β:Type} (o:Option (α⊕β)) (s:α->Tr R) (t:β->Tr R)
 |b3 {α β γ:Type} (o:Option (α⊕(β⊕γ))) (s:α->Tr R) (t:β->Tr R) (u:γ->Tr R)
section
variable{R:Type}
def Tr.val:Tr R->Q R
 |.lf r=>O r
 |.it _ t=>t.val
 |.bd o k=>o.bind λa=>(k a).val
 |.br b s t=>if b then s.val else t.val
 |.bs o s t=>o.bind λx=>match x with|.inl a=>(s a).val|.inr a=>(t a).val
 |.b3 o s t u=>o.bind λx=>match x with|.inl a=>(s a).val|.inr (.inl a)=>(t a).val|.inr (.inr a)=>(u a).val
def Tr.go:Tr R->(Tr R->Prop)->Prop|.lf r,c=>c (.lf r)|.it i t,c=>c (.it i t)|.bd o k,c=>∀a,o=O a->(k a).go c|.br b s t,c=>(b=T->s.go c)/\(b=Z->t.go c)|.bs o s t,c=>(∀a,o=O (.inl a)->(s a).go c)/\∀a,o=O (.inr a)->(t a).go c|.b3 o s t u,c=>(∀a,o=O (.inl a)->(s a).go c)/\(∀a,o=O (.inr (.inl a))->(t a).go c)/\∀a,o=O (.inr (.inr a))->(u a).go c
def Tr.go_ok{r:R}:∀{t:Tr R}{m:Tr R->Prop},t.val=O r->t.go m->∃i,i.val=O r/\m i
 |.lf _,_,c,h=>⟨_,c,h⟩
 |.it _ _,_,c,h=>⟨_,c,h⟩
 |.bd o k,m,c,h=>by simp only[Tr.val]at c;let⟨a,d,c⟩:=L0 c;exact Tr.go_ok c (h a d)
 | .br b s t,m,c,h => by
  simp only[Tr.val]at c;rcases Hr c with⟨e,c⟩|⟨e,c⟩;.exact Tr.go_ok c (h.1 e)
  .exact Tr.go_ok c (h.2 e)
 | .bs o s t,m,c,h => by
  simp only[Tr.val]at c;let⟨a,d,c⟩:=L0 c;rcases a with a|a;.exact Tr.go_ok c (h.1 a d)
  .exact Tr.go_ok c (h.2 a d)
 | .b3 o s t u,m,c,h => by
  simp only[Tr.val]at c;let⟨a,d,c⟩:=L0 c;rcases a with a|a|a;.exact Tr.go_ok c (h.1 a d)
  .exact Tr.go_ok c (h.2.1 a d)
  .exact Tr.go_ok c (h.2.2 a d)
def Tr.run:Tr R->(V It->Tr R->Prop)->Prop|.it i t,b=>t.run λl a=>b (i::l) a|t,b=>b [] t
def Tr.its:V It->Tr R->Tr R|[],t=>t|i::l,t=>.it i (Tr.its l t)
theorem Tr.its_val:∀(l:V It)(t:Tr R),(Tr.its l t).val=t.val|[],_=>rfl|_::l,t=>Tr.its_val l t
def Tr.run_ok:∀{t:Tr R}{d:V It->Tr R->Prop},t.run d->∃l a,a.val=t.val/\d l a
 |.it i t,d,h=>by let⟨l,a,b,c⟩:=Tr.run_ok (t:=t) h;exact⟨i::l,a,b,c⟩
 |.lf _,_,h=>⟨[],_,rfl,h⟩
 |.bd _ _,_,h=>⟨[],_,rfl,h⟩
 |.br _ _ _,_,h=>⟨[],_,rfl,h⟩
 |.bs _ _ _,_,h=>⟨[],_,rfl,h⟩
 |.b3 _ _ _ _,_,h=>⟨[],_,rfl,h⟩
def ZI(m:Nat)(t:Tr R)(a:az)(k:Tr R->az->Prop):Prop:=match t with|.it (.fz i es lv rk) t'=>(Tr.it (.fz i es lv rk) t').run λsc t2=>qdt m sc a λsc a=>k (Tr.its sc t2) a|.it (.sh t kk e) t'=>(Tr.it (.sh t kk e) t').run λsc t2=>qdt m sc a λsc a=>k (Tr.its sc t2) a|t=>k t a
def qeR{P:I}{m:Nat}{t:Tr R}{d:az}{k:Tr R->az->Prop}(h:ZI m t d k):∃e st',e.val=t.val/\yA P m d st'/\k e st':=by
 unfold ZI at h;split at h;.let⟨l,t2,i,a⟩:=Tr.run_ok h;let⟨b,c,p,o⟩:=Og (P:=P) a;grind [Tr.its_val]
 .let⟨l,t2,i,a⟩:=Tr.run_ok h;let⟨b,c,p,o⟩:=Og (P:=P) a;grind [Tr.its_val]
 .exact⟨_,_,rfl,.refl _,h⟩
def Mb(P:I)(GE:List (Nat×List U))(A:List Nat)(m:Nat):W->Tr R->az->(Exit->Tr R->az->Prop)->Prop
 |.skip,t,d,o=>o .normal t d
 |.label _,t,d,o=>o .normal t d
 |.region id ops draw,t,d,o=>t.go λt=>t.run λsc i=>Rc P GE A m (.region id ops draw) sc d λe sc d=>o e (Tr.its sc i) d
 | .seq a b,t,d,o => t.go fun t =>
  let h (e:Exit) (t:Tr R) (d:az):Prop:=match e with
   |.normal=>t.go λt=>ZI m t d λt d=>Mb P GE A m b t d o
   |e=>o e t d
  match t with
  |.it (.pa 0) (.it (.pc st0 e st1) i)=>FG d st0/\dz P GE m a (EX e st1) st0/\h e i st1
  |.it (.pa (n+1)) i=>Mb P GE A m a (.it (.pa n) i) d h
  |t=>Mb P GE A m a t d h
 | .cond c a b,t,d,o => t.go fun t => rD GE d.tmps c fun v => match v with
  | .bool x => match t with
   |.it .k i=>match x with
    |true=>i.go λt=>ZI m t d λt d=>Mb P GE A m a t d o
    |false=>i.go λt=>ZI m t d λt d=>Mb P GE A m b t d o
   |.it (.g _ y) i=>x=y/\match y with
    |true=>i.go λt=>ZI m t d λt d=>Mb P GE A m a t d o
    |false=>i.go λt=>ZI m t d λt d=>Mb P GE A m b t d o
   |_=>False
  |_=>False
 |.block id c,t,d,o=>Mb P GE A m c t d λe t d=>match e with
  |.exit id'=>if id'=id then o .normal t d else o (.exit id') t d
  |e=>o e t d
 |.exit id,t,d,o=>o (.exit id) t d
 |.ret,t,d,o=>o .ret t d
 |.loop c,t,d,o=>t.go λt=>match t with
  |.it (.pc st0 e st1) i=>FG d st0/\dz P GE m (.loop c) (EX e st1) st0/\o e i st1
  |_=>False
 |_,_,_,_=>False
section
variable{P:I}{GE:V (Nat×V U)}{A:V Nat}{m:Nat}
def iE(z:P.follows .mixedOrders=T){r:R}:∀(c:W)(t:Tr R)(st:az)(a3:Exit->Tr R->az->Prop),t.val=O r->Mb P GE A m c t st a3->dz P GE m c (λe d=>∃i,i.val=O r/\a3 e i d) st
 |.skip,t,st,a3,p,h=>dz.skip ⟨t,p,h⟩
 |.label _,t,st,a3,p,h=>dz.label ⟨t,p,h⟩
 |.region id ops draw,t,st,a3,p,h=>by simp only[Mb]at h;let⟨F,s,h⟩:=Tr.go_ok p h;let⟨l,t2,H,h⟩:=Tr.run_ok h;refine(jB z (.region id ops draw) l st _ h).mono λe d o=>?_;let⟨a1,o⟩:=o;exact⟨_,.refl _,_,(Tr.its_val _ _).trans (H.trans s),o⟩
 | .seq a b,t,st,a3,p,h => by
  simp only[Mb]at h;let⟨F,s,h⟩:=Tr.go_ok p h;have B:∀(e:Exit)(i:Tr R)(d:az),i.val=O r->(match e with|.normal=>i.go (λt=>ZI m t d λt st=>Mb P GE A m b t st a3)|e=>a3 e i d)->(match e with|.normal=>dz P GE m b (λe d=>∃i,i.val=O r/\a3 e i d) d|e=>∃i,i.val=O r/\a3 e i d):=by intro e i d q o;cases e with|normal=>let⟨t2,H,o⟩:=Tr.go_ok q o;let⟨t3,a0,v3,hw,o⟩:=qeR (P:=P) o;exact dz.weak hw (iE z b t3 a0 a3 (v3.trans H) o)|exit id=>grind|goto l=>grind|ret=>grind|panic c=>grind|outgrown=>grind
  refine dz.seq ?_;split at h;.rename_i X e E i;let⟨w,L,S⟩:=h;refine dz.weak w.weak (EX.of L ?_);have:=B e i E s S;omega
  .exact(iE z a _ st _ (by exact s) h).imp λe d o=>by let⟨i,q,o⟩:=o;have:=B e i d q o;omega
  .exact(iE z a _ st _ s h).imp λe d o=>by let⟨i,q,o⟩:=o;have:=B e i d q o;omega
 | .cond c a b,t,st,a3,p,h => by
  simp only[Mb]at h;let⟨F,s,h⟩:=Tr.go_ok p h;rw[bY]at h;have go:∀{x:W}(o:∀(t:Tr R)(st:az),t.val=O r->Mb P GE A m x t st a3->dz P GE m x (λe d=>∃i,i.val=O r/\a3 e i d) st){t:Tr R},t.val=O r->t.go (λt=>ZI m t st (λt st=>Mb P GE A m x t st a3))->dz P GE m x (λe d=>∃i,i.val=O r/\a3 e i d) st:=by intro x o t p h;let⟨F,s,h⟩:=Tr.go_ok p h;let⟨t2,a2,H,hw,h⟩:=qeR (P:=P) h;grind [dz.weak]
  split at h
  .rename_i x o;split at h
   .rename_i i;refine dz.cond o (λw=>?_) (λw=>?_);.subst w;exact go (t:=i) (λt st p h=>iE z a t st a3 p h) (by exact s) h
    .subst w;exact go (t:=i) (λt st p h=>iE z b t st a3 p h) (by exact s) h
   .rename_i j y i;obtain⟨rfl,h⟩:=h;refine dz.cond o (λw=>?_) (λw=>?_);.subst w;exact go (t:=i) (λt st p h=>iE z a t st a3 p h) (by exact s) h
    .subst w;exact go (t:=i) (λt st p h=>iE z b t st a3 p h) (by exact s) h
   simp_all
  simp_all
 | .block id c,t,st,a3,p,h => by simp only[Mb]at h;refine dz.block ((iE z c _ st _ p h).imp λe d o=>?_);let⟨i,q,o⟩:=o;cases e with|exit id'=>simp only[Zc];grind|normal=>exact⟨i,q,o⟩|goto l=>exact⟨i,q,o⟩|ret=>exact⟨i,q,o⟩|panic c=>exact⟨i,q,o⟩|outgrown=>exact⟨i,q,o⟩
 |.exit id,t,st,a3,p,h=>dz.exit ⟨t,p,h⟩
 |.ret,t,st,a3,p,h=>dz.ret ⟨t,p,h⟩
 | .loop c,t,st,a3,p,h => by
  simp only[Mb]at h;let⟨F,s,h⟩:=Tr.go_ok p h;split at h;.rename_i X e E i;let⟨w,L,S⟩:=h;exact dz.weak w.weak (EX.of L ⟨i,s,S⟩)
  simp_all
 |.rangeFunc ..,_,_,_,_,h=>by grind [Mb]
 |.scope _,_,_,_,_,h=>by grind [Mb]
 |.goto _,_,_,_,_,h=>by grind [Mb]
 |.refuse _,_,_,_,_,h=>by grind [Mb]
end
def PV(a:R->Prop)(o:Q R)(t:Tr R)(F:Prop):Prop:=t.val=o/\((∀r,a r)->F)
section
variable{d:R->Prop}
def tE{r:R}:PV d (O r) (.lf r) (d r):=⟨rfl,λh=>h r⟩
def QZ{r:R}{F:Prop}(h:d r->F):PV d (O r) (.lf r) F:=⟨rfl,λq=>h (q r)⟩
def tb{α:Type}{o:Q α}{k:α->Q R}{t:α->Tr R}{F:α->Prop}(h:∀a,o=O a->PV d (k a) (t a) (F a)):PV d (o.bind k) (.bd o t) (∀a,o=O a->F a):=by refine⟨?_,λq a b=>(h a b).2 q⟩;cases o with|none=>rfl|some a=>exact(h a rfl).1
def tf{b:K}{x y:Q R}{s t:Tr R}{F e:Prop}(h:b=T->PV d x s F)(c:b=Z->PV d y t e):PV d (if b then x else y) (.br b s t) ((b=T->F)/\(b=Z->e)):=by refine⟨?_,λq=>⟨λa=>(h a).2 q,λa=>(c a).2 q⟩⟩;cases b with|false=>exact(c rfl).1|true=>exact(h rfl).1
def tF{b:K}{x y:Q R}{s t:Tr R}{F e:Prop}(h:PV d x s F)(c:PV d y t e):PV d (if b then x else y) (.br b (.it (.g 0 T) s) (.it (.g 0 Z) t)) ((b=T->b=T/\F)/\(b=Z->b=Z/\e)):=by refine⟨?_,λq=>⟨λa=>⟨a,h.2 q⟩,λa=>⟨a,c.2 q⟩⟩⟩;cases b with|false=>exact c.1|true=>exact h.1
def t2{α β:Type}{o:Q (α⊕β)}{k:α⊕β->Q R}{s:α->Tr R}{t:β->Tr R}{F:α->Prop}{e:β->Prop}(h:∀a,o=O (.inl a)->PV d (k (.inl a)) (s a) (F a))(c:∀a,o=O (.inr a)->PV d (k (.inr a)) (t a) (e a)):PV d (o.bind k) (.bs o s t) ((∀a,o=O (.inl a)->F a)/\∀a,o=O (.inr a)->e a):=by
 refine⟨?_,λq=>⟨λa b=>(h a b).2 q,λa b=>(c a b).2 q⟩⟩;simp only[Tr.val];rcases o with _|a|a;.rfl
 .exact(h a rfl).1
 .exact(c a rfl).1
variable{z:Q R}{A:Tr R}{F X B:Prop}
def tv{o:Q U}{p:U}(h:o=O p)(r:PV d z A F):PV d z (.it (.v p) A) (o=O p/\F):=⟨r.1,λq=>⟨h,r.2 q⟩⟩
def ca{o:V ay->Q U}{p:U}(h:∀H,o H=O p)(r:PV d z A F):PV d z (.it (.v p) A) ((∀H,o H=O p)/\F):=⟨r.1,λq=>⟨h,r.2 q⟩⟩
def tx{o:Q (V U)}{l:V U}(h:o=O l)(r:PV d z A F):PV d z (.it (.x l) A) (o=O l/\F):=⟨r.1,λq=>⟨h,r.2 q⟩⟩
def te{o:Q (V U)}{l:V U}(h:o=O l)(r:PV d z A F):PV d z (.it (.e l) A) (o=O l/\F):=⟨r.1,λq=>⟨h,r.2 q⟩⟩
def tg(n:Nat){x b:K}(h:x=b)(r:PV d z A F):PV d z (.it (.g n b) A) (x=b/\F):=⟨r.1,λq=>⟨h,r.2 q⟩⟩
def qrl{o:Q (V U)}{l:V U}(h:o=O l)(r:PV d z A F):PV d z (.it (.s) A) (o=O l/\F):=⟨r.1,λq=>⟨h,r.2 q⟩⟩
def cP{P:I}{GE:V (Nat×V U)}{g:FuncId}{b:V U}{p:U}{a:V (Nat×G)}(h:CC P GE g b p a)(r:PV d z A F):PV d z (.it (.c p a) A) (CC P GE g b p a/\F):=⟨r.1,λq=>⟨h,r.2 q⟩⟩
def XD{P:I}{e:G}{a:V (Nat×U)}{p:U}{L:V (Nat×G)}(h:dF P e a=O p)(c:Db P e a L)(r:PV d z A F):PV d z (.it (.b p L) A) (dF P e a=O p/\Db P e a L/\F):=⟨r.1,λq=>⟨h,c,r.2 q⟩⟩
def ty{l a:V U}(h:l=a)(r:PV d z A F):PV d z (.it (.y a) A) (l=a/\F):=⟨r.1,λq=>⟨h,r.2 q⟩⟩
def qwX{o:Q (V U)}{a:V U}(h:o=O a)(r:PV d z A F):PV d z (.it (.y a) A) (o=O a/\F):=⟨r.1,λq=>⟨h,r.2 q⟩⟩
def qfr(a:V Nat)(r:PV d z A F):PV d z (.it (.dr a) A) F:=⟨r.1,r.2⟩
def jC(n:Nat)(r:PV d z A F):PV d z (.it (.pa n) A) F:=⟨r.1,r.2⟩
def cM{P:I}{GE:V (Nat×V U)}{m:Nat}{c:W}{e:Exit}{a b:az}(h:dz P GE m c (EX e b) a)(r:PV d z A F):PV d z (.it (.pc a e b) A) ((a.tmps=a.tmps/\a.boxes=a.boxes/\T=T)/\dz P GE m c (EX e b) a/\F):=⟨r.1,λq=>⟨fr a,h,r.2 q⟩⟩
def FD(i:It)(r:PV d z A F):PV d z (.it i A) F:=⟨r.1,r.2⟩
def ti(i:It)(h:X)(r:PV d z A F):PV d z (.it i A) (X/\F):=⟨r.1,λq=>⟨h,r.2 q⟩⟩
def tq(h:X)(r:PV d z A F):PV d z A (X/\F):=⟨r.1,λq=>⟨h,r.2 q⟩⟩
def qo4{o:Q (V (U×U))}{m:V (U×U)}(h:o=O m)(r:PV d z A F):PV d z (.it (.w 0 (.map m)) A) (o=O m/\F):=⟨r.1,λq=>⟨h,r.2 q⟩⟩
def qkj{o:Q (V U)}{l:V U}(h:o=O l)(a:Ot l=T)(r:PV d z A F):PV d z (.it (.x l) A) (o=O l/\Ot l=T/\F):=⟨r.1,λq=>⟨h,a,r.2 q⟩⟩
def tw{o b:Q U}{p a:U}(h:o=O p/\b=O a)(r:PV d z A F):PV d z (.it (.v p) (.it (.v a) A)) (o=O p/\b=O a/\F):=⟨r.1,λq=>⟨h.1,h.2,r.2 q⟩⟩
def tk(r:PV d z A F):PV d z (.it .k A) F:=⟨r.1,r.2⟩
def ts(r:PV d z A F):PV d z (.it .s A) F:=⟨r.1,r.2⟩
end
end
def qaN(s:az):Prop:=s.tmps=s.tmps/\s.boxes=s.boxes/\T=T
def qaN.ok(s:az):qaN s:=fr s
def Zm:Exit->K|.normal=>T|_=>Z
theorem Zn{e:Exit}(h:Zm e=Z):e≠.normal:=by intro a;subst a;cases h
section
variable{P:I}{GE:V (Nat×V U)}{A:V Nat}{m:Nat}{c:W}{st:az}{X σ:Type}
def Tr.fin{R:Type}:Tr R->(R->Prop)->Prop|.lf x,a=>a x|_,_=>False
theorem qbI{R:Type}{r:R}{t:Tr R}{b:R->Prop}(a:t.val=O r)(h:t.fin b):b r:=by
 unfold Tr.fin at h;split at h;.cases a;omega
 simp_all
def LJ(a:X->Exit)(b:X->az)(x:X):Prop:=a x=a x/\qaN (b x)
def KJ(a:X->Exit)(b:X->az):Exit->Tr X->az->Prop:=λe t st=>t.go λt=>t.fin λx=>FN (a x) (b x) e [] st
def KJ.at{a:X->Exit}{b:X->az}{e:Exit}{t:Tr X}{st:az}{x:X}(d:t.val=O x)(h:KJ a b e t st):FN (a x) (b x) e [] st:=by let⟨i,o,h⟩:=Tr.go_ok d h;grind [qbI,FN]
def qjE(p:P.follows .mixedOrders=T){ex:X->Exit}{b:X->az}{o:Q X}{x:X}(h:o=O x){t:Tr X}{F:Prop}(z:PV (LJ ex b) o t F)(i:F=Mb P GE A m c t st (KJ ex b)):dz P GE m c (EX (ex x) (b x)) st:=by
 have d:=z.2 λr=>⟨rfl,qaN.ok _⟩
 rw[i]at d;refine(iE p c t st _ (z.1.trans h) d).mono λe q a=>?_;let⟨w,s,a⟩:=a;have a:=KJ.at s a;exact⟨b x,a.2.weak,a.1.symm,rfl⟩
def LB(S:σ->az)(a:X->Exit)(b:X->az):σ⊕X->Prop|.inl s=>Exit.normal=Exit.normal/\qaN (S s)|.inr x=>Z=Z/\a x=a x/\qaN (b x)
def KB(S:σ->az)(a:X->Exit)(b:X->az):Exit->Tr (σ⊕X)->az->Prop:=λe t st=>t.go λt=>t.fin λy=>match y with|.inl s=>FN .normal (S s) e [] st|.inr x=>Zm (a x)=Z/\FN (a x) (b x) e [] st
def quT(m:Nat)(S:σ->az)(a:X->Exit)(b:X->az):Exit->Tr (σ⊕X)->az->Prop:=λe t st=>t.go λt=>t.fin λy=>match y with|.inl s=>qru m .normal (S s) e [] st|.inr x=>Zm (a x)=Z/\qru m (a x) (b x) e [] st
def qqd(q:P.follows .mixedOrders=T){S:σ->az}{d:X->Exit}{b:X->az}{o:Q (σ⊕X)}{y:σ⊕X}(h:o=O y){t:Tr (σ⊕X)}{F:Prop}(z:PV (LB S d b) o t F)(p:F=Mb P GE A m c t st (KB S d b)):dz P GE m c (LQ S d b y) st:=by
 have i:=z.2 λr=>by cases r with|inl s=>exact⟨rfl,qaN.ok _⟩|inr x=>exact⟨rfl,rfl,qaN.ok _⟩
 rw[p]at i;refine(iE q c t st _ (z.1.trans h) i).mono λe w a=>?_;let⟨H,B,a⟩:=a;let⟨t2,E,a⟩:=Tr.go_ok B a;have a:=qbI E a;cases y with|inl s=>exact⟨S s,a.2.weak,a.1.symm,rfl⟩|inr x=>exact⟨b x,a.2.2.weak,by rw[<-a.2.1];grind [Zn],a.2.1.symm,rfl⟩
def qnD(q:P.follows .mixedOrders=T){S:σ->az}{d:X->Exit}{b:X->az}{o:Q (σ⊕X)}{y:σ⊕X}(h:o=O y){t:Tr (σ⊕X)}{F:Prop}(z:PV (λ_=>True) o t F)(p:F=Mb P GE A m c t st (quT m S d b)):dz P GE m c (LQ S d b y) st:=by have i:=z.2 λr=>trivial;rw[p]at i;refine(iE q c t st _ (z.1.trans h) i).mono λe w a=>?_;let⟨H,B,a⟩:=a;let⟨t2,E,a⟩:=Tr.go_ok B a;have a:=qbI E a;cases y with|inl s=>exact⟨S s,a.2.weak,a.1.symm,rfl⟩|inr x=>exact⟨b x,a.2.2.weak,by rw[<-a.2.1];grind [Zn],a.2.1.symm,rfl⟩
def ZL{S:σ->az}{ex:X->Exit}{d:X->az}{a:σ->Q (σ⊕X)}{s:σ}{x:X}(h:loop a s=O x)(p:∀s y,a s=O y->dz P GE m c (LQ S ex d y) (S s)){st b:az}{e:Exit}(h1:st=S s:=by rfl)(i:e=ex x:=by rfl)(o:b=d x:=by rfl):dz P GE m (.loop c) (EX e b) st:=by subst h1 i o;exact dz.loop h p
end
class K0 (p:PVal):Prop where h:p.cl 0
class K0l (l:List PVal):Prop where h:ie 0 l
class KE {α:Type} (c:α->List PVal):Prop where h:∀x,ie 0 (c x)
class KF {α:Type} (f:α->PVal):Prop where h:∀x,(f x).cl 0
class LTc (i n:Nat):Prop where h:i<n
class ATc (ρ:List Nat) (i:Nat) (j:outParam Nat):Prop where h:ρ[i]? =some j
instance iq1{n:Nat}:LTc 0 (n+1):=⟨by omega⟩
instance iq2{i n:Nat}[q:LTc i n]:LTc (i+1) (n+1):=⟨by have:=q.h;omega⟩
instance iq3{j:Nat}{ρ:List Nat}:ATc (j::ρ) 0 j:=⟨rfl⟩
instance iq4{i j k:Nat}{ρ:List Nat}[q:ATc ρ i j]:ATc (k::ρ) (i+1) j:=⟨by simpa using q.h⟩
instance iq6{k:IntKind}{n:Int}:K0 (.int k n):=⟨hV⟩
instance iq7{b:Bool}:K0 (.bool b):=⟨hV⟩
instance iq8{s:aa}:K0 (.str s):=⟨hV⟩
instance iq9{v:Value}:K0 (.val v):=⟨hV⟩
instance qzP{l:List PVal}[q:K0l l]:K0 (.agg l):=⟨q.h⟩
instance qzQ{l:List PVal}[q:K0l l]:K0 (.tuple l):=⟨q.h⟩
instance qzR{l:List PVal}[q:K0l l]:K0 (.eptr l):=⟨q.h⟩
instance qzS{fn:Fn}{f c:List PVal}[q:K0l f][q':K0l c]:K0 (.func fn f c):=⟨⟨q.h,q'.h⟩⟩
instance qzT:K0l []:=⟨hV⟩
instance qzU{p:PVal}{l:List PVal}[q:K0 p][q':K0l l]:K0l (p::l):=⟨⟨q.h,q'.h⟩⟩
instance qzV{α:Type}{c:α->List PVal}{l:List α}[q:KE c]:K0 (sl c l):=⟨cw q.h l⟩
instance qzW{k:IntKind}:KE (cI k):=⟨qvk k⟩
instance qzX:KE cS:=⟨J3⟩
instance qzY{α:Type}{c:α->List PVal}{l:List α}[q:KE c]:K0l (cL c l):=⟨qtU q.h l⟩
instance qzZ{b:Bool}:K0l (cB b):=⟨qwv b⟩
instance qAa:KF PVal.bool:=⟨λ_=>trivial⟩
instance qAb{k:IntKind}:KF (PVal.int k):=⟨λ_=>trivial⟩
class KC (n:Nat) (p:PVal):Prop where h:p.cl n
class KCl (n:Nat) (l:List PVal):Prop where h:ie n l
class KCb (n:Nat) (B:ay):Prop where h:qkY n B
class KCs (n:Nat) (H:List ay):Prop where h:Rn n H
instance qAc{n:Nat}{p:PVal}[q:K0 p]:KC n p:=⟨up q.h⟩
instance qAd{n i a:Nat}[q:LTc i n]:KC n (.bptr i a):=⟨by simp only[PVal.cl];exact q.h⟩
instance qAe{n i:Nat}[q:LTc i n]:KC n (.mapr i):=⟨by simp only[PVal.cl];exact q.h⟩
instance qAf{n i:Nat}{a:TypeId}[q:LTc i n]:KC n (.nptr i a):=⟨by simp only[PVal.cl];exact q.h⟩
instance qAg{n:Nat}{l:List PVal}[q:KCl n l]:KC n (.tuple l):=⟨q.h⟩
instance qAh{n:Nat}{l:List PVal}[q:KCl n l]:KC n (.eptr l):=⟨q.h⟩
instance qAi{n:Nat}{fn:Fn}{f c:List PVal}[q:KCl n f][q':KCl n c]:KC n (.func fn f c):=⟨⟨q.h,q'.h⟩⟩
instance qAj{n:Nat}{l:List PVal}[q:K0l l]:KCl n l:=⟨Ro q.h⟩
instance qAk{n:Nat}:KCl n []:=⟨hV⟩
instance qAl{n:Nat}{p:PVal}{l:List PVal}[q:KC n p][q':KCl n l]:KCl n (p::l):=⟨⟨q.h,q'.h⟩⟩
instance qAm{n:Nat}:KCb n .dead:=⟨hV⟩
instance qAn{n:Nat}{a:List PVal}{own:List (Nat×TypeId)}[q:KCl n a]:KCb n (.cells a own):=⟨q.h⟩
instance qAo{n:Nat}{α:Type}{f:α->PVal}{l:List (aa×α)}[q:KF f]:KCb n (.map (bU f l)):=⟨qnF f q.h l⟩
instance qAp{n:Nat}:KCs n []:=⟨hV⟩
instance qAq{n:Nat}{B:ay}{H:List ay}[q:KCb n B][q':KCs n H]:KCs n (B::H):=⟨⟨q.h,q'.h⟩⟩
class RXc (ρ:List Nat) (q:PVal) (p:outParam PVal):Prop where h:DG ρ p q
class RXl (ρ:List Nat) (q:List PVal) (p:outParam (List PVal)):Prop where h:MB ρ p q
class RXb (ρ:List Nat) (q:ay) (p:outParam ay):Prop where h:qcN ρ p q
class RXs (ρ:List Nat) (q:List ay) (p:outParam (List ay)):Prop where h:yI ρ p q
instance qAr{ρ:List Nat}{p:PVal}[q:K0 p]:RXc ρ p p:=⟨xR ρ p q.h⟩
instance qAs{ρ:List Nat}{i j a:Nat}[q:ATc ρ i j]:RXc ρ (.bptr i a) (.bptr j a):=⟨xB ρ i j a q.h⟩
instance qAt{ρ:List Nat}{i j:Nat}[q:ATc ρ i j]:RXc ρ (.mapr i) (.mapr j):=⟨xM ρ i j q.h⟩
instance qAu{ρ:List Nat}{i j:Nat}{a:TypeId}[q:ATc ρ i j]:RXc ρ (.nptr i a) (.nptr j a):=⟨xN ρ i j a q.h⟩
instance qAv{ρ:List Nat}{fn:Fn}{f c b a:List PVal}[q:RXl ρ f b][q':RXl ρ c a]:RXc ρ (.func fn f c) (.func fn b a):=⟨xF ρ fn b a f c q.h q'.h⟩
instance qAw{ρ:List Nat}{l a:List PVal}[q:RXl ρ l a]:RXc ρ (.agg l) (.agg a):=⟨xA ρ a l q.h⟩
instance qAx{ρ:List Nat}{l:List PVal}[q:K0l l]:RXl ρ l l:=⟨qvT ρ l q.h⟩
instance qAy{ρ:List Nat}:RXl ρ [] []:=⟨hV⟩
instance qAz{ρ:List Nat}{p b:PVal}{l a:List PVal}[q:RXc ρ p b][q':RXl ρ l a]:RXl ρ (p::l) (b::a):=⟨⟨q.h,q'.h⟩⟩
instance qAA{ρ:List Nat}{b a:List PVal}{own:List (Nat×TypeId)}[q:RXl ρ b a]:RXb ρ (.cells b own) (.cells a own):=⟨⟨rfl,q.h⟩⟩
instance qAB{ρ:List Nat}{α:Type}{f:α->PVal}{l:List (aa×α)}[q:KF f]:RXb ρ (.map (bU f l)) (.map (bU f l)):=⟨⟨rfl,qnF (n:=0) f q.h l⟩⟩
instance qAC{ρ:List Nat}:RXs ρ [] []:=⟨hV⟩
instance qAD{ρ:List Nat}{B a:ay}{H b:List ay}[q:RXb ρ B a][q':RXs ρ H b]:RXs ρ (B::H) (a::b):=⟨⟨q.h,q'.h⟩⟩
def HI(ρ:List Nat):List ay->List ay->Prop|[],[]=>True|B::Bs,Bc::Hc=>(B=B/\qcN ρ B Bc)/\HI ρ Bs Hc|_,_=>False
def HI.of{ρ:V Nat}:∀{a b:V ay},yI ρ a b->HI ρ a b|[],[],_=>trivial|[],_::_,h=>h.elim|_::_,[],h=>h.elim|_::_,_::_,h=>⟨⟨rfl,h.1⟩,HI.of h.2⟩
section
variable{R:Type}{a:R->Prop}{b:Q R}{c:Tr R}{F:Prop}{P:I}{GE:V (Nat×V U)}
def tc(ρ:V Nat){g:FuncId}{h d:V U}{p m i e:V ay}{r o:U}{s:V (Nat×G)}(ok:C P GE g d [] m o s e)[q1:RXl ρ d h][q2:RXs ρ m p][q3:RXs ρ e i][q4:RXc ρ o r](z:PV a b c F):PV a b (.it (.cg ⟨ρ,d,[],p,m,i,e,r,o,s⟩) c) (C P GE g d [] m o s e/\MB ρ h d/\HI ρ p m/\yI ρ i e/\DG ρ r o/\F):=⟨z.1,λq=>⟨ok,q1.h,.of q2.h,q3.h,q4.h,z.2 q⟩⟩
def qvL(ρ:V Nat){g:FuncId}{i d:V U}{h m e:V ay}{r o:U}{p:V (Nat×G)}(ok:C P GE g d [] m o p e)[q1:RXl ρ d i][q2:RXs ρ m h][q3:RXs ρ e h][q4:RXc ρ o r](z:PV a b c F):PV a b (.it (.cg ⟨ρ,d,[],h,m,h,e,r,o,p⟩) c) (h=h/\C P GE g d [] m o p e/\MB ρ i d/\HI ρ h m/\yI ρ h e/\DG ρ r o/\F):=⟨z.1,λq=>⟨rfl,ok,q1.h,.of q2.h,q3.h,q4.h,z.2 q⟩⟩
end
class KS (m:Nat) (s:az):Prop where h:decide (m % 1000<=s.boxes.length)=true/\ie s.boxes.length s.tmps/\Rn s.boxes.length s.boxes
def qwV(s:az)(l:V (Nat×U)):az:=⟨l.foldl (λtm x=>tm.set x.1 x.2) s.tmps,s.boxes,s.own⟩
class KTm (n:Nat) (l:List (Nat×PVal)):Prop where h:qkZ n l
instance qAE{n:Nat}:KTm n []:=⟨hV⟩
instance qAF{n t:Nat}{p:PVal}{l:List (Nat×PVal)}[q:KC n p][q':KTm n l]:KTm n ((t,p)::l):=⟨⟨q.h,q'.h⟩⟩
theorem ks(k:Nat){m N:Nat}{l:V (Nat×U)}{B:V ay}{o:V ((Nat×Nat)×G)}(h:(B.length==k&&Y (m % 1000<=k))=T)[q:KTm k l][q':KCs k B]:KS m (aR N l B o):=by rw[ne,vbf]at h;obtain⟨rfl,h⟩:=h;exact⟨h,I6 q.h,q'.h⟩
def qm0(m:Nat)(s:az):Prop:=s.tmps=s.tmps/\s.boxes=s.boxes/\T=T/\Y (m % 1000<=s.boxes.length)=T/\ie s.boxes.length s.tmps/\Rn s.boxes.length s.boxes
def KS.f{m:Nat}{s:az}(q:KS m s):qm0 m s:=⟨rfl,rfl,rfl,q.h⟩
def qvU(m:Nat){σ X:Type}(S:σ->az)(a:X->Exit)(b:X->az):σ⊕X->Prop|.inl s=>Exit.normal=Exit.normal/\qm0 m (S s)|.inr x=>Z=Z/\a x=a x/\qm0 m (b x)
def qpf(P:I)(GE:V (Nat×V U))(f:FuncId)(a:V U){R:Type}(o:Q R)(b:R->U)(c:V (Nat×G)):Prop:=∀r:R,o=O r->CC P GE f a (b r) c
def qrv(P:I)(GE:V (Nat×V U))(f:FuncId)(a:V U)(d:V ((Nat×Nat)×G))(H:V ay){R:Type}(o:Q R)(b:R->U)(e:V (Nat×G))(c:R->V ay):Prop:=∀r:R,o=O r->C P GE f a d H (b r) e (c r)
def quU(P:I)(GE:V (Nat×V U))(f:FuncId)(a:V U){R:Type}(o:Q R)(b:R->U)(d:V (Nat×G))(c:R->V ay):Prop:=∀r:R,o=O r->CN P GE f a (b r) d (c r)
def qrw(P:I)(GE:V (Nat×V U))(m:Nat)(c:W){X:Type}(o:Q X)(e:Exit)(a:X->az)(b:az):Prop:=∀x:X,o=O x->dz P GE m c (EX e (a x)) b
def qrL(P:I)(GE:V (Nat×V U))(m:Nat)(c:W){X:Type}(o:Q X)(a:X->Exit)(b:X->az)(d:az):Prop:=∀x:X,o=O x->dz P GE m c (EX (a x) (b x)) d
def qpe(P:I)(GE:V (Nat×V U))(m:Nat)(c:W){σ X:Type}(o:Q (σ⊕X))(S:σ->az)(a:X->Exit)(b:X->az)(d:az):Prop:=∀y:σ⊕X,o=O y->dz P GE m c (LQ S a b y) d
def ZF(P:I)(A:V Nat)(f:FuncId)(fn:Func)(c:W):Prop:=(∀a w,(callFunc f a).run P w=.ok (.enter f a) w)/\P.funcs[f]? =O fn/\fn.body=O c/\P.follows .mixedOrders=T/\A=A
section
variable{P:I}{GE:V (Nat×V U)}{A:V Nat}{f:FuncId}{fn:Func}{c:W}{b:V U}{ro:V (Nat×G)}{R:Type}{a:R->U}{o:Q R}{t:Tr R}{F:Prop}
def zf(e:∀d w,(callFunc f d).run P w=.ok (.enter f d) w)(h:P.funcs[f]? =O fn)(i:fn.body=O c)(m:P.follows .mixedOrders=T):ZF P A f fn c:=⟨e,h,i,m,rfl⟩
def qaK(h:∀r,o=O r->CC P GE f b (a r) ro):qpf P GE f b o a ro:=h
def LV(a:R->U)(r:R):Prop:=a r=a r/\(a r).cl 0
def qvV(a:R->U)(r:R):Prop:=a r=a r/\(a r).cl 0/\(a r).isAgg=T
def KV(P:I)(d:V ResultVar)(a:R->U)(ro:V (Nat×G)):Exit->Tr R->az->Prop:=λe t h=>t.go λt=>t.fin λr=>FR P d (a r) ro e [] h
def KV.at{r:R}{d:V ResultVar}{e:Exit}{st:az}(i:t.val=O r)(h:KV P d a ro e t st):FR P d (a r) ro e [] st:=by let⟨m,p,h⟩:=Tr.go_ok i h;grind [qbI,FR]
def ZF.v0(g:ZF P A f fn c)(m:ie 0 b)(p:t.val=o)(i:Mb P GE A 0 c t ⟨b++List.replicate (fn.ntmps - b.length) .undef,[],[]⟩ (KV P fn.results.toList a ro)):qpf P GE f b o a ro:=λ_ h=>
 ⟨m,C.ofSat g.1 g.2.1 g.2.2.1 ((iE g.2.2.2.1 c t _ _ (p.trans h) i).imp λe r d=>by let⟨s,q,d⟩:=d;exact(KV.at q d).to)⟩
def ZF.v(g:ZF P A f fn c)[ha:K0l b](z:PV (LV a) o t F)[hr:∀r,K0 (a r)](d:F=Mb P GE A 0 c t ⟨b++List.replicate (fn.ntmps - b.length) .undef,[],[]⟩ (KV P fn.results.toList a ro):=by kernel_rfl):qpf P GE f b o a ro:=
 ZF.v0 g ha.h z.1 (d▸z.2 λr=>⟨rfl,(hr r).h⟩)
def ZF.va(g:ZF P A f fn c)[ha:K0l b](z:PV (qvV a) o t F)[hr:∀r,K0 (a r)](e:∀r,(a r).isAgg=true:=by intro r;rfl)(d:F=Mb P GE A 0 c t ⟨b++List.replicate (fn.ntmps - b.length) .undef,[],[]⟩ (KV P fn.results.toList a ro):=by kernel_rfl):qpf P GE f b o a ro:=
 ZF.v0 g ha.h z.1 (d▸z.2 λr=>⟨rfl,(hr r).h,e r⟩)
variable{H:V ay}{H':R->V ay}{d:V ((Nat×Nat)×G)}{m:Nat}
def qaJ(h:∀r,o=O r->C P GE f b d H (a r) ro (H' r)):qrv P GE f b d H o a ro H':=h
def LG(a:R->U)(H':R->V ay)(n:Nat)(r:R):Prop:=a r=a r/\(a r).cl n/\H' r=H' r/\Rn n (H' r)
def KG(P:I)(h:V ResultVar)(a:R->U)(ro:V (Nat×G))(H':R->V ay):Exit->Tr R->az->Prop:=λe t i=>t.go λt=>t.fin λr=>qoR P h (a r) ro (H' r) e [] i
def KG.at{r:R}{i:V ResultVar}{e:Exit}{st:az}(p:t.val=O r)(h:KG P i a ro H' e t st):qoR P i (a r) ro (H' r) e [] st:=by let⟨q,s,h⟩:=Tr.go_ok p h;grind [qbI,qoR]
def ZF.g0(g:ZF P A f fn c)(i:∀r,(Y (m % 1000=H.length)&&Y (m≠0)&&Y ((H' r).length=H.length))=T)(s:t.val=o)(q:Mb P GE A m c t ⟨b++List.replicate (fn.ntmps - b.length) .undef,H,d⟩ (KG P fn.results.toList a ro H')):qrv P GE f b d H o a ro H':=by intro r h;have i:=i r;simp only[ne,oy]at i;exact C.ofSatG i.1.1 i.1.2 g.1 g.2.1 g.2.2.1 i.2 ((iE g.2.2.2.1 c t _ _ (s.trans h) q).imp λe x p=>by let⟨y,w,p⟩:=p;exact(KG.at w p).to)
def ZF.g(g:ZF P A f fn c)(n:Nat)(z:PV (LG a H' n) o t F)[hr:∀r,KC n (a r)][hb:∀r,KCs n (H' r)](i:∀r,(Y (n % 1000=H.length)&&Y (n≠0)&&Y ((H' r).length=H.length))=true:=by intro r;rfl)(e:F=Mb P GE A n c t ⟨b++List.replicate (fn.ntmps - b.length) .undef,H,d⟩ (KG P fn.results.toList a ro H'):=by kernel_rfl):qrv P GE f b d H o a ro H':=
 ZF.g0 g i z.1 (e▸z.2 λr=>⟨rfl,(hr r).h,rfl,(hb r).h⟩)
def ZF.n(g:ZF P A f fn c)(n:Nat)(z:PV (LG a H' n) o t F)[hr:∀r,KC n (a r)][hb:∀r,KCs n (H' r)](q:F=Mb P GE A 0 c t ⟨b++List.replicate (fn.ntmps - b.length) .undef,[],[]⟩ (KG P fn.results.toList a ro H'):=by kernel_rfl):quU P GE f b o a ro H':=by
 intro r h;have p:=z.2 λr=>⟨rfl,(hr r).h,rfl,(hb r).h⟩
 rw[q]at p;exact CN.ofSat g.1 g.2.1 g.2.2.1 ((iE g.2.2.2.1 c t _ _ (z.1.trans h) p).imp λe w i=>by let⟨x,s,i⟩:=i;exact(KG.at s i).to)
end
section
variable{P:I}{GE:V (Nat×V U)}{A:V Nat}{f:FuncId}{fn:Func}{b c:W}{m:Nat}{st:az}{X σ:Type}{S:σ->az}{ex:X->Exit}{a:X->az}{F:Prop}
def ZF.k(g:ZF P A f fn b){o:Q X}{t:Tr X}(z:PV (LJ ex a) o t F)(d:F=Mb P GE A m c t st (KJ ex a):=by kernel_rfl):qrL P GE m c o ex a st:=λ_ h=>qjE g.2.2.2.1 h z d
def ZF.j(g:ZF P A f fn b){e:Exit}{o:Q X}{t:Tr X}(z:PV (LJ (λ_=>e) a) o t F)(d:F=Mb P GE A m c t st (KJ (λ_=>e) a):=by kernel_rfl):qrw P GE m c o e a st:=λ_ h=>qjE (ex:=λ_=>e) g.2.2.2.1 h z d
def ZF.l(g:ZF P A f fn b){o:Q (σ⊕X)}{t:Tr (σ⊕X)}(z:PV (LB S ex a) o t F)(d:F=Mb P GE A m c t st (KB S ex a):=by kernel_rfl):qpe P GE m c o S ex a st:=λ_ h=>qqd g.2.2.2.1 h z d
def ZF.lx(g:ZF P A f fn b){o:Q (σ⊕X)}{t:Tr (σ⊕X)}(z:PV (qvU m S ex a) o t F)[q:∀s,KS m (S s)][q':∀x,KS m (a x)](d:F=Mb P GE A m c t st (quT m S ex a):=by kernel_rfl):qpe P GE m c o S ex a st:=λ_ h=>qnD g.2.2.2.1 h ⟨z.1,λ_=>z.2 λy=>match y with
 |.inl s=>⟨rfl,(q s).f⟩
 |.inr x=>⟨rfl,rfl,(q' x).f⟩⟩ d
def NA{d:σ->Q (σ⊕X)}{s:σ}(e:∀s,qpe P GE m c (d s) S ex a (S s))(h1:st=S s:=by rfl):qrL P GE m (.loop c) (loop d s) ex a st:=λ_ h=>ZL (h1:=h1) h λs y i=>e s y i
def ug{e:Exit}{d:σ->Q (σ⊕X)}{s:σ}(i:∀s,qpe P GE m c (d s) S (λ_=>e) a (S s))(h1:st=S s:=by rfl):qrw P GE m (.loop c) (loop d s) e a st:=λ_ h=>ZL (ex:=λ_=>e) (h1:=h1) h λs y o=>i s y o
end
end Go.Proofs.YtankopenjcbeeaaGreatDoor
