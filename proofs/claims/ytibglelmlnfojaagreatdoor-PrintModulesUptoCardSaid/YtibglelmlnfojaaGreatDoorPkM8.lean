/- PROVED: a part of the proof. Conditions: none. -/
import Derived.Test.YtibglelmlnfojaaGreatDoorPkM7
import Derived.Test.YtibglelmlnfojaaGreatDoorRows
import Derived.Test.YtibglelmlnfojaaGreatDoorPkM3
import Derived.Shelf.SlicesE.Clone
set_option linter.unusedSimpArgs false set_option linter.defProp false
set_option linter.unusedVariables false
noncomputable section
namespace Go.Proofs.YtibglelmlnfojaaGreatDoor
open Go Go.RowKit Go.WideShapes Go.ChangeShapes Go.ChangeAt
open Option renaming some→O,none→N
open Go renaming TypeId→G,Value→D,Program→I,Oper→M,World→J,Code→W
open Bool renaming true→T,false→Z
open Decidable renaming decide→Y
open Go.Proofs.YtibglelmlnfojaaGreatDoor renaming PVal→U
set_option linter.unusedVariables false
mutual
def pm:U->Nat|.str s=>s.length+1|.slice es=>bC es+1|.int _ _=>1|.bool _=>1|_=>0
def dc:List U->Nat|[]=>0|p::l=>pm p+dc l
def bC:List (List U)->Nat|[]=>0|x::r=>dc x+bC r
end
def ik:∀(a b:List U),dc (a++b)=dc a+dc b
 |[],b=>by simp[dc]
 |p::a,b=>by simp only[vaN,dc,ik a b];omega
def qxi(P:I)(S:G->List U->Prop):List Field->List U->Prop|[],l=>l=[]|f::fs,l=>∃a b,l=a++b/\a.length=P.cellsOf f.type/\S f.type a/\qxi P S fs b
def Sh(P:I):Nat->G->List U->Prop|0,_,_=>False|n+1,t,l=>match P.underlying t with|some .bool=>∃b,l=[.bool b]|some (.int k)=>∃i,l=[.int k i]/\(Lit.int k i).wf=T|some .string=>∃s:ae,l=[.str s]/\s.length<=maxLen|some (.slice e)=>∃a,l=[.slice a]/\a.length<=maxLen/\∀x∈a,Sh P n e x|some (.struct fs)=>qxi P (Sh P n) fs.toList l|_=>True
def Q0(P:I):Nat->List Field->Nat->K|o,[],n=>Y (o=n)|o,f::fs,n=>Y (f.offset=o)&&Q0 P (o+P.cellsOf f.type) fs n
def qkM{α:Type}{o:Nat->α->Prop}:∀{n:Nat},(∀i,i<n->∃x,o i x)->∃l:List α,l.length=n/\∀(i:Nat) x,l[i]? =O x->o i x
 |0,_=>⟨[],rfl,λi x h=>by simp at h⟩
 | n + 1,h => by
  let⟨l,d,e⟩:=qkM (n:=n) λi c=>h i (by omega);let⟨x,m⟩:=h n (by omega);refine⟨l++[x],by simp[d],λi y a=>?_⟩;by_cases c:i<l.length;.rw[B2 c]at a;exact e i y a
  .have b:=ax a;simp at b;have:i=l.length:=by omega
   subst this;rw[vav (m7 _)]at a;simp at a;subst a;rw[d];exact m
def qkk{H:Type}:∀{es:List (List U)}{ds:List (DataW H)},es.length=ds.length->(∀(i:Nat) x d,es[i]? =O x->ds[i]? =O d->dc x<=Rows.uptoBulk d)->bC es<=Rows.uptoBulkAll ds
 |[],[],_,_=>by simp[bC,Rows.uptoBulkAll]
 |x::es,d::ds,hl,h=>by have c:=h 0 x d rfl rfl;have e:=qkk (es:=es) (ds:=ds) (by simpa using hl) λi x d b a=>h (i+1) x d (by simpa using b) (by simpa using a);simp only[bC,Rows.uptoBulkAll];omega
section
variable{H:Type}{enc:G×D->H}{P:I}{A:J}{base:Nat}{z:Nat->K}{m:K}
def quG(P:I)(A:J)(n:Nat)(t:G)(a:V D)(b:Nat):Prop:=∃l:V U,l.length=a.length/\(∀(i:Nat) p v,l[i]? =O p->a[i]? =O v->VR (P0 A) [] A p v)/\Sh P n t l/\dc l<=b
def quG.one{n:Nat}{t:G}{p:U}{v:D}{b:Nat}(h:VR (P0 A) [] A p v)(d:Sh P n t [p])(e:pm p<=b):quG P A n t [v] b:=
 ⟨[p],rfl,λi q u a c=>by
  cases i with
  |zero=>simp at a c;subst a;subst c;exact h
  |succ i=>simp at a,d,by simp only[dc];omega⟩
def qei{L:List G}{a:Nat}(R:∀(t:G),t∈L->∀(e:List D)(d:DataW H)(p:List MemPlace),DataW.trod enc P A base z m a t e=O (d,p)->quG P A a t e (Rows.uptoBulk d)){e:List D}:∀{r:List Field}{o n:Nat}{y:List (DataW H×List MemPlace)},(∀f∈r,f.type∈L)->n<=e.length->Q0 P o r n=T->r.mapM (λf=>DataW.trod enc P A base z m a f.type ((e.drop f.offset).take (P.cellsOf f.type)))=O y->
   o<=n/\∃l:List U,l.length=n - o/\(∀(i:Nat) p v,l[i]? =O p->e[o+i]? =O v->VR (P0 A) [] A p v)/\qxi P (Sh P a) r l/\dc l<=Rows.uptoBulkAll (y.map (·.1))
 |[],o,n,y,_,hn,c,h=>by
  unfold Q0 at c;have:o=n:=by simpa using c
  subst this;exact⟨m7 _,[],by simp,λi p v hp=>by simp at hp,rfl,by simp[dc]⟩
 | f :: r,o,n,y,hL,hn,c,h => by
  unfold Q0 at c;simp only[ne,nm]at c;let⟨s,c⟩:=c;simp only[vca,Option.bind_eq_bind,vbe,Option.pure_def,q8]at h;obtain⟨⟨d,p⟩,X,a0,B,rfl⟩:=h;let⟨ho,S,k1,k2,k3,k4⟩:=qei R (λg hg=>hL g (vaP _ hg)) hn c B;let⟨w,q1,q2,q3,q4⟩:=R _ (hL f (by simp)) _ _ _ X;have b:w.length=P.cellsOf f.type:=by rw[q1,vbg,vbE,s];omega
  refine⟨by omega,w++S,by simp[b,k1];omega,λi q v x F=>?_,⟨w,S,rfl,b,q3,k3⟩,by rw[ik];simp only[ox,Rows.uptoBulkAll];omega⟩;by_cases E:i<w.length;.rw[B2 E]at x;refine q2 i q v x ?_;rw[vaG (by omega),vbn,s];exact F
  .rw[vav (by omega)]at x;refine k2 (i - w.length) q v x ?_;rw[<-F,b];congr 1;rw[b]at E;omega
def qr0{a:Nat}{t:G}{c:V D}{x:DataW H×V MemPlace}(d:P.underlying t=O .bool)(h:DataW.trod enc P A base z m (a+1) t c=O x):∃b,c=[.bool b]/\x.1=.lit (.bool b):=by unfold DataW.trod at h;rw[d]at h;split at h<;>simp_all;exact h▸rfl
def quk{a:Nat}{t:G}{b:List D}{k:IntKind}{x:DataW H×List MemPlace}(d:P.underlying t=O (.int k))(h:DataW.trod enc P A base z m (a+1) t b=O x):∃n,b=[.int k n]/\(Lit.int k n).wf=T/\x.1=.lit (.int k n):=by unfold DataW.trod at h;rw[d]at h;cases b with|nil=>simp at h| cons v r =>cases r with|cons _ _=>simp at h|nil=>cases v<;>simp at h;obtain⟨⟨rfl,c⟩,rfl⟩:=h;exact⟨_,rfl,c,rfl⟩
def qm1{a:Nat}{t:G}{b:V D}{x:DataW H×V MemPlace}(c:P.underlying t=O .string)(h:DataW.trod enc P A base z m (a+1) t b=O x):∃s:ByteArray,b=[.string s]/\s.size<=maxLen/\x.1=.lit (.string s.data.toList):=by unfold DataW.trod at h;rw[c]at h;split at h<;>simp_all;exact h.2▸rfl
def qp1{o:Nat}{t e:G}{p:List D}{x:DataW H×List MemPlace}(E:P.underlying t=O (.slice e))(h:DataW.trod enc P A base z m (o+1) t p=O x):(p=[.slice N 0 0]/\x.1=.nil)\/∃a len b elems d,p=[.slice (O a) len b]/\len<=b/\b<=maxLen/\x.1=.slice (elems.map (·.1)) d/\
   (List.range len).mapM (λi=>(A.cells? base (a.add (i * P.cellsOf e)) (P.cellsOf e)).bind (DataW.trod enc P A base z m o e))=O elems:=by
 unfold DataW.trod at h
 rw[E]at h
 cases p with
 |nil=>simp at h
 | cons v r =>
  cases r with
  |cons _ _=>simp at h
  | nil =>
   cases v<;>try (simp at h;done)
   rename_i s len b
   cases s with
   |none=>
    left
    match len,b,h with
    |0,0,h=>simp at h;exact⟨rfl,h▸rfl⟩
    |0,c+1,h=>simp at h
    |n+1,c,h=>simp at h
   | some a =>
    right
    simp only at h
    split at h
    .rename_i q
     let⟨elems,w,y⟩:=vbe.1 h
     let⟨d,F,B⟩:=vaF.1 y
     exact⟨a,len,b,elems,d.map (·.1),rfl,q.2.1,q.2.2,by rw[<-B],w⟩
    .cases h
def qm2{a:Nat}{t:G}{c:V D}{d:Array Field}{x:DataW H×V MemPlace}(o:P.underlying t=O (.struct d))(h:DataW.trod enc P A base z m (a+1) t c=O x):c.length=P.cellsOf t/\∃b,d.toList.mapM (λf=>DataW.trod enc P A base z m a f.type ((c.drop f.offset).take (P.cellsOf f.type)))=O b/\x.1=.agg (b.map (·.1)):=by
 unfold DataW.trod at h;rw[o]at h;simp only at h;split at h;.rename_i n;let⟨b,e,i⟩:=vaF.1 h;exact⟨n,b,e,by rw[<-i]⟩
 .cases h
def qhw(a:Addr):a.add 0=a:=by unfold Addr.add;simp
def qmX{w:J}{a:Addr}{v:D}(h:w.cell? a=O v):a.spot=N:=by
 unfold World.cell? at h;split at h
 .split at h;.cases h
  .rename_i b;simpa using b
 .cases h
structure qqg(P:Program)(L:List TypeId):Prop where
 st:∀t∈L,∀fs,P.underlying t=some (.struct fs)->Q0 P 0 fs.toList (P.cellsOf t)=true/\∀f∈fs.toList,f.type∈L
 sl:∀t∈L,∀e,P.underlying t=some (.slice e)->0<P.cellsOf e/\e∈L
def qn7(P:I)(L:List G)(t:G):K:=match P.underlying t with|some (.struct fs)=>Q0 P 0 fs.toList (P.cellsOf t)&&fs.toList.all λf=>L.contains f.type|some (.slice e)=>Y (0<P.cellsOf e)&&L.contains e|_=>T
def qrf{L:V G}(h:L.all (qn7 P L)=T):qqg P L:=by
 refine⟨λt a c b=>?_,λt a e b=>?_⟩;.have:=oR.1 h t a;unfold qn7 at this;rw[b]at this;simp only[ne,oR,vce]at this;exact this
 .have:=oR.1 h t a;unfold qn7 at this;rw[b]at this;simpa using this
def qob{L:List G}(hF:qqg P L):∀(r:Nat)(t:G),t∈L->∀(X:List D)(d:DataW H)(p:List MemPlace),DataW.trod enc P A base z m r t X=O (d,p)->quG P A r t X (Rows.uptoBulk d)
 |0,t,_,X,d,p,h=>by simp[DataW.trod]at h
 | r + 1,t,htL,X,d,p,h => by
  have ih:=qob hF r
  have a3:(∀l,Sh P (r+1) t l)->quG P A (r+1) t X (Rows.uptoBulk d):=λhs=>by
   refine⟨X.map .val,by simp,λi q v hq hv=>?_,hs _,?_⟩;.simp only[t8,hv,oo,q8]at hq;subst hq;exact .val v
   .have:∀X:List D,dc (X.map .val)=0:=by
     intro X
     induction X with
     |nil=>rfl
     |cons c X ih=>simp only[ox,dc,ih,pm]
    rw[this];exact w0 _
  cases E:P.underlying t with
  |none=>exact a3 λl=>by unfold Sh;rw[E];trivial
  | some u =>
   cases u with
   |bool=>obtain⟨b,rfl,o⟩:=qr0 E h;simp only at o;subst o;exact .one (.bool b) (by unfold Sh;rw[E];exact⟨b,rfl⟩) (by simp[pm,Rows.uptoBulk])
   |int k=>obtain⟨n,rfl,hw,o⟩:=quk E h;simp only at o;subst o;exact .one (.int k n) (by unfold Sh;rw[E];exact⟨n,rfl,hw⟩) (by simp[pm,Rows.uptoBulk])
   |string=>obtain⟨s,rfl,hl,o⟩:=qm1 E h;simp only at o;subst o;exact .one (.str s.data.toList) (by unfold Sh;rw[E];exact⟨s.data.toList,rfl,by rw[Array.length_toList];exact hl⟩) (by simp[pm,Rows.uptoBulk])
   |struct fs=>let⟨hl,xs,b3,o⟩:=qm2 E h;simp only at o;subst o;let⟨_,l,k1,k2,k3,k4⟩:=qei ih (hF.st t htL fs E).2 (by omega) (hF.st t htL fs E).1 b3;refine⟨l,by omega,λi q v hq hv=>k2 i q v hq (by rw[ve];exact hv),by unfold Sh;rw[E];exact k3,by simp only[Rows.uptoBulk];omega⟩
   | slice e =>
    let⟨hz,an⟩:=hF.sl t htL e E;rcases qp1 E h with⟨rfl,o⟩|⟨a,len,cap,elems,rest,rfl,hlc,hcm,o,hm⟩;.simp only at o;subst o;exact .one .sliceNil (by unfold Sh;rw[E];exact⟨[],rfl,by simp,by simp⟩) (by simp[pm,bC,Rows.uptoBulk])
    simp only at o;subst o;have ar:elems.length=len:=by simpa using Lib.mapM_length hm
    have a8:∀i,i<len->∃x:List U,∃B y,elems[i]? =O y/\A.cells? base (a.add (i * P.cellsOf e)) (P.cellsOf e)=O B/\x.length=B.length/\(∀(k:Nat) q v,x[k]? =O q->B[k]? =O v->VR (P0 A) [] A q v)/\Sh P r e x/\dc x<=Rows.uptoBulk y.1:=λi hi=>by let⟨y,hy,hb⟩:=Lib.mapM_at hm i i (by simp[hi]);let⟨B,ad,hd⟩:=vbe.1 hb;let⟨x,k1,k2,k3,k4⟩:=ih e an B y.1 y.2 hd;exact⟨x,B,y,hy,ad,k1,k2,k3,k4⟩
    let⟨es,a4,hq⟩:=qkM a8;have a9:bC es<=Rows.uptoBulkAll (elems.map (·.1)):=qkk (by simp[a4,ar]) λi x d o hd=>by let⟨B,y,hy,_,_,_,_,b1⟩:=hq i x o;simp only[t8,hy,oo,q8]at hd;subst hd;exact b1
    have b2:Sh P (r+1) t [.slice es]:=by unfold Sh;rw[E];refine⟨es,rfl,by omega,λx o=>?_⟩;let⟨i,hi⟩:=vbc.1 o;let⟨_,_,_,_,_,_,hs,_⟩:=hq i x hi;exact hs
    refine .one ?_ b2 (by simp only[pm,Rows.uptoBulk];omega);by_cases h0:len=0;.subst h0;obtain rfl:es=[]:=vaw a4;exact .sliceE a cap
    .have F:∀i,i<len->∀k,k<P.cellsOf e->∃(x:List U)(B:List D),es[i]? =O x/\A.cell? ((a.add (i * P.cellsOf e)).add k)=B[k]?/\B.length=P.cellsOf e/\x.length=B.length/\(∀(k:Nat) q v,x[k]? =O q->B[k]? =O v->VR (P0 A) [] A q v):=λi hi k hk=>by
      have o:es[i]? =O es[i]:=m6 (by omega)
      let⟨B,y,hy,hc,hl,hv,_,_⟩:=hq i _ o
      let⟨_,a1,a5⟩:=World.cells?_some hc
      exact⟨_,B,o,a5 k hk,a1,hl,hv⟩
     have a2:a.spot=N:=by let⟨x,B,_,S,h3,_,_⟩:=F 0 (by omega) 0 hz;rw[Nat.zero_mul,qhw,qhw,m6 (by omega)]at S;exact qmX S
     let⟨ab,ao,b5⟩:=a
     simp only at a2;subst a2
     have a0:∀i k,((⟨ab,ao,N⟩:Addr).add (i * P.cellsOf e)).add k=⟨ab,ao+i * P.cellsOf e+k,N⟩:=λi k=>by rw[qhv ⟨ab,ao,N⟩ _ rfl,qhv _ _ rfl]
     have a1:∀(i:Nat) x (k:Nat) q,es[i]? =O x->x[k]? =O q->∃v,A.cell? ⟨ab,ao+i * P.cellsOf e+k,N⟩=O v/\VR (P0 A) [] A q v:=λi x k q o R=>by
      have hi:i<len:=by have:=ax o;omega
      let⟨B,y,hy,hc,hl,hv,_,_⟩:=hq i x o;let⟨_,a1,a5⟩:=World.cells?_some hc;have hk:k<P.cellsOf e:=by have:=ax R;omega
      have a6:B[k]? =O B[k]:=m6 (by omega);refine⟨B[k],?_,hv k q _ R a6⟩;rw[<-a0,a5 k hk,a6]
     have a7:∀(i:Nat) x,es[i]? =O x->x.length=P.cellsOf e:=λi x o=>by let⟨B,y,hy,hc,hl,_,_,_⟩:=hq i x o;exact hl.trans (World.cells?_some hc).2.1
     obtain⟨c,ty,fr,hh⟩:∃c ty fr,A.heap[ab]? =O (.cells c ty fr):=by
      let⟨x,B,h1,S,h3,h4,_⟩:=F 0 (by omega) 0 hz;rw[a0,m6 (by omega)]at S;unfold World.cell? at S;split at S;.rename_i c ty fr hh;exact⟨c,ty,fr,hh⟩
      .cases S
     have b0:ao+es.length * P.cellsOf e<=c.size:=by
      let⟨x,B,h1,S,h3,h4,_⟩:=F (len - 1) (by omega) (P.cellsOf e - 1) (by omega);rw[a0,m6 (by omega),cell_of_row A _ _ c ty fr hh]at S;have:=(vao.1 S).1;have e1:(len - 1) * P.cellsOf e+P.cellsOf e=len * P.cellsOf e:=by
       have:len=(len - 1)+1:=by omega
       conv=>rhs;rw[this,vbr,vb8]
      rw[a4];omega
     have:=VR.slice (Γ:=P0 A) (bs:=[]) (w:=A) es ab ao cap c.size (P.cellsOf e) (λi k=>(A.cell? ⟨ab,ao+i * P.cellsOf e+k,N⟩).getD undef) hz (by omega) (qd1 hh) b0 a7
      (λi x k q o R=>by let⟨v,h1,_⟩:=a1 i x k q o R;rw[h1];rfl)
      (λi x k q o R=>by let⟨v,h1,S⟩:=a1 i x k q o R;rw[h1];exact S)
     rw[a4]at this
     exact this
   |_=>exact a3 λl=>by unfold Sh;rw[E];trivial
end
open Go
set_option linter.unusedVariables false
abbrev In(P:I)(t:G){α:Type}(c:α->V U):Prop:=∀n l,Sh P n t l->∃x,l=c x
section
variable{P:I}{t e:G}{α:Type}{c:α->V U}
def ql8{k:IntKind}(a:P.underlying t=O (.int k)):In P t (cI k):=λn l h=>by cases n with|zero=>exact h.elim|succ n=>unfold Sh at h;rw[a]at h;obtain⟨i,rfl,_⟩:=h;exact⟨i,rfl⟩
def qzM(a:P.underlying t=O .bool):In P t cB:=λn l h=>by cases n with|zero=>exact h.elim|succ n=>unfold Sh at h;rw[a]at h;obtain⟨i,rfl⟩:=h;exact⟨i,rfl⟩
def vA(a:P.underlying t=O .string):In P t cS:=λn l h=>by cases n with|zero=>exact h.elim|succ n=>unfold Sh at h;rw[a]at h;obtain⟨i,rfl,_⟩:=h;exact⟨i,rfl⟩
def qig:∀{a:List (List U)},(∀x∈a,∃y,x=c y)->∃b:List α,a=b.map c
 |[],_=>⟨[],rfl⟩
 |x::a,h=>by obtain⟨y,rfl⟩:=h x (by simp);obtain⟨b,rfl⟩:=qig λz d=>h z (vaP _ d);exact⟨y::b,rfl⟩
def qh2(b:P.underlying t=O (.slice e)){n:Nat}(a:∀m,m<n->∀l,Sh P m e l->∃x,l=c x)(l:List U)(h:Sh P n t l):∃xs,l=cL c xs:=by cases n with|zero=>exact h.elim|succ n=>unfold Sh at h;rw[b]at h;obtain⟨o,rfl,_,h⟩:=h;obtain⟨i,rfl⟩:=qig λx d=>a n (vcI n) x (h x d);exact⟨i,rfl⟩
def xm(b:P.underlying t=O (.slice e))(a:In P e c):In P t (cL c):=λn l h=>qh2 b (λm _=>a m) l h
def qiK:∀(a:List (List U)),(∀x∈a,1<=dc x)->a.length<=bC a
 |[],_=>by simp[bC]
 |x::a,h=>by have d:=h x (by simp);have i:=qiK a λy b=>h y (vaP _ b);simp only[bC,vz];omega
def Ka:∀{a:List (List U)}{x:List U},x∈a->dc x<=bC a
 | y :: a,x,h => by
  simp only[bC];rcases oL.1 h with rfl|h;.omega
  .have:=Ka h;omega
end
open Go Go.RowKit Go.WideShapes Go.ChangeShapes Go.ChangeAt
section
variable{H:Type}{enc:G×D->H}{P:I}{m:J}{base b:Nat}{c:Nat->K}{a:K}{t e:G}{v:D}{d:DataW H}{p:V MemPlace}{L:V G}
def qej(z:qqg P L)(A:t∈L){s:Array Field}(E:P.underlying t=O (.struct s))(h:DataW.Trod enc P m base c a t v d p)(r:Value.okWide P m .any b t v):∃n l,VR (P0 m) [] m (.agg l) v/\Sh P n t l/\dc l<=Rows.uptoBulk d:=by
 let⟨n,h⟩:=h;unfold Value.okWide at r;rw[E]at r;obtain⟨cs,rfl,_,_⟩:=r;let⟨l,F,w,x,y⟩:=qob z n t A _ d p h;refine⟨n,l,.agg l cs ?_ λi q u B o=>w i q u B ?_,x,y⟩
 .have:(Value.agg cs).cells.toList.length=cs.size:=by simp[Value.cells]
  omega
 .show cs.toList[i]? =O u;rw[vbb];exact o
end
def qtB(n:Nat):aJ->Prop|.dead=>True|.cells cs _=>kT n cs|.map es=>∀x∈es,x.1.cl n/\x.2.cl n
def qfT(n:Nat):List aJ->Prop|[]=>True|B::l=>qtB n B/\qfT n l
def qhS{k:Nat}:∀{b a:List U},qeg b a=a->kT k a->Gr k b a
 |[],[],_,_=>trivial
 |[],_::_,h,_=>by simp[qeg]at h
 |p::b,[],h,_=>by simp[qeg]at h
 |p::b,q::a,h,hc=>by let⟨c,d⟩:=hc;cases q<;>simp only[qeg,vbI]at h<;>refine⟨?_,qhS h.2 d⟩<;>first|exact .inl rfl|exact .inr ⟨h.1,c⟩
def ql2{k:Nat}{p q:aJ}(h:GI p q=q)(a:qtB k q):Am k p q:=by
 cases q with
 |dead=>cases p<;>simp[Am]
 | cells cs own =>
  cases p with
  | cells cs0 own0 =>
   simp only[GI,aJ.cells.injEq]at h;obtain⟨rfl,h⟩:=h;refine⟨rfl,a,λx b=>?_⟩;split at h;.rename_i d;simpa using oR.1 d x b
   .rw[h];exact b
  |map es=>simp[GI]at h
  |dead=>simp[GI]at h
 |map es=>
  have c:p=.map es:=by cases p<;>simp[GI]at h ⊢<;>exact h
  subst c;exact⟨rfl,a⟩
def U8{k:Nat}:∀{d a:List aJ},qha (d.take a.length) a=a->qfT k a->eO k d a
 |_,[],_,_=>by unfold eO;trivial
 |[],_::_,h,_=>by simp[qha]at h
 |p::d,q::a,h,hc=>by let⟨b,c⟩:=hc;rw[vz,List.take_succ_cons]at h;simp only[qha,vbI]at h;exact⟨ql2 h.1 b,U8 h.2 c⟩
def qxg(m:Nat)(b a:aF):Prop:=qeg b.tmps a.tmps=a.tmps/\qha (b.boxes.take a.boxes.length) a.boxes=a.boxes/\(a.own.all λx=>Y (x∈b.own))=T/\Y (m % 1000<=a.boxes.length)=T/\ kT a.boxes.length a.tmps/\qfT a.boxes.length a.boxes
def qxg.weak{P:I}{m:Nat}{a st0:aF}(h:qxg m a st0):IP P m a st0:=by let⟨b,c,d,e,i,n⟩:=h;exact .of_less ⟨qhS b i,U8 c n,λx o=>by simpa using oR.1 d x o⟩ (by simpa using e)
def qAf(m:Nat)(b:Exit)(a:aF):Exit->V It->aF->Prop:=λe _ c=>b=e/\qxg m c a
mutual
def qkm{n m:Nat}(a:n<=m):∀(p:U),p.cl n->p.cl m
 |.undef,_=>by simp[PVal.cl]
 |.int _ _,_=>by simp[PVal.cl]
 |.bool _,_=>by simp[PVal.cl]
 |.str _,_=>by simp[PVal.cl]
 |.val _,_=>by simp[PVal.cl]
 |.agg cs,h=>by simp only[PVal.cl]at h ⊢;exact Bo a cs h
 |.tuple cs,h=>by simp only[PVal.cl]at h ⊢;exact Bo a cs h
 |.slice es,h=>by simp only[PVal.cl]at h ⊢;exact qd8 a es h
 |.eptr cs,h=>by simp only[PVal.cl]at h ⊢;exact Bo a cs h
 |.bptr i _,h=>by simp only[PVal.cl]at h ⊢;omega
 |.bsl i _ _,h=>by simp only[PVal.cl]at h ⊢;omega
 |.mapr i,h=>by simp only[PVal.cl]at h ⊢;omega
 |.nptr i _,h=>by simp only[PVal.cl]at h ⊢;omega
 |.func _ f c,h=>by simp only[PVal.cl]at h ⊢;exact⟨Bo a f h.1,Bo a c h.2⟩
def Bo{n m:Nat}(a:n<=m):∀(l:List U),kT n l->kT m l
 |[],_=>by simp[kT]
 |p::l,h=>by simp only[kT]at h ⊢;exact⟨qkm a p h.1,Bo a l h.2⟩
def qd8{n m:Nat}(a:n<=m):∀(l:List (List U)),GG n l->GG m l
 |[],_=>by simp[GG]
 |p::l,h=>by simp only[GG]at h ⊢;exact⟨Bo a p h.1,qd8 a l h.2⟩
end
def qtC{n:Nat}{l:V U}(h:kT 0 l):kT n l:=Bo (w0 n) l h
def up{n:Nat}{p:U}(h:p.cl 0):p.cl n:=qkm (w0 n) p h
def qvp:TypeDesc->K|.struct _=>T|.array _ _=>T|_=>Z
def fb{P:I}{t:G}{l r:V U}(h:(P.underlying t).any qvp=T)(a:P.cellsOf t=l.length):co P t (l++r)=O (.agg l):=by
 unfold co;split;.rw[hU (by rw[a];simp),a,vct]
 .rw[hU (by rw[a];simp),a,vct]
 .rename_i d c e b;rw[b]at h;cases d<;>simp_all[qvp]
 .rename_i b;rw[b]at h;cases h
def SF{k:Nat}{B:aJ}:∀{b a:List aJ}{i:Nat},a.length<=i->eO k b a->eO k (b.set i B) a
 |_,[],_,_,_=>by unfold eO;trivial
 |[],_::_,_,_,h=>by simpa using h
 |p::b,q::a,0,hi,_=>by simp at hi
 |p::b,q::a,i+1,hi,h=>by simp only[List.set_cons_succ];exact⟨h.1,SF (by simpa using hi) h.2⟩
def qcz(P:I)(m:V ResultVar)(r:U)(e:V (Nat×G))(b:V aJ)(c:aF):Prop:=∃(t:Tmp)(ty:G)(i a:Nat)(d:V U)(own:V (Nat×G))(l:V U),m=[.cell t ty]/\(∃h,P.underlying ty=O (.struct h))/\c.tmps.getD t .undef=.bptr i a/\c.boxes[i]? =O (.cells d own)/\ r=.agg l/\co P ty (d.drop a)=O (.agg l)/\r.cl b.length/\b.length<=i/\eO b.length c.boxes b/\(∀x∈e,(a+x.1,x.2)∈own/\x.1<l.length)/\(e.map (·.1)).Nodup
def qpx(P:I)(c:V ResultVar)(r:U)(b:V (Nat×G))(a:V aJ)(e:Exit)(d:aF):Prop:=qwK P c r b a e d\/((e=.normal\/e=.ret)/\qcz P c r b a d)
section
variable{P:I}{E:BP}{Γ:ca}{bs:cF}{c:Nat->Q rI}{w:J}{a:Array D}{st:aF}
def SR.finishCellG(h:SR P E Γ bs c w a st){fn:Func}{r:U}{ro:List (Nat×G)}{H':List aJ}(hr:qcz P fn.results.toList r ro H' st):∃v p,(results fn a).run P w=.ok v w/\SR P E Γ (bs.take H'.length) p w #[v] ⟨[r],H',ro.map λx=>((0,x.1),x.2)⟩:=by
 obtain⟨t,ty,i,off,cs,own,l,z,⟨fs,R⟩,ht,B,rfl,hp,L,hi,H,n,S⟩:=hr;have X:VU P st fn.results.toList=O (.agg l):=by rw[z];show qU P ty (st.tmps.getD t .undef) st.boxes=_;rw[ht];simp only[qU,B,hp]
 let⟨v,e1,e2,_⟩:=Gd h X;have o:=h.getD t;rw[ht]at o;generalize a1:a.getD t undef=vt at o;cases o with|bptr _ _ b hb=>
 let⟨F,q1,q2,q3⟩:=Tz h hb B hp;have a2:F=v:=by
  have s:fn.results=#[.cell t ty]:=by
   have:fn.results=fn.results.toList.toArray:=by simp
   rw[this,z]
  have m:(results fn a).run P w=.ok F w:=by
   simp[results,s,asAddr];have A:a[t]?.getD undef=.pointer (O ⟨b,off,N⟩):=by rw[<-vaE];exact a1
   rw[A];simp[q1]
  rw[e1]at m;cases m;rfl
 subst a2;have g1:=h.pushed e2;let⟨p,g2⟩:=SR.takeOwns (off:=off) (d:=a.size) (u:=F) hb (by simp) ro g1 B (λx q=>(n x q).1) S λx q=>by have:=q3 ⟨_,R,md⟩ x.1 (n x q).2;let⟨v',z1,_⟩:=h.ob i (off+x.1) x.2 cs own b B (n x q).1 hb;exact⟨v',this.trans z1,z1⟩
 refine⟨F,SJ (λk=>(a.size,k)) ro p,e1,?_⟩;exact g2.finish (H':=H') (src:=λk=>(a.size,k)) (ro:=ro) e2 L (SF hi H) (λx q=>⟨vaU _ (vch.2 (m8.2 ⟨x,q,rfl⟩)),λu v' hu a0=>by simp at hu;subst hu;exact a0⟩) (λx _ y _ e=>by simpa using e)
end
def C.ofSatG{P:I}{GE:List (Nat×List U)}{m:Nat}{f:FuncId}{fn:Func}{c:W}{args:List U}{oa:List ((Nat×Nat)×G)}{H:List aJ}{r:U}{ro:List (Nat×G)}{H':List aJ}(hm:m % 1000=H.length)(a5:m≠0)
  (F:∀E w,(callFunc f E).run P w=.ok (.enter f E) w) (a4:P.funcs[f]? =O fn) (hb:fn.body=O c) (hH:H'.length=H.length)
  (z:fx P GE m c (qpx P fn.results.toList r ro H') ⟨args++List.replicate (fn.ntmps - args.length) .undef,H,oa⟩):C P GE f args oa H r ro H':=by
 refine⟨F,λΓ bs L w E h=>calls_of_wp a4 hb ?_⟩
 have a3:bs.length=H.length:=h.bl
 have h0:SR P ⟨GE,Γ,w,cG bs L⟩ Γ bs L w (E++Array.replicate (fn.ntmps - E.size) undef) ⟨args++List.replicate (fn.ntmps - args.length) .undef,H,oa⟩:=by
  have a6:E.size=args.length:=h.sz;exact{h with
   sz:=by simp[a6]
   tm:=λt p v z hv=>by
    simp only at z;by_cases ht:t<args.length;.rw[B2 ht]at z;rw[va4 (by omega)]at hv;exact h.tm t p v z hv
    .rw[vav (by omega),va7]at z;split at z<;>cases z;exact .undef v
   ot:=λt k e he=>by let⟨u,v,h1,h2⟩:=h.ot t k e he;exact⟨u,v,by rw[va4 (vao.1 h1).1];exact h1,h2⟩}
 have hE:qag GE m ⟨GE,Γ,w,cG bs L⟩:={
  ge:=rfl
  low:=λb n hb=>h.lt_of_ghost hb
  nt:=λh0=>absurd h0 a5
  gl:=λg cs hg=>(h.gl g cs hg).restrict (n:=0) (by simp only[PVal.cl];exact h.gc g cs hg) (λi b hi _=>absurd hi (va3 _))}
 have a7:=z N ⟨GE,Γ,w,cG bs L⟩ bs ⟨E++Array.replicate (fn.ntmps - E.size) undef,[]⟩ w hE (by rw[a3,hm]) ⟨Γ,bs,L,h0,λi _=>rfl⟩
 refine wp_mono a7 λe a X hq=>?_
 let⟨hd,st,⟨a2,bs1,a8,hS,hk⟩,d⟩:=hq
 have o:H'.length<=bs1.length->bs1.take H'.length=bs:=by
  intro a9;refine vbj λi=>?_;by_cases hi:i<H'.length;.rw[vaG hi];exact hk i (by omega)
  .rw[vco (by omega),va0 (by omega)]
 have s:∀{B:List aJ},eO H'.length B H'->B.length=bs1.length->H'.length<=bs1.length:=λhB he=>by let⟨hl,_⟩:=ui hB;omega
 have a1:(VU P st fn.results.toList=O r/\r.cl H'.length/\eO H'.length st.boxes H'/\(∀x∈ro,(fS fn.results.toList x.1,x.2)∈st.own/\AD st fn.results.toList x.1)/\
   (∀x∈ro,∀y∈ro,fS fn.results.toList x.1=fS fn.results.toList y.1->x.1=y.1))->
   a.defers=[]/\∃v,(results fn a.tmps).run P X=.ok v X/\∃R S q,Ending.returned v=.returned R/\SR P ⟨GE,Γ,w,cG bs L⟩ S bs q X #[R] ⟨[r],H',ro.map λx=>((0,x.1),x.2)⟩:=by
  rintro⟨k1,k2,k3,k4,k5⟩
  let⟨v,e1,e2,e3⟩:=Gd hS k1
  refine⟨hd,v,e1,v,a2,SJ (fS fn.results.toList) ro a8,rfl,?_⟩
  have hf:=hS.finish (H':=H') (src:=fS fn.results.toList) (ro:=ro) e2 k2 k3 (λx hx=>⟨(k4 x hx).1,λu R=>e3 x.1 u R (k4 x hx).2⟩) k5
  rw[o (s k3 hS.bl.symm)]at hf
  exact hf
 have A:qcz P fn.results.toList r ro H' st->
   a.defers=[]/\∃v,(results fn a.tmps).run P X=.ok v X/\∃R S q,Ending.returned v=.returned R/\SR P ⟨GE,Γ,w,cG bs L⟩ S bs q X #[R] ⟨[r],H',ro.map λx=>((0,x.1),x.2)⟩:=by
  intro hc
  let⟨v,q,e1,e2⟩:=hS.finishCellG hc
  let⟨_,_,_,_,_,_,_,_,_,_,_,_,_,_,_,a0,_,_⟩:=hc
  rw[o (s a0 hS.bl.symm)]at e2
  exact⟨hd,v,e1,v,a2,q,rfl,e2⟩
 rcases d with d|⟨he,d⟩
 .cases e with
  |normal=>exact a1 d
  |ret=>exact a1 d
  |exit id=>exact d.elim
  |goto l=>exact d.elim
  |panic c=>exact d.elim
  |outgrown=>exact d.elim
 .rcases he with rfl|rfl
  .exact A d
  .exact A d
def qiQ(P:I)(c:List ResultVar)(a:List (Nat×G))(n:Nat)(b:aF):K:=match c with
 | [.cell t ty] => match P.underlying ty with
  | some (.struct _) => match b.tmps.getD t .undef with
   |.bptr i off=>Y (n<=i)&&match b.boxes[i]? with|some (.cells _ own)=>a.all (λx=>Y ((off+x.1,x.2)∈own)&&Y (x.1<P.cellsOf ty))&&xt (a.map (·.1))|_=>Z
   |_=>Z
  |_=>Z
 |_=>Z
def qnh(P:I)(c:List ResultVar)(r:U)(d:List (Nat×G))(a:List aJ)(b:aF):Prop:=match Rn c d b with
 |true=>match VU P b c with|some p=>p=r/\r.cl a.length/\qha (b.boxes.take a.length) a=a/\qfT a.length a|none=>False
 | false => match qiQ P c d a.length b with
  |true=>match VU P b c with|some p=>p=r/\r.cl a.length/\qha (b.boxes.take a.length) a=a/\qfT a.length a/\r.isAgg=T|none=>False
  |false=>False
def qur(P:I)(c:List ResultVar)(r:U)(b:List (Nat×G))(a:List aJ):Exit->List It->aF->Prop:=λe _ d=>match e with|.normal=>qnh P c r b a d|.ret=>qnh P c r b a d|_=>False
def qgS{rs:List ResultVar}{ro:List (Nat×G)}{st:aF}(c:Rn rs ro st=T):(∀x∈ro,(fS rs x.1,x.2)∈st.own/\AD st rs x.1)/\(∀x∈ro,∀y∈ro,fS rs x.1=fS rs y.1->x.1=y.1):=by
 have:=qcB (r:=.undef) (P:=default) (rs:=rs) (ro:=ro) (st:=⟨st.tmps,st.boxes,st.own⟩) c;by_cases n:VU default st rs=O .undef;.exact(this n md).2.2.2
 .clear this;unfold Rn at c;rw[ne]at c;let⟨i,m⟩:=c;refine⟨λx d=>?_,λx d y p e=>?_⟩
  .have:=oR.1 i x d;rw[ne]at this;refine⟨by simpa using this.1,?_⟩;have b:=this.2;clear this i m n;rcases rs with _|⟨y,_|⟨z,rs⟩⟩;.simp at b
   .cases y with|tmp t=>trivial|cell t ty=>cases b
   .have a:∀o:Q ResultVar,(match o with
     |some (.tmp t)=>(st.tmps.getD t .undef).isSlice
     |_=>Z)=T->(match o with
     |some (.tmp t)=>(st.tmps.getD t .undef).isSlice=T
     |_=>False):=by
     intro o
     cases o with
     |none=>intro h;cases h
     |some q=>cases q<;>intro h<;>first|exact h|cases h
    cases y with
    |tmp t=>exact a _ b
    |cell t ty=>exact a _ b
  .have:=oR.1 (oR.1 m x d) y p;simpa[e]using this
def qnh.to{P:I}{B:V ResultVar}{r:U}{R:V (Nat×G)}{o:V aJ}{st:aF}{e:Exit}(H:e=.normal\/e=.ret)(h:qnh P B r R o st):qpx P B r R o e st:=by
 unfold qnh at h;split at h
 .rename_i a;split at h
  .rename_i p A;obtain⟨rfl,d,m,c⟩:=h;let⟨s1,s2⟩:=qgS a;have:VU P st B=O p/\p.cl o.length/\eO o.length st.boxes o/\_/\_:=⟨A,d,U8 m c,s1,s2⟩
   rcases H with rfl|rfl<;>exact .inl this
  .exact h.elim
 .split at h
  .rename_i a;split at h
   .rename_i p A;obtain⟨rfl,d,m,c,b⟩:=h;refine .inr ⟨H,?_⟩;unfold qiQ at a;split at a
    .rename_i t ty _;split at a
     .rename_i fs q;split at a
      .rename_i i z L;rw[ne,nm]at a;let⟨hi,a⟩:=a;split at a
       .rename_i E own F;rw[ne]at a;let⟨S,X⟩:=a;have y:co P ty (E.drop z)=O p:=by have w:qU P ty (st.tmps.getD t .undef) st.boxes=O p:=A;rw[L]at w;simpa only[qU,F]using w
        cases p<;>simp only[PVal.isAgg]at b<;>first|(cases b;done)|skip
        rename_i l;have s:l.length=P.cellsOf ty:=by
         have n:=y;unfold co at n;rw[q]at n;simp only at n;split at n;.rename_i hh;cases n;rw[vbg];omega
         .cases n
        refine⟨t,ty,i,z,E,own,l,rfl,⟨fs,q⟩,L,F,rfl,y,d,hi,U8 m c,λx hx=>?_,pe X⟩;have:=oR.1 S x hx;simp only[ne,nm]at this;exact⟨this.1,by rw[s];exact this.2⟩
       .cases a
      .cases a
     .cases a
    .cases a
   .exact h.elim
  .exact h.elim
def qur.to{P:I}{c:V ResultVar}{r:U}{b:V (Nat×G)}{a:V aJ}{e:Exit}{sc:V It}{st:aF}(h:qur P c r b a e sc st):qpx P c r b a e st:=by
 unfold qur at h;split at h;.exact h.to (.inl rfl)
 .exact h.to (.inr rfl)
 .exact h.elim
section
variable{X a:Type}
def qc0(F:(X->Q a)->X->Q a):Nat->X->Q a|0,_=>N|n+1,x=>F (qc0 F n) x
end
def xR(ρ:V Nat)(p:U)(h:p.cl 0):KX ρ p p:=.refl p h
def xB(ρ:V Nat)(i j a:Nat)(h:ρ[i]? =O j):KX ρ (.bptr j a) (.bptr i a):=.bptr i j a h
def xN(ρ:V Nat)(i j:Nat)(a:G)(h:ρ[i]? =O j):KX ρ (.nptr j a) (.nptr i a):=.nptr i j a h
def xF(ρ:V Nat)(fn:Fn)(f c b a:V U)(h:RH ρ f b)(d:RH ρ c a):KX ρ (.func fn f c) (.func fn b a):=.func fn f c b a h.len d.len h.get d.get
def xA(ρ:V Nat)(f a:V U)(h:RH ρ f a):KX ρ (.agg f) (.agg a):=.agg f a h.len h.get
def eQ{a b:U}{l l':V U}(h:a=b)(c:l=l'):a::l=b::l':=by rw[h,c]
def PS(_:V It)(F:Prop):Prop:=F
section
variable{sc:V It}{F X a:Prop}
def en(h:F):PS [] F:=h
def sv{o:Q U}{p:U}(h:o=O p)(r:PS sc F):PS (.v p::sc) (o=O p/\F):=⟨h,r⟩
def qCS{o:V aJ->Q U}{p:U}(h:∀H,o H=O p)(r:PS sc F):PS (.v p::sc) ((∀H,o H=O p)/\F):=⟨h,r⟩
def sx{o:Q (V U)}{l:V U}(h:o=O l)(r:PS sc F):PS (.x l::sc) (o=O l/\F):=⟨h,r⟩
def se{o:Q (V U)}{l:V U}(h:o=O l)(r:PS sc F):PS (.e l::sc) (o=O l/\F):=⟨h,r⟩
def sg(n:Nat){x b:K}(h:x=b)(r:PS sc F):PS (.g n b::sc) (x=b/\F):=⟨h,r⟩
def ss(r:PS sc F):PS (.s::sc) F:=r
def qub{P:I}{GE:V (Nat×V U)}{g:FuncId}{d:V U}{p:U}{b:V (Nat×G)}(h:CC P GE g d p b)(r:PS sc F):PS (.c p b::sc) (CC P GE g d p b/\F):=⟨h,r⟩
def sz{o:Q U}{l:V U}(h:o=O (.agg l))(r:PS sc F):PS (.z l::sc) (o=O (.agg l)/\F):=⟨h,r⟩
def sf(h:X)(r:PS sc F):PS sc (X/\F):=⟨h,r⟩
def qBa(i:Nat)(c:V (V U))(e m:V Nat)(h:X)(d:a){n:Prop}(b:n)(r:PS sc F):PS (.fz i c e m::sc) (X/\a/\n/\F):=⟨h,d,b,r⟩
end
section
variable{P:I}{GE:V (Nat×V U)}{A:V Nat}{m:Nat}
def n8(e:P.follows .mixedOrders=T){c:W}{b:Exit}{a st:aF}{sc:V It}{F:Prop}(h:PS sc F)(d:F=X8 P GE A m c sc st (FN b a)):fx P GE m c (EX b a) st:=piece e sc (Eq.mp d h)
def C.evp(p:P.follows .mixedOrders=T){f:FuncId}{fn:Func}{c:W}{a:V U}{r:U}{ro:V (Nat×G)} (b:∀i w,(callFunc f i).run P w=.ok (.enter f i) w) (e:P.funcs[f]? =O fn) (n:fn.body=O c) (d:kT 0 a) {sc:V It} {F:Prop} (h:PS sc F) (o:F=X8 P GE A 0 c sc ⟨a++List.replicate (fn.ntmps - a.length) .undef,[],[]⟩ (FR P fn.results.toList r ro)):CC P GE f a r ro:=C.ev p b e n d sc (Eq.mp o h)
end
def tm(n:Nat):Nat->List (Nat×U)->List U|k,[]=>List.replicate (n - k) .undef|k,x::l=>List.replicate (x.1 - k) .undef++x.2::tm n (x.1+1) l
abbrev aM(n:Nat)(l:V (Nat×U))(H:V aJ)(o:V ((Nat×Nat)×G)):aF:=⟨tm n 0 l,H,o⟩
def qqW(n:Nat):List (Nat×U)->Prop|[]=>True|x::l=>x.2.cl n/\qqW n l
def qfU{n:Nat}{l:List U}(h:kT n l):∀k,kT n (List.replicate k .undef++l)
 |0=>h
 |k+1=>by rw[List.replicate_succ,vaN];exact⟨md,qfU h k⟩
def qnI{n N:Nat}:∀{l:List (Nat×U)}{k:Nat},qqW n l->kT n (tm N k l)
 |[],k,_=>by unfold tm;have:=qfU (n:=n) (l:=[]) trivial (N - k);rwa[vh]at this
 |x::l,k,h=>by unfold tm;exact qfU (l:=x.2::tm N (x.1+1) l) (by simp only[kT];exact⟨h.1,qnI h.2⟩) _
def bits:Nat->Nat->List K->List K|0,_,l=>l|k+1,n,l=>if n<=1 then l else bits k (n / 2) ((n % 2==1)::l)
def cA(c:W)(n:Nat):W:=jG c (bits 100 n [])
section
variable{X Y:Type}
def rT(F:(X->Q Y)->X->Q Y)(x:X):Q Y:=qc0 F qjf x
def qtx:18446744073709551616<qjf:=by unfold qjf;omega
def d7{F:(X->Q Y)->X->Q Y}{M:X->Y->Prop}(b:∀rec:X->Q Y,(∀x r,rec x=O r->M x r)->∀x r,F rec x=O r->M x r){x:X}{r:Y}(h:rT F x=O r):M x r:=by
 have a:∀n x r,qc0 F n x=O r->M x r:=by
  intro n;induction n with
  |zero=>intro x r h;cases h
  |succ n ih=>intro x r h;exact b _ ih x r h
 exact a _ x r h
def uX{F:(X->Q Y)->X->Q Y}(μ:X->Nat)(m:X->Prop)(s:X->Y)(h:∀(R:X->Q Y) x,m x->(∀y,μ y<μ x->m y->R y=O (s y))->F R x=O (s x))(x:X)(b:m x)(d:μ x<qjf):rT F x=O (s x):=by
 have c:∀n x,μ x<n->m x->qc0 F n x=O (s x):=by intro n;induction n with|zero=>intro x b;omega|succ n ih=>intro x b e;exact h _ x e λy i a=>ih y (by omega) a
 exact c _ x d b
end
section
variable{P:I}{GE:V (Nat×V U)}{T e:G}{α:Type}{c:α->V U}
def qAZ{m b:Nat}(a:Y (m % 1000<=b)=true)(l:V U)(d:Y (l.length≠0)=true):(m % 1000<=b)/\∃sz,0<sz/\∀x∈[l],x.length=sz:=⟨vaL a,l.length,by have:=vaL d;omega,λx h=>by rw[vbS.1 h]⟩
def qA0(b:Nat){l:V U}(h:kT 0 l):qb0 b [l]:=TC b _ ⟨h,md⟩
def qxe(l:V U):l=l:=rfl
def qA1{l r:V U}(h:r=l):l=[r].flatten:=by rw[h];simp
def qCH(b:Nat){p:U}(h:p.cl 0):p.no b:=qip b p h
end
def qBj(ρ:List Nat):∀(l:List U),kT 0 l->RH ρ l l
 |[],_=>trivial
 |p::l,h=>by simp only[kT]at h;exact⟨.refl p h.1,qBj ρ l h.2⟩
def eF(e:Exit)(s:aF):PS [] (e=e/\s.tmps=s.tmps/\s.boxes=s.boxes/\T=T):=⟨rfl,fr s⟩
def qCT{o:Q (V U)}{l:V U}{sc:V It}{F:Prop}(h:o=O l)(a:Zo l=T)(r:PS sc F):PS (.x l::sc) (o=O l/\Zo l=T/\F):=⟨h,a,r⟩
def qns(l:V Int)(s:ae):Q (V Int):=if l.length+s.length<=1073741824 then O (l++s.map λc=>(c.toNat:Int))else N
def qqC{P:I}{p a e:G}{l z:V Int}{s:ae}(b:SE P p e (cI .u8))(m:P.underlying a=O .string)(c:P.bytesOf e=1)(d:P.cellsOf e=1)(o:qrn ((P.info? e).bind (·.zero))=T)(h:qns l s=O z):J8 P p a (l.map (cI .u8)) s=O (sl (cI .u8) z):=by
 unfold qns at h;split at h;.rename_i i;cases h;unfold J8;rw[b.hu,m];simp only;rw[hU ⟨by simpa[P1]using i,c,d,o,λx n=>by obtain⟨y,_,rfl⟩:=m8.1 n;rfl⟩];simp only[sl,va1,Tg,vb2];rfl
 .cases h
def qvq{P:I}{β:Type}{t e:G}{n:Nat}{v:β->U}{l:V β}(h:P.underlying t=O (.array n e))(b:P.cellsOf e=1)(d:(P.info? e).isSome=T)(m:Y (l.length=n)=T)
  {k:IntKind} {i:Int} {x:β} (a:bY l i=O x):n9 P t (.eptr (l.map v)) (.int k i)=O (.eptr ((l.map v).drop i.toNat)):=by
 let⟨c,a⟩:=Qd a
 have o:i.toNat<l.length:=(vbF.1 a).1
 have p:l.length=n:=by simpa using m
 unfold n9
 simp only[h]
 rw[hU ⟨c,by omega,d,by rw[b,vb0,vbJ];omega⟩,b,vb0]
def qvs{P:I}{β:Type}{e:G}{v:β->U}{l:V β}(c:(P.underlying e).any QG=T){i:Int}{x:β}(b:bY l i=O x):co P e ((l.map v).drop i.toNat)=O (v x):=by let⟨d,b⟩:=Qd b;have a:i.toNat<l.length:=(vbF.1 b).1;rw[vaD (by simpa using a),dz c];simp only[vbO];rw[m6 a]at b;cases b;rfl
inductive Tr(R:Type):Type 1 where
 |lf (r:R)
 |it (i:It) (t:Tr R)
 |bd {α:Type} (o:Option α) (k:α->Tr R)
 |br (b:Bool) (s t:Tr R)
 |bs {α β:Type} (o:Option (α⊕β)) (s:α->Tr R) (t:β->Tr R)
 |b3 {α β γ:Type} (o:Option (α⊕(β⊕γ))) (s:α->Tr R) (t:β->Tr R) (u:γ->Tr R)
section
variable{R:Type}
def Tr.val:Tr R->Q R
 |.lf r=>O r
 |.it _ t=>t.val
 |.bd o k=>o.bind λa=>(k a).val
 |.br b s t=>if b then s.val else t.val
 |.bs o s t=>o.bind λx=>match x with|.inl a=>(s a).val|.inr a=>(t a).val
 |.b3 o s t u=>o.bind λx=>match x with|.inl a=>(s a).val|.inr (.inl a)=>(t a).val|.inr (.inr a)=>(u a).val
def Tr.go:Tr R->(Tr R->Prop)->Prop|.lf r,c=>c (.lf r)|.it i t,c=>c (.it i t)|.bd o k,c=>∀a,o=O a->(k a).go c|.br b s t,c=>(b=T->s.go c)/\(b=Z->t.go c)|.bs o s t,c=>(∀a,o=O (.inl a)->(s a).go c)/\∀a,o=O (.inr a)->(t a).go c|.b3 o s t u,c=>(∀a,o=O (.inl a)->(s a).go c)/\(∀a,o=O (.inr (.inl a))->(t a).go c)/\∀a,o=O (.inr (.inr a))->(u a).go c
def Tr.go_ok{r:R}:∀{t:Tr R}{m:Tr R->Prop},t.val=O r->t.go m->∃i,i.val=O r/\m i
 |.lf _,_,c,h=>⟨_,c,h⟩
 |.it _ _,_,c,h=>⟨_,c,h⟩
 |.bd o k,m,c,h=>by simp only[Tr.val]at c;let⟨a,d,c⟩:=qdp c;exact Tr.go_ok c (h a d)
 | .br b s t,m,c,h => by
  simp only[Tr.val]at c;rcases T6 c with⟨e,c⟩|⟨e,c⟩;.exact Tr.go_ok c (h.1 e)
  .exact Tr.go_ok c (h.2 e)
 | .bs o s t,m,c,h => by
  simp only[Tr.val]at c;let⟨a,d,c⟩:=qdp c;rcases a with a|a;.exact Tr.go_ok c (h.1 a d)
  .exact Tr.go_ok c (h.2 a d)
 | .b3 o s t u,m,c,h => by
  simp only[Tr.val]at c;let⟨a,d,c⟩:=qdp c;rcases a with a|a|a;.exact Tr.go_ok c (h.1 a d)
  .exact Tr.go_ok c (h.2.1 a d)
  .exact Tr.go_ok c (h.2.2 a d)
def Tr.run:Tr R->(List It->Tr R->Prop)->Prop|.it i t,b=>t.run λl a=>b (i::l) a|t,b=>b [] t
def Tr.its:List It->Tr R->Tr R|[],t=>t|i::l,t=>.it i (Tr.its l t)
def Tr.its_val:∀(l:List It)(t:Tr R),(Tr.its l t).val=t.val|[],_=>rfl|_::l,t=>Tr.its_val l t
def Tr.run_ok:∀{t:Tr R}{d:List It->Tr R->Prop},t.run d->∃l a,a.val=t.val/\d l a
 |.it i t,d,h=>by let⟨l,a,b,c⟩:=Tr.run_ok (t:=t) h;exact⟨i::l,a,b,c⟩
 |.lf _,_,h=>⟨[],_,rfl,h⟩
 |.bd _ _,_,h=>⟨[],_,rfl,h⟩
 |.br _ _ _,_,h=>⟨[],_,rfl,h⟩
 |.bs _ _ _,_,h=>⟨[],_,rfl,h⟩
 |.b3 _ _ _ _,_,h=>⟨[],_,rfl,h⟩
def qf8(m:Nat)(t:Tr R)(a:aF)(k:Tr R->aF->Prop):Prop:=match t with|.it (.fz i es lv rk) t'=>(Tr.it (.fz i es lv rk) t').run λsc t2=>ql6 m sc a λsc a=>k (Tr.its sc t2) a|t=>k t a
def qkJ{P:I}{m:Nat}{t:Tr R}{b:aF}{k:Tr R->aF->Prop}(h:qf8 m t b k):∃c st',c.val=t.val/\IP P m b st'/\k c st':=by
 unfold qf8 at h;split at h;.let⟨l,t2,d,e⟩:=Tr.run_ok h;let⟨o,a,n,i⟩:=qbx (P:=P) e;exact⟨_,a,(Tr.its_val _ _).trans d,n,i⟩
 .exact⟨_,_,rfl,.refl _,h⟩
def RL(P:I)(GE:List (Nat×List U))(A:List Nat)(m:Nat):W->Tr R->aF->(Exit->Tr R->aF->Prop)->Prop
 |.skip,t,d,o=>o .normal t d
 |.label _,t,d,o=>o .normal t d
 |.region id ops draw,t,d,o=>t.go λt=>t.run λsc i=>X8 P GE A m (.region id ops draw) sc d λe sc d=>o e (Tr.its sc i) d
 | .seq a b,t,d,o => t.go fun t =>
  let h (e:Exit) (t:Tr R) (d:aF):Prop:=match e with
   |.normal=>t.go λt=>qf8 m t d λt d=>RL P GE A m b t d o
   |e=>o e t d
  match t with
  |.it (.pa 0) (.it (.pc st0 e st1) i)=>FG d st0/\fx P GE m a (EX e st1) st0/\h e i st1
  |.it (.pa (n+1)) i=>RL P GE A m a (.it (.pa n) i) d h
  |t=>RL P GE A m a t d h
 | .cond c a b,t,d,o => t.go fun t => y3 GE d.tmps c fun v => match v with
  | .bool x => match t with
   |.it .k i=>match x with
    |true=>i.go λt=>qf8 m t d λt d=>RL P GE A m a t d o
    |false=>i.go λt=>qf8 m t d λt d=>RL P GE A m b t d o
   |.it (.g _ y) i=>x=y/\match y with
    |true=>i.go λt=>qf8 m t d λt d=>RL P GE A m a t d o
    |false=>i.go λt=>qf8 m t d λt d=>RL P GE A m b t d o
   |_=>False
  |_=>False
 |.block id c,t,d,o=>RL P GE A m c t d λe t d=>match e with
  |.exit id'=>if id'=id then o .normal t d else o (.exit id') t d
  |e=>o e t d
 |.exit id,t,d,o=>o (.exit id) t d
 |.ret,t,d,o=>o .ret t d
 |.loop c,t,d,o=>t.go λt=>match t with
  |.it (.pc st0 e st1) i=>FG d st0/\fx P GE m (.loop c) (EX e st1) st0/\o e i st1
  |_=>False
 |_,_,_,_=>False
section
variable{P:I}{GE:V (Nat×V U)}{A:V Nat}{m:Nat}
def jX(w:P.follows .mixedOrders=T){r:R}:∀(c:W)(t:Tr R)(st:aF)(a3:Exit->Tr R->aF->Prop),t.val=O r->RL P GE A m c t st a3->fx P GE m c (λe n=>∃d,d.val=O r/\a3 e d n) st
 |.skip,t,st,a3,p,h=>fx.skip ⟨t,p,h⟩
 |.label _,t,st,a3,p,h=>fx.label ⟨t,p,h⟩
 |.region id ops draw,t,st,a3,p,h=>by simp only[RL]at h;let⟨F,q,h⟩:=Tr.go_ok p h;let⟨l,t2,E,h⟩:=Tr.run_ok h;refine(mP w (.region id ops draw) l st _ h).mono λe n i=>?_;let⟨a2,i⟩:=i;exact⟨_,.refl _,_,(Tr.its_val _ _).trans (E.trans q),i⟩
 | .seq a b,t,st,a3,p,h => by
  simp only[RL]at h;let⟨F,q,h⟩:=Tr.go_ok p h;have qje:∀(e:Exit)(d:Tr R)(n:aF),d.val=O r->(match e with|.normal=>d.go (λt=>qf8 m t n λt st=>RL P GE A m b t st a3)|e=>a3 e d n)->(match e with|.normal=>fx P GE m b (λe n=>∃d,d.val=O r/\a3 e d n) n|e=>∃d,d.val=O r/\a3 e d n):=by intro e d n o i;cases e with|normal=>let⟨t2,E,i⟩:=Tr.go_ok o i;let⟨t3,a1,v3,S,i⟩:=qkJ (P:=P) i;exact fx.weak S (jX w b t3 a1 a3 (v3.trans E) i)|exit id=>exact⟨_,o,i⟩|goto l=>exact⟨_,o,i⟩|ret=>exact⟨_,o,i⟩|panic c=>exact⟨_,o,i⟩|outgrown=>exact⟨_,o,i⟩
  refine fx.seq ?_;split at h;.rename_i X e B d;let⟨s,H,L⟩:=h;refine fx.weak s.weak (EX.of H ?_);have:=qje e d B q L;cases e<;>exact this
  .exact(jX w a _ st _ (by exact q) h).imp λe n i=>by let⟨d,o,i⟩:=i;have:=qje e d n o i;cases e<;>exact this
  .exact(jX w a _ st _ q h).imp λe n i=>by let⟨d,o,i⟩:=i;have:=qje e d n o i;cases e<;>exact this
 | .cond c a b,t,st,a3,p,h => by
  simp only[RL]at h;let⟨F,q,h⟩:=Tr.go_ok p h;rw[di]at h;have go:∀{x:W}(i:∀(t:Tr R)(st:aF),t.val=O r->RL P GE A m x t st a3->fx P GE m x (λe n=>∃d,d.val=O r/\a3 e d n) st){t:Tr R},t.val=O r->t.go (λt=>qf8 m t st (λt st=>RL P GE A m x t st a3))->fx P GE m x (λe n=>∃d,d.val=O r/\a3 e d n) st:=by intro x i t p h;let⟨F,q,h⟩:=Tr.go_ok p h;let⟨t2,a0,E,S,h⟩:=qkJ (P:=P) h;exact fx.weak S (i t2 a0 (E.trans q) h)
  split at h
  .rename_i x i;split at h
   .rename_i d;refine fx.cond i (λs=>?_) (λs=>?_);.subst s;exact go (t:=d) (λt st p h=>jX w a t st a3 p h) (by exact q) h
    .subst s;exact go (t:=d) (λt st p h=>jX w b t st a3 p h) (by exact q) h
   .rename_i j y d;obtain⟨rfl,h⟩:=h;refine fx.cond i (λs=>?_) (λs=>?_);.subst s;exact go (t:=d) (λt st p h=>jX w a t st a3 p h) (by exact q) h
    .subst s;exact go (t:=d) (λt st p h=>jX w b t st a3 p h) (by exact q) h
   .exact h.elim
  .exact h.elim
 | .block id c,t,st,a3,p,h => by
  simp only[RL]at h;refine fx.block ((jX w c _ st _ p h).imp λe n i=>?_);let⟨d,o,i⟩:=i;cases e with
  | exit id' =>
   simp only[qfE];simp only at i;split at i;.rename_i z;rw[hU z];exact⟨d,o,i⟩
   .rename_i z;rw[hG z];exact⟨d,o,i⟩
  |normal=>exact⟨d,o,i⟩
  |goto l=>exact⟨d,o,i⟩
  |ret=>exact⟨d,o,i⟩
  |panic c=>exact⟨d,o,i⟩
  |outgrown=>exact⟨d,o,i⟩
 |.exit id,t,st,a3,p,h=>fx.exit ⟨t,p,h⟩
 |.ret,t,st,a3,p,h=>fx.ret ⟨t,p,h⟩
 | .loop c,t,st,a3,p,h => by
  simp only[RL]at h;let⟨F,q,h⟩:=Tr.go_ok p h;split at h;.rename_i X e B d;let⟨s,H,L⟩:=h;exact fx.weak s.weak (EX.of H ⟨d,q,L⟩)
  .exact h.elim
 |.rangeFunc ..,_,_,_,_,h=>by simp[RL]at h
 |.scope _,_,_,_,_,h=>by simp[RL]at h
 |.goto _,_,_,_,_,h=>by simp[RL]at h
 |.refuse _,_,_,_,_,h=>by simp[RL]at h
end
def PV(a:R->Prop)(o:Q R)(t:Tr R)(F:Prop):Prop:=t.val=o/\((∀r,a r)->F)
section
variable{d:R->Prop}
def tE{r:R}:PV d (O r) (.lf r) (d r):=⟨rfl,λh=>h r⟩
def Jo{r:R}{F:Prop}(h:d r->F):PV d (O r) (.lf r) F:=⟨rfl,λq=>h (q r)⟩
def tb{α:Type}{o:Q α}{k:α->Q R}{t:α->Tr R}{F:α->Prop}(h:∀a,o=O a->PV d (k a) (t a) (F a)):PV d (o.bind k) (.bd o t) (∀a,o=O a->F a):=by refine⟨?_,λq a b=>(h a b).2 q⟩;cases o with|none=>rfl|some a=>exact(h a rfl).1
def tf{b:K}{x y:Q R}{s t:Tr R}{F e:Prop}(h:b=T->PV d x s F)(c:b=Z->PV d y t e):PV d (if b then x else y) (.br b s t) ((b=T->F)/\(b=Z->e)):=by refine⟨?_,λq=>⟨λa=>(h a).2 q,λa=>(c a).2 q⟩⟩;cases b with|false=>exact(c rfl).1|true=>exact(h rfl).1
def tF{b:K}{x y:Q R}{s t:Tr R}{F e:Prop}(h:PV d x s F)(c:PV d y t e):PV d (if b then x else y) (.br b (.it (.g 0 T) s) (.it (.g 0 Z) t)) ((b=T->b=T/\F)/\(b=Z->b=Z/\e)):=by refine⟨?_,λq=>⟨λa=>⟨a,h.2 q⟩,λa=>⟨a,c.2 q⟩⟩⟩;cases b with|false=>exact c.1|true=>exact h.1
def t2{α β:Type}{o:Q (α⊕β)}{k:α⊕β->Q R}{s:α->Tr R}{t:β->Tr R}{F:α->Prop}{e:β->Prop}(h:∀a,o=O (.inl a)->PV d (k (.inl a)) (s a) (F a))(c:∀a,o=O (.inr a)->PV d (k (.inr a)) (t a) (e a)):PV d (o.bind k) (.bs o s t) ((∀a,o=O (.inl a)->F a)/\∀a,o=O (.inr a)->e a):=by
 refine⟨?_,λq=>⟨λa b=>(h a b).2 q,λa b=>(c a b).2 q⟩⟩;simp only[Tr.val];rcases o with _|a|a;.rfl
 .exact(h a rfl).1
 .exact(c a rfl).1
variable{z:Q R}{A:Tr R}{F X B:Prop}
def tv{o:Q U}{p:U}(h:o=O p)(r:PV d z A F):PV d z (.it (.v p) A) (o=O p/\F):=⟨r.1,λq=>⟨h,r.2 q⟩⟩
def bz{o:V aJ->Q U}{p:U}(h:∀H,o H=O p)(r:PV d z A F):PV d z (.it (.v p) A) ((∀H,o H=O p)/\F):=⟨r.1,λq=>⟨h,r.2 q⟩⟩
def tx{o:Q (V U)}{l:V U}(h:o=O l)(r:PV d z A F):PV d z (.it (.x l) A) (o=O l/\F):=⟨r.1,λq=>⟨h,r.2 q⟩⟩
def te{o:Q (V U)}{l:V U}(h:o=O l)(r:PV d z A F):PV d z (.it (.e l) A) (o=O l/\F):=⟨r.1,λq=>⟨h,r.2 q⟩⟩
def tg(n:Nat){x b:K}(h:x=b)(r:PV d z A F):PV d z (.it (.g n b) A) (x=b/\F):=⟨r.1,λq=>⟨h,r.2 q⟩⟩
def quB{o:Q (V U)}{l:V U}(h:o=O l)(r:PV d z A F):PV d z (.it (.s) A) (o=O l/\F):=⟨r.1,λq=>⟨h,r.2 q⟩⟩
def bQ{P:I}{GE:V (Nat×V U)}{g:FuncId}{b:V U}{p:U}{a:V (Nat×G)}(h:CC P GE g b p a)(r:PV d z A F):PV d z (.it (.c p a) A) (CC P GE g b p a/\F):=⟨r.1,λq=>⟨h,r.2 q⟩⟩
def Yv{P:I}{e:G}{a:V (Nat×U)}{p:U}{L:V (Nat×G)}(h:df P e a=O p)(c:Ce P e a L)(r:PV d z A F):PV d z (.it (.b p L) A) (df P e a=O p/\Ce P e a L/\F):=⟨r.1,λq=>⟨h,c,r.2 q⟩⟩
def ty{l a:V U}(h:l=a)(r:PV d z A F):PV d z (.it (.y a) A) (l=a/\F):=⟨r.1,λq=>⟨h,r.2 q⟩⟩
def qc1(a:V Nat)(r:PV d z A F):PV d z (.it (.dr a) A) F:=⟨r.1,r.2⟩
def ey(n:Nat)(r:PV d z A F):PV d z (.it (.pa n) A) F:=⟨r.1,r.2⟩
def bJ{P:I}{GE:V (Nat×V U)}{m:Nat}{c:W}{e:Exit}{a b:aF}(h:fx P GE m c (EX e b) a)(r:PV d z A F):PV d z (.it (.pc a e b) A) ((a.tmps=a.tmps/\a.boxes=a.boxes/\T=T)/\fx P GE m c (EX e b) a/\F):=⟨r.1,λq=>⟨fr a,h,r.2 q⟩⟩
def MO(i:It)(r:PV d z A F):PV d z (.it i A) F:=⟨r.1,r.2⟩
def ti(i:It)(h:X)(r:PV d z A F):PV d z (.it i A) (X/\F):=⟨r.1,λq=>⟨h,r.2 q⟩⟩
def qCU{o:Q (V (U×U))}{m:V (U×U)}(h:o=O m)(r:PV d z A F):PV d z (.it (.w 0 (.map m)) A) (o=O m/\F):=⟨r.1,λq=>⟨h,r.2 q⟩⟩
def qls{o:Q (V U)}{l:V U}(h:o=O l)(a:Zo l=T)(r:PV d z A F):PV d z (.it (.x l) A) (o=O l/\Zo l=T/\F):=⟨r.1,λq=>⟨h,a,r.2 q⟩⟩
def tw{o b:Q U}{p a:U}(h:o=O p/\b=O a)(r:PV d z A F):PV d z (.it (.v p) (.it (.v a) A)) (o=O p/\b=O a/\F):=⟨r.1,λq=>⟨h.1,h.2,r.2 q⟩⟩
def tk(r:PV d z A F):PV d z (.it .k A) F:=⟨r.1,r.2⟩
def ts(r:PV d z A F):PV d z (.it .s A) F:=⟨r.1,r.2⟩
end
end
def qhd(s:aF):Prop:=s.tmps=s.tmps/\s.boxes=s.boxes/\T=T
def qhd.ok(s:aF):qhd s:=fr s
def Zm:Exit->K|.normal=>T|_=>Z
def Zn{e:Exit}(h:Zm e=Z):e≠.normal:=by intro a;subst a;cases h
section
variable{P:I}{GE:V (Nat×V U)}{A:V Nat}{m:Nat}{c:W}{st:aF}{X σ:Type}
def Tr.fin{R:Type}:Tr R->(R->Prop)->Prop|.lf x,a=>a x|_,_=>False
def qif{R:Type}{r:R}{t:Tr R}{K:R->Prop}(a:t.val=O r)(h:t.fin K):K r:=by
 unfold Tr.fin at h;split at h;.cases a;exact h
 .exact h.elim
def LJ(a:X->Exit)(b:X->aF)(x:X):Prop:=a x=a x/\qhd (b x)
def KJ(a:X->Exit)(b:X->aF):Exit->Tr X->aF->Prop:=λe t st=>t.go λt=>t.fin λx=>FN (a x) (b x) e [] st
def KJ.at{a:X->Exit}{b:X->aF}{e:Exit}{t:Tr X}{st:aF}{x:X}(d:t.val=O x)(h:KJ a b e t st):FN (a x) (b x) e [] st:=by let⟨n,i,h⟩:=Tr.go_ok d h;exact qif (K:=λx=>FN (a x) (b x) e [] st) i h
def qo3(n:P.follows .mixedOrders=T){ex:X->Exit}{b:X->aF}{o:Q X}{x:X}(h:o=O x){t:Tr X}{F:Prop}(z:PV (LJ ex b) o t F)(i:F=RL P GE A m c t st (KJ ex b)):fx P GE m c (EX (ex x) (b x)) st:=by
 have d:=z.2 λr=>⟨rfl,qhd.ok _⟩
 rw[i]at d;refine(jX n c t st _ (z.1.trans h) d).mono λe p a=>?_;let⟨s,q,a⟩:=a;have a:=KJ.at q a;exact⟨b x,a.2.weak,a.1.symm,rfl⟩
def LB(S:σ->aF)(a:X->Exit)(b:X->aF):σ⊕X->Prop|.inl s=>Exit.normal=Exit.normal/\qhd (S s)|.inr x=>Z=Z/\a x=a x/\qhd (b x)
def KB(S:σ->aF)(a:X->Exit)(b:X->aF):Exit->Tr (σ⊕X)->aF->Prop:=λe t st=>t.go λt=>t.fin λy=>match y with|.inl s=>FN .normal (S s) e [] st|.inr x=>Zm (a x)=Z/\FN (a x) (b x) e [] st
def qAg(m:Nat)(S:σ->aF)(a:X->Exit)(b:X->aF):Exit->Tr (σ⊕X)->aF->Prop:=λe t st=>t.go λt=>t.fin λy=>match y with|.inl s=>qAf m .normal (S s) e [] st|.inr x=>Zm (a x)=Z/\qAf m (a x) (b x) e [] st
def qvU(p:P.follows .mixedOrders=T){S:σ->aF}{d:X->Exit}{b:X->aF}{o:Q (σ⊕X)}{y:σ⊕X}(h:o=O y){t:Tr (σ⊕X)}{F:Prop}(z:PV (LB S d b) o t F)(n:F=RL P GE A m c t st (KB S d b)):fx P GE m c (LQ S d b y) st:=by
 have i:=z.2 λr=>by cases r with|inl s=>exact⟨rfl,qhd.ok _⟩|inr x=>exact⟨rfl,rfl,qhd.ok _⟩
 rw[n]at i;refine(jX p c t st _ (z.1.trans h) i).mono λe q a=>?_;let⟨E,w,a⟩:=a;let⟨t2,B,a⟩:=Tr.go_ok w a;have a:=qif B a;cases y with|inl s=>exact⟨S s,a.2.weak,a.1.symm,rfl⟩|inr x=>exact⟨b x,a.2.2.weak,by rw[<-a.2.1];exact Zn a.1,a.2.1.symm,rfl⟩
def qtz(p:P.follows .mixedOrders=T){S:σ->aF}{d:X->Exit}{b:X->aF}{o:Q (σ⊕X)}{y:σ⊕X}(h:o=O y){t:Tr (σ⊕X)}{F:Prop}(z:PV (λ_=>True) o t F)(n:F=RL P GE A m c t st (qAg m S d b)):fx P GE m c (LQ S d b y) st:=by have i:=z.2 λr=>trivial;rw[n]at i;refine(jX p c t st _ (z.1.trans h) i).mono λe q a=>?_;let⟨E,w,a⟩:=a;let⟨t2,B,a⟩:=Tr.go_ok w a;have a:=qif B a;cases y with|inl s=>exact⟨S s,a.2.weak,a.1.symm,rfl⟩|inr x=>exact⟨b x,a.2.2.weak,by rw[<-a.2.1];exact Zn a.1,a.2.1.symm,rfl⟩
def ZL{S:σ->aF}{ex:X->Exit}{d:X->aF}{a:σ->Q (σ⊕X)}{s:σ}{x:X}(h:loop a s=O x)(o:∀s y,a s=O y->fx P GE m c (LQ S ex d y) (S s)){st b:aF}{e:Exit}(h1:st=S s:=by rfl)(i:e=ex x:=by rfl)(n:b=d x:=by rfl):fx P GE m (.loop c) (EX e b) st:=by subst h1 i n;exact fx.loop h o
end
class K0 (p:PVal):Prop where h:p.cl 0
class K0l (l:List PVal):Prop where h:kT 0 l
class KE {α:Type} (c:α->List PVal):Prop where h:∀x,kT 0 (c x)
class LTc (i n:Nat):Prop where h:i<n
class ATc (ρ:List Nat) (i:Nat) (j:outParam Nat):Prop where h:ρ[i]? =some j
instance iq1{n:Nat}:LTc 0 (n+1):=⟨by omega⟩
instance iq2{i n:Nat}[q:LTc i n]:LTc (i+1) (n+1):=⟨by have:=q.h;omega⟩
instance iq3{j:Nat}{ρ:List Nat}:ATc (j::ρ) 0 j:=⟨rfl⟩
instance iq4{i j k:Nat}{ρ:List Nat}[q:ATc ρ i j]:ATc (k::ρ) (i+1) j:=⟨by simpa using q.h⟩
instance iq6{k:IntKind}{n:Int}:K0 (.int k n):=⟨md⟩
instance iq7{b:Bool}:K0 (.bool b):=⟨md⟩
instance iq8{s:ae}:K0 (.str s):=⟨md⟩
instance iq9{v:Value}:K0 (.val v):=⟨md⟩
instance qGC{l:List PVal}[q:K0l l]:K0 (.agg l):=⟨q.h⟩
instance qGD{l:List PVal}[q:K0l l]:K0 (.tuple l):=⟨q.h⟩
instance qGE{l:List PVal}[q:K0l l]:K0 (.eptr l):=⟨q.h⟩
instance qGF{fn:Fn}{f c:List PVal}[q:K0l f][q':K0l c]:K0 (.func fn f c):=⟨⟨q.h,q'.h⟩⟩
instance qGG:K0l []:=⟨md⟩
instance qGH{p:PVal}{l:List PVal}[q:K0 p][q':K0l l]:K0l (p::l):=⟨⟨q.h,q'.h⟩⟩
instance qGI{α:Type}{c:α->List PVal}{l:List α}[q:KE c]:K0 (sl c l):=⟨dn q.h l⟩
instance qGJ{k:IntKind}:KE (cI k):=⟨qw9 k⟩
instance qGK:KE cS:=⟨qi4⟩
instance qGL{α:Type}{c:α->List PVal}{l:List α}[q:KE c]:K0l (cL c l):=⟨qzH q.h l⟩
instance qGM{b:Bool}:K0l (cB b):=⟨qCy b⟩
class KC (n:Nat) (p:PVal):Prop where h:p.cl n
class KCl (n:Nat) (l:List PVal):Prop where h:kT n l
class KCb (n:Nat) (B:aJ):Prop where h:qtB n B
class KCs (n:Nat) (H:List aJ):Prop where h:qfT n H
instance qGN{n:Nat}{p:PVal}[q:K0 p]:KC n p:=⟨up q.h⟩
instance qGO{n i a:Nat}[q:LTc i n]:KC n (.bptr i a):=⟨by simp only[PVal.cl];exact q.h⟩
instance qGP{n i:Nat}{a:TypeId}[q:LTc i n]:KC n (.nptr i a):=⟨by simp only[PVal.cl];exact q.h⟩
instance qGQ{n:Nat}{l:List PVal}[q:KCl n l]:KC n (.tuple l):=⟨q.h⟩
instance qGR{n:Nat}{l:List PVal}[q:KCl n l]:KC n (.eptr l):=⟨q.h⟩
instance qGS{n:Nat}{fn:Fn}{f c:List PVal}[q:KCl n f][q':KCl n c]:KC n (.func fn f c):=⟨⟨q.h,q'.h⟩⟩
instance qGT{n:Nat}{l:List PVal}[q:K0l l]:KCl n l:=⟨qtC q.h⟩
instance qGU{n:Nat}:KCl n []:=⟨md⟩
instance qGV{n:Nat}{p:PVal}{l:List PVal}[q:KC n p][q':KCl n l]:KCl n (p::l):=⟨⟨q.h,q'.h⟩⟩
instance qGW{n:Nat}:KCb n .dead:=⟨md⟩
instance qGX{n:Nat}{a:List PVal}{own:List (Nat×TypeId)}[q:KCl n a]:KCb n (.cells a own):=⟨q.h⟩
instance qGY{n:Nat}:KCs n []:=⟨md⟩
instance qGZ{n:Nat}{B:aJ}{H:List aJ}[q:KCb n B][q':KCs n H]:KCs n (B::H):=⟨⟨q.h,q'.h⟩⟩
class RXc (ρ:List Nat) (q:PVal) (p:outParam PVal):Prop where h:KX ρ p q
class RXl (ρ:List Nat) (q:List PVal) (p:outParam (List PVal)):Prop where h:RH ρ p q
class RXb (ρ:List Nat) (q:aJ) (p:outParam aJ):Prop where h:qjc ρ p q
class RXs (ρ:List Nat) (q:List aJ) (p:outParam (List aJ)):Prop where h:Fy ρ p q
instance qHa{ρ:List Nat}{p:PVal}[q:K0 p]:RXc ρ p p:=⟨xR ρ p q.h⟩
instance qHb{ρ:List Nat}{i j a:Nat}[q:ATc ρ i j]:RXc ρ (.bptr i a) (.bptr j a):=⟨xB ρ i j a q.h⟩
instance qHc{ρ:List Nat}{i j:Nat}{a:TypeId}[q:ATc ρ i j]:RXc ρ (.nptr i a) (.nptr j a):=⟨xN ρ i j a q.h⟩
instance qHd{ρ:List Nat}{fn:Fn}{f c b a:List PVal}[q:RXl ρ f b][q':RXl ρ c a]:RXc ρ (.func fn f c) (.func fn b a):=⟨xF ρ fn b a f c q.h q'.h⟩
instance qHe{ρ:List Nat}{l a:List PVal}[q:RXl ρ l a]:RXc ρ (.agg l) (.agg a):=⟨xA ρ a l q.h⟩
instance qHf{ρ:List Nat}{l:List PVal}[q:K0l l]:RXl ρ l l:=⟨qBj ρ l q.h⟩
instance qHg{ρ:List Nat}:RXl ρ [] []:=⟨md⟩
instance qHh{ρ:List Nat}{p b:PVal}{l a:List PVal}[q:RXc ρ p b][q':RXl ρ l a]:RXl ρ (p::l) (b::a):=⟨⟨q.h,q'.h⟩⟩
instance qHi{ρ:List Nat}{b a:List PVal}{own:List (Nat×TypeId)}[q:RXl ρ b a]:RXb ρ (.cells b own) (.cells a own):=⟨⟨rfl,q.h⟩⟩
instance qHj{ρ:List Nat}:RXs ρ [] []:=⟨md⟩
instance qHk{ρ:List Nat}{B a:aJ}{H b:List aJ}[q:RXb ρ B a][q':RXs ρ H b]:RXs ρ (B::H) (a::b):=⟨⟨q.h,q'.h⟩⟩
def HI(ρ:List Nat):List aJ->List aJ->Prop|[],[]=>True|B::Bs,Bc::Hc=>(B=B/\qjc ρ B Bc)/\HI ρ Bs Hc|_,_=>False
def HI.of{ρ:List Nat}:∀{a b:List aJ},Fy ρ a b->HI ρ a b|[],[],_=>trivial|[],_::_,h=>h.elim|_::_,[],h=>h.elim|_::_,_::_,h=>⟨⟨rfl,h.1⟩,HI.of h.2⟩
section
variable{R:Type}{a:R->Prop}{b:Q R}{c:Tr R}{F:Prop}{P:I}{GE:V (Nat×V U)}
def tc(ρ:V Nat){g:FuncId}{h d:V U}{o m i e:V aJ}{r n:U}{p:V (Nat×G)}(ok:C P GE g d [] m n p e)[q1:RXl ρ d h][q2:RXs ρ m o][q3:RXs ρ e i][q4:RXc ρ n r](z:PV a b c F):PV a b (.it (.cg ⟨ρ,d,[],o,m,i,e,r,n,p⟩) c) (C P GE g d [] m n p e/\RH ρ h d/\HI ρ o m/\Fy ρ i e/\KX ρ r n/\F):=⟨z.1,λq=>⟨ok,q1.h,.of q2.h,q3.h,q4.h,z.2 q⟩⟩
def qBb(ρ:V Nat){g:FuncId}{i d:V U}{h m e:V aJ}{r n:U}{o:V (Nat×G)}(ok:C P GE g d [] m n o e)[q1:RXl ρ d i][q2:RXs ρ m h][q3:RXs ρ e h][q4:RXc ρ n r](z:PV a b c F):PV a b (.it (.cg ⟨ρ,d,[],h,m,h,e,r,n,o⟩) c) (h=h/\C P GE g d [] m n o e/\RH ρ i d/\HI ρ h m/\Fy ρ h e/\KX ρ r n/\F):=⟨z.1,λq=>⟨rfl,ok,q1.h,.of q2.h,q3.h,q4.h,z.2 q⟩⟩
end
class KS (m:Nat) (s:aF):Prop where h:decide (m % 1000<=s.boxes.length)=true/\kT s.boxes.length s.tmps/\qfT s.boxes.length s.boxes
def qCR(s:aF)(l:V (Nat×U)):aF:=⟨l.foldl (λtm x=>tm.set x.1 x.2) s.tmps,s.boxes,s.own⟩
class KTm (n:Nat) (l:List (Nat×PVal)):Prop where h:qqW n l
instance qHl{n:Nat}:KTm n []:=⟨md⟩
instance qHm{n t:Nat}{p:PVal}{l:List (Nat×PVal)}[q:KC n p][q':KTm n l]:KTm n ((t,p)::l):=⟨⟨q.h,q'.h⟩⟩
theorem ks(k:Nat){m N:Nat}{l:V (Nat×U)}{B:V aJ}{o:V ((Nat×Nat)×G)}(h:(B.length==k&&Y (m % 1000<=k))=T)[q:KTm k l][q':KCs k B]:KS m (aM N l B o):=by rw[ne,o5]at h;obtain⟨rfl,h⟩:=h;exact⟨h,qnI q.h,q'.h⟩
def qsF(m:Nat)(s:aF):Prop:=s.tmps=s.tmps/\s.boxes=s.boxes/\T=T/\Y (m % 1000<=s.boxes.length)=T/\kT s.boxes.length s.tmps/\qfT s.boxes.length s.boxes
def KS.f{m:Nat}{s:aF}(q:KS m s):qsF m s:=⟨rfl,rfl,rfl,q.h⟩
def qBk(m:Nat){σ X:Type}(S:σ->aF)(a:X->Exit)(b:X->aF):σ⊕X->Prop|.inl s=>Exit.normal=Exit.normal/\qsF m (S s)|.inr x=>Z=Z/\a x=a x/\qsF m (b x)
def quK(P:I)(GE:V (Nat×V U))(f:FuncId)(a:V U){R:Type}(o:Q R)(b:R->U)(c:V (Nat×G)):Prop:=∀r:R,o=O r->CC P GE f a (b r) c
def qwX(P:I)(GE:V (Nat×V U))(f:FuncId)(a:V U)(d:V ((Nat×Nat)×G))(H:V aJ){R:Type}(o:Q R)(b:R->U)(e:V (Nat×G))(c:R->V aJ):Prop:=∀r:R,o=O r->C P GE f a d H (b r) e (c r)
def qwY(P:I)(GE:V (Nat×V U))(m:Nat)(c:W){X:Type}(o:Q X)(e:Exit)(a:X->aF)(b:aF):Prop:=∀x:X,o=O x->fx P GE m c (EX e (a x)) b
def qxh(P:I)(GE:V (Nat×V U))(m:Nat)(c:W){X:Type}(o:Q X)(a:X->Exit)(b:X->aF)(d:aF):Prop:=∀x:X,o=O x->fx P GE m c (EX (a x) (b x)) d
def quJ(P:I)(GE:V (Nat×V U))(m:Nat)(c:W){σ X:Type}(o:Q (σ⊕X))(S:σ->aF)(a:X->Exit)(b:X->aF)(d:aF):Prop:=∀y:σ⊕X,o=O y->fx P GE m c (LQ S a b y) d
def ZF(P:I)(A:V Nat)(f:FuncId)(fn:Func)(c:W):Prop:=(∀a w,(callFunc f a).run P w=.ok (.enter f a) w)/\P.funcs[f]? =O fn/\fn.body=O c/\P.follows .mixedOrders=T/\A=A
section
variable{P:I}{GE:V (Nat×V U)}{A:V Nat}{f:FuncId}{fn:Func}{c:W}{b:V U}{ro:V (Nat×G)}{R:Type}{a:R->U}{o:Q R}{t:Tr R}{F:Prop}
def zf(e:∀d w,(callFunc f d).run P w=.ok (.enter f d) w)(h:P.funcs[f]? =O fn)(i:fn.body=O c)(m:P.follows .mixedOrders=T):ZF P A f fn c:=⟨e,h,i,m,rfl⟩
def HU(h:∀r,o=O r->CC P GE f b (a r) ro):quK P GE f b o a ro:=h
def LV(a:R->U)(r:R):Prop:=a r=a r/\(a r).cl 0
def qBl(a:R->U)(r:R):Prop:=a r=a r/\(a r).cl 0/\(a r).isAgg=T
def KV(P:I)(d:V ResultVar)(a:R->U)(ro:V (Nat×G)):Exit->Tr R->aF->Prop:=λe t h=>t.go λt=>t.fin λr=>FR P d (a r) ro e [] h
def KV.at{r:R}{d:V ResultVar}{e:Exit}{st:aF}(i:t.val=O r)(h:KV P d a ro e t st):FR P d (a r) ro e [] st:=by let⟨n,m,h⟩:=Tr.go_ok i h;exact qif (K:=λr=>FR P d (a r) ro e [] st) m h
def ZF.v0(g:ZF P A f fn c)(m:kT 0 b)(n:t.val=o)(i:RL P GE A 0 c t ⟨b++List.replicate (fn.ntmps - b.length) .undef,[],[]⟩ (KV P fn.results.toList a ro)):quK P GE f b o a ro:=λ_ h=>
 ⟨m,C.ofSat g.1 g.2.1 g.2.2.1 ((jX g.2.2.2.1 c t _ _ (n.trans h) i).imp λe q d=>by let⟨r,p,d⟩:=d;exact(KV.at p d).to)⟩
def ZF.v(g:ZF P A f fn c)[ha:K0l b](z:PV (LV a) o t F)[hr:∀r,K0 (a r)](d:F=RL P GE A 0 c t ⟨b++List.replicate (fn.ntmps - b.length) .undef,[],[]⟩ (KV P fn.results.toList a ro):=by kernel_rfl):quK P GE f b o a ro:=
 ZF.v0 g ha.h z.1 (d▸z.2 λr=>⟨rfl,(hr r).h⟩)
def ZF.va(g:ZF P A f fn c)[ha:K0l b](z:PV (qBl a) o t F)[hr:∀r,K0 (a r)](e:∀r,(a r).isAgg=true:=by intro r;rfl)(d:F=RL P GE A 0 c t ⟨b++List.replicate (fn.ntmps - b.length) .undef,[],[]⟩ (KV P fn.results.toList a ro):=by kernel_rfl):quK P GE f b o a ro:=
 ZF.v0 g ha.h z.1 (d▸z.2 λr=>⟨rfl,(hr r).h,e r⟩)
variable{H:V aJ}{H':R->V aJ}{d:V ((Nat×Nat)×G)}{m:Nat}
def qkZ(h:∀r,o=O r->C P GE f b d H (a r) ro (H' r)):qwX P GE f b d H o a ro H':=h
def LG(a:R->U)(H':R->V aJ)(n:Nat)(r:R):Prop:=a r=a r/\(a r).cl n/\H' r=H' r/\qfT n (H' r)
def KG(P:I)(h:V ResultVar)(a:R->U)(ro:V (Nat×G))(H':R->V aJ):Exit->Tr R->aF->Prop:=λe t i=>t.go λt=>t.fin λr=>qur P h (a r) ro (H' r) e [] i
def KG.at{r:R}{i:V ResultVar}{e:Exit}{st:aF}(n:t.val=O r)(h:KG P i a ro H' e t st):qur P i (a r) ro (H' r) e [] st:=by let⟨q,p,h⟩:=Tr.go_ok n h;exact qif (K:=λr=>qur P i (a r) ro (H' r) e [] st) p h
def ZF.g0(g:ZF P A f fn c)(i:∀r,(Y (m % 1000=H.length)&&Y (m≠0)&&Y ((H' r).length=H.length))=T)(q:t.val=o)(p:RL P GE A m c t ⟨b++List.replicate (fn.ntmps - b.length) .undef,H,d⟩ (KG P fn.results.toList a ro H')):qwX P GE f b d H o a ro H':=by intro r h;have i:=i r;simp only[ne,nm]at i;exact C.ofSatG i.1.1 i.1.2 g.1 g.2.1 g.2.2.1 i.2 ((jX g.2.2.2.1 c t _ _ (q.trans h) p).imp λe w n=>by let⟨x,s,n⟩:=n;exact(KG.at s n).to)
def ZF.g(g:ZF P A f fn c)(n:Nat)(z:PV (LG a H' n) o t F)[hr:∀r,KC n (a r)][hb:∀r,KCs n (H' r)](i:∀r,(Y (n % 1000=H.length)&&Y (n≠0)&&Y ((H' r).length=H.length))=true:=by intro r;rfl)(e:F=RL P GE A n c t ⟨b++List.replicate (fn.ntmps - b.length) .undef,H,d⟩ (KG P fn.results.toList a ro H'):=by kernel_rfl):qwX P GE f b d H o a ro H':=
 ZF.g0 g i z.1 (e▸z.2 λr=>⟨rfl,(hr r).h,rfl,(hb r).h⟩)
end
section
variable{P:I}{GE:V (Nat×V U)}{A:V Nat}{f:FuncId}{fn:Func}{b c:W}{m:Nat}{st:aF}{X σ:Type}{S:σ->aF}{ex:X->Exit}{a:X->aF}{F:Prop}
def ZF.k(g:ZF P A f fn b){o:Q X}{t:Tr X}(z:PV (LJ ex a) o t F)(d:F=RL P GE A m c t st (KJ ex a):=by kernel_rfl):qxh P GE m c o ex a st:=λ_ h=>qo3 g.2.2.2.1 h z d
def ZF.j(g:ZF P A f fn b){e:Exit}{o:Q X}{t:Tr X}(z:PV (LJ (λ_=>e) a) o t F)(d:F=RL P GE A m c t st (KJ (λ_=>e) a):=by kernel_rfl):qwY P GE m c o e a st:=λ_ h=>qo3 (ex:=λ_=>e) g.2.2.2.1 h z d
def ZF.l(g:ZF P A f fn b){o:Q (σ⊕X)}{t:Tr (σ⊕X)}(z:PV (LB S ex a) o t F)(d:F=RL P GE A m c t st (KB S ex a):=by kernel_rfl):quJ P GE m c o S ex a st:=λ_ h=>qvU g.2.2.2.1 h z d
def ZF.lx(g:ZF P A f fn b){o:Q (σ⊕X)}{t:Tr (σ⊕X)}(z:PV (qBk m S ex a) o t F)[q:∀s,KS m (S s)][q':∀x,KS m (a x)](d:F=RL P GE A m c t st (qAg m S ex a):=by kernel_rfl):quJ P GE m c o S ex a st:=λ_ h=>qtz g.2.2.2.1 h ⟨z.1,λ_=>z.2 λy=>match y with
 |.inl s=>⟨rfl,(q s).f⟩
 |.inr x=>⟨rfl,rfl,(q' x).f⟩⟩ d
def Bz{d:σ->Q (σ⊕X)}{s:σ}(e:∀s,quJ P GE m c (d s) S ex a (S s))(h1:st=S s:=by rfl):qxh P GE m (.loop c) (loop d s) ex a st:=λ_ h=>ZL (h1:=h1) h λs y i=>e s y i
def nu{e:Exit}{d:σ->Q (σ⊕X)}{s:σ}(i:∀s,quJ P GE m c (d s) S (λ_=>e) a (S s))(h1:st=S s:=by rfl):qwY P GE m (.loop c) (loop d s) e a st:=λ_ h=>ZL (ex:=λ_=>e) (h1:=h1) h λs y n=>i s y n
end
end Go.Proofs.YtibglelmlnfojaaGreatDoor
