/- PROVED: a part of the proof. Conditions: none. -/
import Derived.Test.YtibglelmlnfojaaGreatDoorPkM1
import Derived.Lib.AppendStr
set_option linter.unusedSimpArgs false set_option linter.defProp false
set_option linter.unusedVariables false
noncomputable section
namespace Go.Proofs.YtibglelmlnfojaaGreatDoor
open Go
open Option renaming some→O,none→N
open Go renaming TypeId→G,Value→D,Program→I,Oper→M,World→J,Code→W
open Bool renaming true→T,false→Z
open Decidable renaming decide→Y
open Go.Proofs.YtibglelmlnfojaaGreatDoor renaming PVal→U
section
variable{P:I}{E:BP}{Γ:ca}{bs:cF}{d:Nat->Q rI}{w:J}{a:Array D}{st:aF}
def qcf{sz:Nat}:∀(b:List (Nat×U))(k:Nat){m:List (List U)},Qo sz k b=O m->
  m.length=b.length/\(∀(i:Nat) e,m[i]? =O e->e.length=sz)/\∀(i:Nat) x,b[i]? =O x->x.1=k+i/\bH x.2=m[i]?
 |[],k,m,h=>by simp only[Qo,q8]at h;subst h;exact⟨rfl,by simp,by simp⟩
 | (i,v) :: rest,k,m,h => by
  simp only[Qo]at h;split at h
  .rename_i B r o z;split at h
   .rename_i y;obtain⟨rfl,n⟩:=y;cases h;let⟨q,s,t⟩:=qcf rest (i+1) z;refine⟨by simp[q],λj e c=>?_,λj x c=>?_⟩;.cases j with|zero=>simp at c;subst c;exact n|succ j=>exact s j e (by simpa using c)
    .cases j with|zero=>simp at c;subst c;simp[o]|succ j=>let⟨A,p⟩:=t j x (by simpa using c);exact⟨by omega,by simpa using p⟩
   .cases h
  .cases h
theorem qbv{sz:Nat}:∀(b:V (Nat×D))(k:Nat)(cv:Array D),(∀(i:Nat) x,b[i]? =O x->x.1=k+i/\x.2.cells.size=sz)->(k+b.length) * sz<=cv.size->
  ∃q,Instr.fill (λi=>O (i * sz,sz)) cv b=O q/\q.size=cv.size/\(∀(o:Nat),o<k * sz->q[o]? =cv[o]?)/\
   ∀(i:Nat) x (j:Nat),b[i]? =O x->j<sz->q[(k+i) * sz+j]? =x.2.cells[j]?
 |[],k,cv,_,_=>⟨cv,rfl,rfl,λ_ _=>rfl,by simp⟩
 | (i0,v) :: rest,k,cv,hp,hl => by
  obtain⟨L,R⟩:=hp 0 (i0,v) rfl;simp only[Nat.add_zero]at L;subst L;simp only[vz]at hl;have z:(i0+1+rest.length) * sz<=cv.size:=by rw[show i0+1+rest.length=i0+(rest.length+1)from by omega];exact hl
  have y:(i0+1) * sz<=(i0+1+rest.length) * sz:=vbm sz (by omega);rw[vbr i0 1,vb8]at y
  have p:∀(l:V D)(m:Nat)(cv:Array D),i0 * sz+m+l.length<=cv.size->
    ((l.zipIdx m).foldl (λh (c,j)=>h.setIfInBounds (i0 * sz+j) c) cv).size=cv.size/\
    ∀o,((l.zipIdx m).foldl (λh (c,j)=>h.setIfInBounds (i0 * sz+j) c) cv)[o]? =if i0 * sz+m<=o/\o<i0 * sz+m+l.length then l[o - (i0 * sz+m)]? else cv[o]?:=by
   intro l
   induction l with
   |nil=>intro m cv _;refine⟨by simp,λo=>?_⟩;rw[hG (by simp)];simp
   | cons u l ih =>
    intro m cv A
    simp only[vz]at A
    simp only[List.zipIdx_cons,List.foldl_cons]
    obtain⟨e1,e2⟩:=ih (m+1) (cv.setIfInBounds (i0 * sz+m) u) (by simp;omega)
    refine⟨by rw[e1];simp,λo=>?_⟩
    rw[e2 o]
    simp only[vz]
    by_cases F:o=i0 * sz+m
    .subst F
     rw[hG (by omega),hU (by omega)]
     have X:i0 * sz+m<cv.size:=by omega
     simp[X]
    .have B:(cv.setIfInBounds (i0 * sz+m) u)[o]? =cv[o]?:=vba (λe=>F e.symm)
     rw[B]
     by_cases H:i0 * sz+(m+1)<=o/\o<i0 * sz+(m+1)+l.length
     .rw[hU H,hU (by omega),show o - (i0 * sz+m)=(o - (i0 * sz+(m+1)))+1 from by omega];simp
     .rw[hG H,hG (by omega)]
  have a1:v.cells.toList.length=sz:=by simpa using R
  obtain⟨s,t⟩:=p v.cells.toList 0 cv (by omega);have n:(v.cells.zipIdx.foldl (λh (c,j)=>h.setIfInBounds (i0 * sz+j) c) cv)=(v.cells.toList.zipIdx.foldl (λh (c,j)=>h.setIfInBounds (i0 * sz+j) c) cv):=by rw[<-vcr];simp only[vcl]
  rw[<-n]at s t
  obtain⟨q,r1,r2,S,r4⟩:=qbv rest (i0+1) (v.cells.zipIdx.foldl (λh (c,j)=>h.setIfInBounds (i0 * sz+j) c) cv)
   (λi x r=>by
    have:=hp (i+1) x (by simpa using r);exact⟨by omega,this.2⟩) (by rw[s];exact z)
  refine⟨q,?_,r2.trans s,λo ho=>?_,λi x j r hj=>?_⟩;.have a0:v.cells.size=sz:=R;simp only[Instr.fill];rw[hG (by simp;omega)];exact r1
  .rw[S o (by rw[vbr,vb8];omega),t o,hG (by omega)]
  .cases i with|zero=>simp at r;subst r;rw[Nat.add_zero,S _ (by rw[vbr,vb8];omega),t,hU (by omega)];simp|succ i=>have:=r4 i x j (by simpa using r) hj;rwa[show i0+1+i=i0+(i+1)from by omega]at this
def Nt (h:SR P E Γ bs d w a st) {t:G} {len:Nat} {parts:V (Nat×U)} {vs:V (Nat×D)} {p:U} (hl:parts.length = vs.length)
    (hv:∀(j:Nat) p v,parts[j]? =O p->vs[j]? =O v->p.1=v.1/\VR Γ bs w p.2 v.2) (y:gV P t len parts=O p):
    ∃ v w' s,(Instr.buildSlice t len vs.toArray).run P w = .ok v w'∧SR P E s bs d w' a st∧Γ.Le w s w'∧VR s bs w' p v ∧
      (∀e,P.underlying t=O (.slice e)->kZ P s w' v e)/\∀b,v.ownBlock=O b->b=w.heap.size:=by
  unfold gV at y
  split at y
  . rename_i e ht
    split at y
    . rename_i es ab
      split at y
      . rename_i hh
        let⟨h1,h2,h3,h4,h5⟩:=hh
        cases y
        let⟨zs,hz⟩:=vaO.1 h2
        obtain⟨z,hr,rfl,i,hi,ar⟩:=wk (w:=w) hz
        have ao:z.cells.size=P.cellsOf e:=by rw[hz]at h5;simpa using h5
        let⟨g1,g2,g3⟩:=qcf parts 0 ab
        have an:parts.length=len:=by omega
        have m:∀(i:Nat) x,vs[i]? =O x->x.1=0+i/\x.2.cells.size=P.cellsOf e:=by
          intro i x R;have a3:i<parts.length:=by rw[hl];exact ax R
          let⟨k1,k2⟩:=hv i _ x (m6 a3) R;let⟨k3,k4⟩:=g3 i _ (m6 a3);have a1:i<es.length:=by omega
          rw[m6 a1]at k4;have:=(VR.cells k2 k4).1;rw[g2 i _ (m6 a1)]at this;exact⟨by rw[<-k1];exact k3,this⟩
        let S:Array D:=(Array.range (len * P.cellsOf e)).map (z.cells[·% z.cells.size]!)
        have A:S.size=len * P.cellsOf e:=by simp[S]
        let⟨n,r1,r2,r3,r4⟩:=qbv vs 0 S m (by rw[A,ve];exact vbm _ (by omega))
        have c:n.size=len * P.cellsOf e:=r2.trans A
        let⟨a8,a6⟩:=h.alloc_imm n e n.size (m7 _)
        have B:∀o,(w.alloc (.cells n e)).cell? ⟨w.heap.size,o,N⟩=n[o]?:=λo=>cell_of_row _ _ o n e _ (jl w _)
        refine⟨.slice (O ⟨w.heap.size,0,N⟩) len len,w.alloc (.cells n e),_,?_,a8,a6,?_,λe' a0=>?_,λb X=>by simp[Value.ownBlock]at X;exact X.symm⟩
        . have a7:¬ (len * P.cellsOf e > 16777216):=by omega
          by_cases r:len * P.cellsOf e=0
          . have ad:len = 0:=by
              rcases Nat.mul_eq_zero.1 r with h0|h0
              .exact h0
              .omega
            subst ad
            have hc:S=#[]:=by apply vcc;rw[A];exact r
            rw[hc]at r1
            have a9:∀f:Nat->D,(Array.range (0 * P.cellsOf e)).map f=#[]:=λf=>by simp
            simp only[Instr.buildSlice,Sem.run_bind,run_underlying ht,Result.andThen_ok,run_sizeOf w hi]
            simp only[show(2:Nat) ^ 24=16777216 from rfl,hG a7,hU r,Sem.run_bind,Result.andThen_ok,Sem.run_pure,a9]
            rw[r1]
            simp[newRow]
          . simp only [Instr.buildSlice,Sem.run_bind,run_underlying ht,Result.andThen_ok,run_sizeOf w hi]
            simp only[show(2:Nat) ^ 24=16777216 from rfl,hG a7,hG r,Sem.run_bind,hr,Result.andThen_ok,Sem.run_pure]
            rw[show((Array.range (len * P.cellsOf e)).map (z.cells[·% z.cells.size]!))=S from rfl,r1]
            simp[newRow]
        . subst h1
          refine .slice es w.heap.size 0 es.length n.size (P.cellsOf e) (λi k=>(vs.getD i (0,undef)).2.cells.getD k undef) (by omega) (m7 _) (Γ.put_same _ _) (by rw[c];omega) g2 (λi x k q R hq=>?_) (λi x k q R hq=>?_)
          all_goals
            have F:i<vs.length:=by have:=ax R;omega
            have a4:i<parts.length:=by omega
            have L:vs[i]? =O vs[i]:=m6 F
            have a5:k<P.cellsOf e:=by have:=ax hq;rw[g2 i x R]at this;exact this
            have H:k<(vs[i]).2.cells.size:=by rw[(m i _ L).2];exact a5
          . rw [B,ve]
            have:=r4 i _ k L a5
            rw[ve]at this
            rw[this]
            simp[vap,F,vaE,H]
          . obtain ⟨k1,k2⟩:=hv i _ _ (m6 a4) L
            let⟨k3,k4⟩:=g3 i _ (m6 a4)
            rw[R]at k4
            have:=(VR.cells k2 k4).2 k q ((vs[i]).2.cells[k]) hq (by simp[H])
            have a2:=this.mono a6 (.refl _)
            simpa[vap,F,vaE,H]using a2
        . have:e' = e:=by rw [ht] at a0; cases a0; rfl
          subst this
          refine⟨len,n.toList,⟨by simp[c],.inr ⟨w.heap.size,len,n,rfl,w0 _,jl w _,m7 _,?_,c,by rw[<-c,<-Array.length_toList,vaY]⟩⟩,λb X=>?_⟩
          . have:len * 1 ≤ len * P.cellsOf e':=Nat.mul_le_mul_left _ h3
            unfold maxLen;omega
          . simp [Value.ownBlock] at X
            subst X
            rw[Γ.put_same,c]
      .cases y
    .cases y
  .cases y
end
def P1:Nat:=1073741824
def DR(P:I)(t:G)(a b:List (List U)):Q U:=match P.underlying t with|some (.slice e)=>if a.length+b.length<=P1/\P.bytesOf e<=65536/\0<P.cellsOf e/\(ft P e).map (·.length)=O (P.cellsOf e)/\(∀x∈a,x.length=P.cellsOf e)/\(∀x∈b,x.length=P.cellsOf e/\∀q∈x,q.one=T)then O (.slice (a++b))else N|_=>N
section
variable{P:I}{E:BP}{Γ:ca}{bs:cF}{d:Nat->Q rI}{w:J}{a:Array D}{st:aF}
def qfA{t ty e:G}{i:TypeInfo}{z:D}{o:Nat}(L:P.underlying t=O (.slice e))(H:P.info? e=O i)(hz:i.zero=O z)
    (F:i.size=o) (a2:z.cells.size=o) (a3:0<o) {v:D} {n:Nat} {R:V D} (p:w.ownsRow 0 e o v n R)
    {x:D} {m:Nat} {h:V D} (hx:(x=.slice N 0 0/\m=0)\/∃a c,x=.slice (O a) m c/\∀(j:Nat) u,h[j]? =O u->w.cell? (a.add j)=O u)
    (hl:h.length=m * o) (h1:∀u∈h,u.oneCell'=T) (S:n+m<=maxLen) (s:(n+m) * i.bytes<=140737488355328):
    ∃ v' w',(Builtin.append_ #[t,t] ty #[v,x]).run P w = .ok v' w' ∧
      ((v'=v/\w'=w/\m=0)\/
       (∃ g b cur,v = .slice (O ⟨g,0,N⟩) n b∧w.heap[g]? = O (.cells cur e (0,0))∧cur.size = b * o∧b ≤ maxLen∧cur.toList.take (n * o) = R∧n + m ≤ b ∧
          v'=.slice (O ⟨g,0,N⟩) (n+m) b/\w'=w.setRow g (cur.toList.take (n * o)++h++cur.toList.drop (n * o+h.length)).toArray)\/
       (∃b A,n+m<=b/\b<=maxLen/\A.length=(b - (n+m)) * o/\v'=.slice (O ⟨w.heap.size,0,N⟩) (n+m) b/\w'=w.drew.alloc (.cells (R++h++A).toArray e))):=by
  subst F
  have a0:n+m<=9223372036854775807:=by simp only[maxLen]at S;omega
  rcases hx with⟨rfl,rfl⟩|⟨a,c,rfl,hnews⟩
  . refine ⟨v,w,?_,.inl ⟨rfl,rfl,rfl⟩⟩
    rcases p.2 with⟨rfl,rfl⟩|⟨g,b,cur,rfl,_,hg,hnc,hcm,hcs,htake⟩
    .simp[Builtin.append_,run_underlying L,sizeOf,typeInfo,H,Builtin.lenOf,Builtin.firstCells]
    .simp[Builtin.append_,run_underlying L,sizeOf,typeInfo,H,Builtin.lenOf,Builtin.firstCells,hnc,storeCells]
  . have y:∀ r,n + m ≤ grownCap w (n + m) r e∧grownCap w (n + m) r e ≤ maxLen∧(Builtin.zeroCells z.cells (grownCap w (n + m) r e - (n + m))).toList.length = (grownCap w (n + m) r e - (n + m)) * i.size:=fun r =>
      ⟨grownCap_ge w (n+m) r e,grownCap_le_maxLen w (n+m) r e S,by simp[size_zeroCells,a2]⟩
    rcases p.2 with⟨rfl,rfl⟩|⟨g,b,cur,rfl,_,hg,hnc,hcm,hcs,htake⟩
    . have a1:R = []:=vaw (by simpa using p.1)
      subst a1
      by_cases hm:m=0
      . subst hm
        have hn:h=[]:=vaw (by simpa using hl)
        subst hn
        refine⟨.slice N 0 0,w,?_,.inl ⟨rfl,rfl,rfl⟩⟩
        simp[Builtin.append_,run_underlying L,sizeOf,typeInfo,H,Builtin.lenOf,Builtin.firstCells,loadCells,loadCellsFrom]
      . have hr:=run_append_nil (P:=P) w t ty e i z L H hz a m c h hl hnews (by omega) (by omega) (by rw [ve] at s; omega)
        let⟨g1,g2,g3⟩:=y 0
        rw[ve]at g1 g2 g3
        refine⟨_,_,hr,.inr (.inr ⟨_,(Builtin.zeroCells z.cells (grownCap w m 0 e - m)).toList,by rw[ve];exact g1,g2,by rw[ve];exact g3,by rw[ve],?_⟩)⟩
        congr 2
        apply vbQ;simp
    . by_cases q:n + m ≤ b
      . have X:n * i.size + h.length ≤ cur.size:=by rw [hl,hcs,← vbr]; exact vbm _ q
        have hr:=run_append_room (P:=P) w t ty e i L H g n b cur hg a m c h hl hnews h1 q X
        exact⟨_,_,hr,.inr (.inl ⟨g,b,cur,rfl,hg,hcs,hcm,htake,q,rfl,rfl⟩)⟩
      . have B:∀ (j:Nat) u,R[j]? = O u→w.cell? ((⟨g,0,N⟩:Addr).add j) = O u:=p.cells (g:=g) rfl
        have hr:=run_append_grow (P:=P) w t ty e i z L H hz ⟨g,0,N⟩ n b R p.1 B a m c h hl hnews (by omega) (by omega) (growslice_fits (by omega) s)
        let⟨g1,g2,g3⟩:=y b
        refine⟨_,_,hr,.inr (.inr ⟨_,(Builtin.zeroCells z.cells (grownCap w (n+m) b e - (n+m))).toList,g1,g2,g3,rfl,?_⟩)⟩
        congr 2
        apply vbQ;simp
def qmk{sz q:Nat}(h:0<sz):q=q / sz * sz+q % sz/\q % sz<sz:=⟨by rw[vcL];exact(Nat.div_add_mod q sz).symm,Nat.mod_lt _ h⟩
def V0{n:V (V U)}{b m N c:Nat}{h:Array D}{e:G}{fr:Nat×Nat}(A:w.heap[b]? =O (.cells h e fr))(F:Γ b=O N)(L:n.length * c<=N)(p:0<c)(o:n.length<=m)
  (r:∀(i:Nat) x,n[i]? =O x->x.length=c)
  (B:∀(i:Nat) x (k:Nat) q,n[i]? =O x->x[k]? =O q->∃u,h[i * c+k]? =O u/\VR Γ bs w q u):
  VR Γ bs w (.slice n) (.slice (O ⟨b,0,none⟩) n.length m):=by
 refine .slice n b 0 m N c (λi k=>h.getD (i * c+k) undef) p o F (by omega) r (λi x k q y t=>?_) (λi x k q y t=>?_)
 all_goals
  let⟨u,s,z⟩:=B i x k q y t
  have H:h.getD (i * c+k) undef=u:=by rw[vaE,s];rfl
  rw[H]
 .rw[ve,cell_of_row w b _ h e fr A,s]
 .exact z
def qa8(h:SR P E Γ bs d w a st){e:G}{es ns:List (List U)}{v:D}(hv:VR Γ bs w (.slice es) v)(bb:0<P.cellsOf e)(a4:∀x∈es,x.length=P.cellsOf e)(b5:∀x∈ns,x.length=P.cellsOf e)
    {n:Nat} {A:List D} (a3:w.ownsRow 0 e (P.cellsOf e) v n A) (b1:∀b,v.ownBlock=O b->Γ b=O (n * P.cellsOf e)) (z:∀b,v.ownBlock=O b->d b=N/\(E.T b\/E.w.heap.size<=b))
    {news:List D} (a1:news.length=ns.length * P.cellsOf e) (bi:∀(i:Nat) x (k:Nat) q,ns[i]? =O x->x[k]? =O q->∃u,news[i * P.cellsOf e+k]? =O u/\VR Γ bs w q u) {v':D} {w':J}
    (ad:(v'=v/\w'=w/\ns.length=0)\/
       (∃ g p cur,v = .slice (O ⟨g,0,N⟩) n p∧w.heap[g]? = O (.cells cur e (0,0))∧cur.size = p * P.cellsOf e∧p ≤ maxLen∧cur.toList.take (n * P.cellsOf e) = A∧n + ns.length ≤ p ∧
          v'=.slice (O ⟨g,0,N⟩) (n+ns.length) p/\w'=w.setRow g (cur.toList.take (n * P.cellsOf e)++news++cur.toList.drop (n * P.cellsOf e+news.length)).toArray)\/
       (∃p t,n+ns.length<=p/\p<=maxLen/\t.length=(p - (n+ns.length)) * P.cellsOf e/\v'=.slice (O ⟨w.heap.size,0,N⟩) (n+ns.length) p/\w'=w.drew.alloc (.cells (A++news++t).toArray e))):
    ∃B,SR P E B bs d w' a st/\Γ.Le w B w'/\VR B bs w' (.slice (es++ns)) v'/\kZ P B w' v' e/\∀b,v'.ownBlock=O b->d b=N/\(E.T b\/E.w.heap.size<=b):=by
  have H:A.length=n * P.cellsOf e:=a3.1
  have a5:∀(i:Nat) x,es[i]? =O x->x.length=P.cellsOf e:=λi x X=>a4 x (vaK X)
  have be:es.length=n/\∀(i:Nat) x (k:Nat) q,es[i]? =O x->x[k]? =O q->∃u,A[i * P.cellsOf e+k]? =O u/\VR Γ bs w q u:=by
    rcases a3.2 with⟨rfl,rfl⟩|⟨g,p,cur,rfl,_,hg,hnc,hcm,R,htake⟩
    . cases hv
      exact⟨rfl,by simp⟩
    . cases hv with
      |sliceE a p=>exact⟨rfl,by simp⟩
      | slice es b off p n' sz vals hz0 ao hgg hn hsz hc hvv =>
        refine⟨rfl,λi x k q X hq=>⟨vals i k,?_,hvv i x k q X hq⟩⟩
        have b8:sz=P.cellsOf e:=by rw[<-hsz i x X];exact a5 i x X
        subst b8
        have a2:=hc i x k q X hq
        rw[ve,cell_of_row w g _ cur e _ hg]at a2
        rw[<-htake,vaG]
        .simpa using a2
        . have:=qjx (ax X) (show k < P.cellsOf e by have:=ax hq; rw [a5 i x X] at this; exact this)
          exact this
  let⟨ar,b0⟩:=be
  have a0:(n+ns.length) * P.cellsOf e=n * P.cellsOf e+ns.length * P.cellsOf e:=vbr _ _ _
  have fin:∀{B:ca}{w':J}{b p:Nat}{cur:Array D}{fr:Nat×Nat},w'.heap[b]? =O (.cells cur e fr)->B b=O ((n+ns.length) * P.cellsOf e)->n+ns.length<=p->
      cur.toList.take ((n+ns.length) * P.cellsOf e)=A++news->Γ.Le w B w'->VR B bs w' (.slice (es++ns)) (.slice (O ⟨b,0,N⟩) (n+ns.length) p):=by
    intro B w' b p cur fr y hg ao S F
    have hl:(es++ns).length=n+ns.length:=by rw[m3,ar]
    rw[<-hl]
    have a7:∀(o:Nat) u,(A++news)[o]? =O u->cur[o]? =O u:=by
      intro o u hu;rw[<-S]at hu;have ho:o<(n+ns.length) * P.cellsOf e:=by have:=ax hu;simp at this;omega
      rw[vaG ho]at hu;simpa using hu
    refine V0 y hg (by rw[hl];exact m7 _) bb (by omega) (λi x X=>?_) (λi x k q X hq=>?_)
    . rcases vaQ.1 (vaK X) with hm | hm
      .exact a4 x hm
      .exact b5 x hm
    . by_cases hi:i < es.length
      . rw [B2 hi] at X
        let⟨u,k1,k2⟩:=b0 i x k q X hq
        refine⟨u,a7 _ _ ?_,k2.mono F (.refl _)⟩
        rw[B2 (ax k1)];exact k1
      . rw [vav (by omega)] at X
        let⟨u,k1,k2⟩:=bi _ x k q X hq
        refine⟨u,a7 _ _ ?_,k2.mono F (.refl _)⟩
        have:i * P.cellsOf e+k=n * P.cellsOf e+((i - es.length) * P.cellsOf e+k):=by rw[<-vcC,<-vbr];congr 2;omega
        rw[vav (by omega),show i * P.cellsOf e+k - A.length=(i - es.length) * P.cellsOf e+k from by omega]
        exact k1
  rcases ad with⟨rfl,rfl,bg⟩|⟨g,p,cur,rfl,hg,R,hcm,htake,hroom,rfl,rfl⟩|⟨p,t,g1,g2,g3,rfl,rfl⟩
  . have b3:ns = []:=vaw bg
    subst b3
    exact⟨Γ,h,.refl _ _,by simpa using hv,⟨n,A,a3,b1⟩,z⟩
  .
    have b2:Γ g=O (n * P.cellsOf e):=b1 g rfl
    have a6:n * P.cellsOf e+news.length<=cur.toList.length:=by
      have bc:cur.toList.length=cur.size:=by simp
      rw[bc,R,a1,<-vbr];exact vbm _ hroom
    have r:=QH w g cur (cur.toList.take (n * P.cellsOf e)++news++cur.toList.drop (n * P.cellsOf e+news.length)).toArray e (0,0) hg
    have an:∀o,o<n * P.cellsOf e->(w.setRow g (cur.toList.take (n * P.cellsOf e)++news++cur.toList.drop (n * P.cellsOf e+news.length)).toArray).cell? ⟨g,o,N⟩=w.cell? ⟨g,o,N⟩:=by intro o ho;rw[cell_of_row _ g o _ e _ r,cell_of_row w g o cur e _ hg];simp only[vbU];rw[lW a6,hU ho];simp
    have F:Γ.Le w (Γ.put g ((n+ns.length) * P.cellsOf e)) (w.setRow g (cur.toList.take (n * P.cellsOf e)++news++cur.toList.drop (n * P.cellsOf e+news.length)).toArray):=by
      intro b m y _;by_cases s:b=g
      . subst s
        rw[b2]at y;cases y
        exact⟨_,Γ.put_same _ _,by omega,an⟩
      .exact⟨m,(Γ.put_other s).trans y,m7 _,λo _=>dQ (setRow_other w g b _ s) o⟩
    have a9:((cur.toList.take (n * P.cellsOf e)++news++cur.toList.drop (n * P.cellsOf e+news.length)).toArray).size=cur.size:=by simp only[vbX,m3,vbg,vbE,Array.length_toList]at a6 ⊢;omega
    have S:((cur.toList.take (n * P.cellsOf e)++news++cur.toList.drop (n * P.cellsOf e+news.length)).toArray).toList.take ((n+ns.length) * P.cellsOf e)=A++news:=by rw[htake,a0,<-a1,<-H,<-m3];exact vct
    have ab:=h.world (λb=>b=g) F (λb m y=>?_) rfl rfl rfl (by simp) (λb _ s=>⟨setRow_other w g b _ s,Γ.put_other s⟩) (λb y=>by subst y;exact(z b rfl).2)
      (λi b y s=>?_) (λb L hL s=>by subst s;rw[(z b rfl).1]at hL;cases hL)
    . refine ⟨_,ab,F,fin r (Γ.put_same _ _) hroom S F,⟨n + ns.length,A ++ news,⟨by rw [m3,H,a1,a0],.inr ⟨g,p,_,rfl,w0 _,r,hroom,hcm,by rw [a9,R],S⟩⟩,fun b y => ?_⟩,fun b y => ?_⟩
      .simp[Value.ownBlock]at y;subst y;exact Γ.put_same _ _
      .exact z b (by simpa[Value.ownBlock]using y)
    . by_cases s:b = g
      . subst s
        rw[Γ.put_same]at y;cases y
        refine⟨_,_,_,r,?_⟩
        rw[a9,R];exact vbm _ hroom
      . rw [Γ.put_other s] at y
        let⟨c,t',fr,k1,k2⟩:=h.wi b m y
        exact⟨c,t',fr,(setRow_other w g b _ s).trans k1,k2⟩
    . subst s
      have:=(h.bx i b (st.boxes[i]'(by rw[<-h.bl];exact ax y)) y (by simp)).1
      rw[b2]at this;cases this
  .
    have R:(A++news++t).toArray.size=p * P.cellsOf e:=by simp only[vbX,m3,H,a1,g3,<-vbr];congr 1;omega
    let⟨ab,F⟩:=h.drew.alloc_imm (A++news++t).toArray e ((n+ns.length) * P.cellsOf e) (by rw[R];exact vbm _ g1)
    have a8:Γ.Le w (Γ.put w.heap.size ((n+ns.length) * P.cellsOf e)) (w.drew.alloc (.cells (A++news++t).toArray e)):=F
    have r:(w.drew.alloc (.cells (A++news++t).toArray e)).heap[w.heap.size]? =O (.cells (A++news++t).toArray e (0,0)):=jl w.drew _
    have S:((A++news++t).toArray).toList.take ((n+ns.length) * P.cellsOf e)=A++news:=by rw[a0,<-a1,<-H,<-m3];exact vct
    refine⟨_,ab,a8,fin r (Γ.put_same _ _) g1 S a8,⟨n+ns.length,A++news,⟨by rw[m3,H,a1,a0],.inr ⟨w.heap.size,p,_,rfl,w0 _,r,g1,g2,R,S⟩⟩,λb y=>?_⟩,λb y=>?_⟩
    .simp[Value.ownBlock]at y;subst y;exact Γ.put_same _ _
    . simp [Value.ownBlock] at y; subst y
      refine⟨?_,.inr h.step.size⟩
      cases hL:d w.heap.size with
      |none=>rfl
      |some L=>exact absurd (h.on _ L hL).1 (vci _)
def qiy(h:SR P E Γ bs d w a st){t ty e:G}{es ns:List (List U)}{p:U}{v x:D}(ht:P.underlying t=O (.slice e))(hv:VR Γ bs w (.slice es) v)(s:VR Γ bs w (.slice ns) x)
  (ho:kZ P Γ w v e) (a2:∀b,v.ownBlock=O b->d b=N/\(E.T b\/E.w.heap.size<=b)) (hp:DR P t es ns=O p):
  ∃v' w' y,(Builtin.append_ #[t,t] ty #[v,x]).run P w=.ok v' w'/\SR P E y bs d w' a st/\Γ.Le w y w'/\VR y bs w' p v'/\kZ P y w' v' e/\
   ∀b,v'.ownBlock=O b->d b=N/\(E.T b\/E.w.heap.size<=b):=by
 unfold DR at hp
 rw[ht]at hp
 simp only at hp
 split at hp
 case isFalse=>cases hp
 rename_i hh
 let⟨S,an,m,a3,a4,A⟩:=hh
 cases hp
 have hz:∃zs,ft P e=O zs/\zs.length=P.cellsOf e:=by simpa using a3
 let⟨zs,hz,a3⟩:=hz
 obtain⟨z,hr,rfl,i,hi,b3⟩:=wk (w:=w) hz
 have a6:i.size=P.cellsOf e:=by simp[Program.cellsOf,hi]
 have a5:i.bytes=P.bytesOf e:=by simp[Program.bytesOf,hi]
 let⟨n,xs,F,ao⟩:=ho
 have B:∀(i:Nat) x,ns[i]? =O x->x.length=P.cellsOf e:=λi x s=>(A x (vaK s)).1
 have b5:es.length=n:=by
  rcases F.2 with⟨rfl,rfl⟩|⟨g,cap,cur,rfl,_,hg,hnc,hcm,hcs,htake⟩;.cases hv;rfl
  .cases hv<;>rfl
 have a8:∃r:List D,((x=.slice N 0 0/\ns.length=0)\/∃a c,x=.slice (O a) ns.length c/\∀(j:Nat) u,r[j]? =O u->w.cell? (a.add j)=O u)/\
   r.length=ns.length * P.cellsOf e/\(∀u∈r,u.oneCell'=T)/\
   ∀(i:Nat) x (k:Nat) q,ns[i]? =O x->x[k]? =O q->∃u,r[i * P.cellsOf e+k]? =O u/\VR Γ bs w q u:=by
  cases s with
  |sliceNil=>exact⟨[],.inl ⟨rfl,rfl⟩,by simp,by simp,by simp⟩
  |sliceE a cap=>exact⟨[],.inr ⟨a,cap,rfl,by simp⟩,by simp,by simp,by simp⟩
  | slice ns b off cap n' sz vals hz0 hcap hgg hn hsz hc hvv =>
   have a1:∀(i:Nat) x (k:Nat) q,ns[i]? =O x->x[k]? =O q->w.cell? ⟨b,off+(i * P.cellsOf e+k),N⟩=O (vals i k):=by
    intro i x k q s hq;have ad:sz=P.cellsOf e:=by rw[<-hsz i x s];exact B i x s
    subst ad;rw[<-vcC];exact hc i x k q s hq
   have X:∀o,o<ns.length * P.cellsOf e->∃x q,ns[o / P.cellsOf e]? =O x/\x[o % P.cellsOf e]? =O q/\o=o / P.cellsOf e * P.cellsOf e+o % P.cellsOf e:=by intro o ho;let⟨m1,m2⟩:=qmk (q:=o) m;have L:o / P.cellsOf e<ns.length:=(Nat.div_lt_iff_lt_mul m).2 ho;have b2:=B _ _ (m6 L);exact⟨_,_,m6 L,m6 (by rw[b2];exact m2),m1⟩
   refine⟨(List.range (ns.length * P.cellsOf e)).map λo=>vals (o / P.cellsOf e) (o % P.cellsOf e),.inr ⟨⟨b,off,N⟩,cap,rfl,λj u R=>?_⟩,by simp,λu R=>?_,λi x k q s hq=>⟨vals i k,?_,hvv i x k q s hq⟩⟩
   .rw[t8]at R
    have hj:j<ns.length * P.cellsOf e:=by
     by_cases hj:j<ns.length * P.cellsOf e;.exact hj
     .rw[va0 (by simp;omega)]at R;cases R
    rw[vbZ hj]at R
    simp only[oo,q8]at R
    subst R
    let⟨x,q,k1,k2,k3⟩:=X j hj
    have:=a1 _ _ _ _ k1 k2
    rw[<-k3]at this
    rw[Addr.add_lit];exact this
   .simp only[m8,vbG]at R
    obtain⟨o,ho,rfl⟩:=R
    let⟨x,q,k1,k2,k3⟩:=X o ho
    exact VR.one (hvv _ _ _ _ k1 k2) ((A x (vaK k1)).2 q (vaK k2))
   .have hk:k<P.cellsOf e:=by have:=ax hq;rw[B i x s]at this;exact this
    have L:=qjx (ax s) hk
    rw[t8,vbZ L]
    simp only[oo,q8]
    rw[vcL i,Nat.mul_add_div m,vc7 hk,Nat.mul_add_mod,vcG hk,Nat.add_zero]
 let⟨r,b1,a9,ar,b0⟩:=a8
 have a7:n+ns.length<=maxLen:=by unfold maxLen;unfold P1 at S;omega
 have H:(n+ns.length) * i.bytes<=140737488355328:=by rw[a5];have:(n+ns.length) * P.bytesOf e<=1073741824 * 65536:=Nat.mul_le_mul (by unfold P1 at S;omega) an;omega
 let⟨v',w',ab,a0⟩:=qfA (ty:=ty) ht hi b3 a6 (by simpa using a3) m F b1 a9 ar a7 H
 let⟨y,q⟩:=qa8 h hv m a4 (λx s=>(A x s).1) F ao a2 a9 b0 a0
 exact⟨v',w',y,ab,q⟩
def Tg(s:V UInt8):V (V U):=s.map λc=>[.int .u8 (c.toNat:Int)]
def qa9(s:V UInt8):(Tg s).length=s.length:=by simp[Tg]
def qrn:Q D->K|some (.int .u8 0)=>T|_=>Z
def qro{o:Q D}(h:qrn o=T):o=O (.int .u8 0):=by
 unfold qrn at h;split at h;.rfl
 .cases h
def J8(P:I)(t u:G)(b:List (List U))(s:List UInt8):Q U:=match P.underlying t,P.underlying u with|some (.slice e),O .string=>if b.length+s.length<=P1/\P.bytesOf e=1/\P.cellsOf e=1/\qrn ((P.info? e).bind (·.zero))=T/\(∀x∈b,x.length=1)then O (.slice (b++Tg s))else N|_,_=>N
def qdl{t u ty e:G}{i:TypeInfo}(ht:P.underlying t=O (.slice e))(hu:P.underlying u=O .string)(S:P.info? e=O i)(hz:i.zero=O (.int .u8 0))(p:i.size=1)(z:i.bytes=1)
    {v:D} {n:Nat} {x:V D} (m:w.ownsRow 0 e 1 v n x) (s:ByteArray) (y:n+s.size<=maxLen) (R:n+s.size<=140737488355328):
    ∃ v' w',(Builtin.append_ #[t,u] ty #[v,.string s]).run P w = .ok v' w' ∧
      ((v'=v/\w'=w/\s.size=0)\/
       (∃ g b cur,v = .slice (O ⟨g,0,N⟩) n b∧w.heap[g]? = O (.cells cur e (0,0))∧cur.size = b * 1∧b ≤ maxLen∧cur.toList.take (n * 1) = x∧n + s.size ≤ b ∧
          v'=.slice (O ⟨g,0,N⟩) (n+s.size) b/\w'=w.setRow g (cur.toList.take (n * 1)++Lib.strCells s++cur.toList.drop (n * 1+(Lib.strCells s).length)).toArray)\/
       (∃b q,n+s.size<=b/\b<=maxLen/\q.length=(b - (n+s.size)) * 1/\v'=.slice (O ⟨w.heap.size,0,N⟩) (n+s.size) b/\w'=w.drew.alloc (.cells (x++Lib.strCells s++q).toArray e))):=by
  have X:n+s.size<=9223372036854775807:=by simp only[maxLen]at y;omega
  have o:∀h,n+s.size<=grownCap w (n+s.size) h e/\grownCap w (n+s.size) h e<=maxLen/\(Builtin.zeroCells (Value.int .u8 0).cells (grownCap w (n+s.size) h e - (n+s.size))).toList.length=(grownCap w (n+s.size) h e - (n+s.size)) * 1:=λh=>
    ⟨grownCap_ge w (n+s.size) h e,grownCap_le_maxLen w (n+s.size) h e y,by simp[size_zeroCells,show(Value.int IntKind.u8 0).cells.size=1 from rfl]⟩
  rcases m.2 with⟨rfl,rfl⟩|⟨g,b,cur,rfl,_,hg,hnc,hcm,hcs,htake⟩
  . have a0:x = []:=vaw (by simpa using m.1)
    subst a0
    by_cases hm:s.size=0
    . refine ⟨.slice N 0 0,w,?_,.inl ⟨rfl,rfl,hm⟩⟩
      simp[Builtin.append_,run_underlying ht,run_underlying hu,sizeOf,typeInfo,S,Builtin.lenOf,Builtin.firstCells,hm]
    . have B:=run_append_nil_string (P:=P) w t u ty e i (.int .u8 0) ht hu S hz s (by omega) (by omega) (by rw [z]; omega)
      let⟨F,H,L⟩:=o 0
      rw[ve]at F H L
      refine⟨_,_,B,.inr (.inr ⟨_,(Builtin.zeroCells (Value.int .u8 0).cells (grownCap w s.size 0 e - s.size)).toList,by rw[ve];exact F,H,by rw[ve];exact L,by rw[ve],?_⟩)⟩
      congr 2
      apply vbQ;simp[Lib.strCells]
  . by_cases c:n + s.size ≤ b
    . have A:n + s.size ≤ cur.size:=by rw [hcs,vb0]; exact c
      have B:=Lib.run_append_room_string (P:=P) w t u ty e i ht hu S p g n b cur hg s c A
      refine⟨_,_,B,.inr (.inl ⟨g,b,cur,rfl,hg,hcs,hcm,htake,c,rfl,?_⟩)⟩
      rw[vb0,Lib.strCells_length]
    . have r:∀ (j:Nat) u,x[j]? = O u→w.cell? ((⟨g,0,N⟩:Addr).add j) = O u:=m.cells (g:=g) rfl
      have B:=Lib.run_append_grow_string (P:=P) w t u ty e i (.int .u8 0) ht hu S hz ⟨g,0,N⟩ n b x (by rw[p];exact m.1) r s (by omega) (by omega) (by rw[z];exact growslice_fits (by omega) (by omega))
      let⟨F,H,L⟩:=o b
      refine⟨_,_,B,.inr (.inr ⟨_,(Builtin.zeroCells (Value.int .u8 0).cells (grownCap w (n+s.size) b e - (n+s.size))).toList,F,H,L,rfl,?_⟩)⟩
      congr 2
      apply vbQ;simp
theorem qgC(h:SR P E Γ bs d w a st){t u ty e:G}{es:V (V U)}{s:V UInt8}{p:U}{v x:D}(ht:P.underlying t=O (.slice e))(hv:VR Γ bs w (.slice es) v)(B:VR Γ bs w (.str s) x)
  (ho:kZ P Γ w v e) (H:∀b,v.ownBlock=O b->d b=N/\(E.T b\/E.w.heap.size<=b)) (z:J8 P t u es s=O p):
  ∃S R o,(Builtin.append_ #[t,u] ty #[v,x]).run P w=.ok S R/\SR P E o bs d R a st/\Γ.Le w o R/\VR o bs R p S/\kZ P o R S e/\
   ∀b,S.ownBlock=O b->d b=N/\(E.T b\/E.w.heap.size<=b):=by
 unfold J8 at z
 rw[ht]at z
 cases hu:P.underlying u with
 |none=>rw[hu]at z;cases z
 |some ud=>
 rw[hu]at z
 cases ud with
 | string =>
  simp only at z
  split at z
  case isFalse=>cases z
  rename_i hh
  obtain⟨F,a3,m,a6,X⟩:=hh
  cases z
  cases B
  obtain⟨i,hi,hz⟩:=vbe.1 (qro a6)
  have a1:i.size=1:=by rw[<-m];simp[Program.cellsOf,hi]
  have a0:i.bytes=1:=by rw[<-a3];simp[Program.bytesOf,hi]
  obtain⟨n,xs,y,a4⟩:=ho
  have a7:es.length=n:=by
   rcases y.2 with⟨rfl,rfl⟩|⟨g,cap,cur,rfl,_,hg,hnc,hcm,hcs,htake⟩;.cases hv;rfl
   .cases hv<;>rfl
  have A:(ByteArray.mk s.toArray).size=s.length:=by simp[ByteArray.size]
  have L:w.ownsRow 0 e 1 v n xs:=by rw[<-m];exact y
  obtain⟨S,R,a2,r⟩:=qdl (ty:=ty) ht hu hi hz a1 a0 L (ByteArray.mk s.toArray) (by rw[A];unfold maxLen;unfold P1 at F;omega) (by rw[A];unfold P1 at F;omega)
  rw[A]at r
  have a5:(Lib.strCells (ByteArray.mk s.toArray)).length=(Tg s).length * P.cellsOf e:=by rw[Lib.strCells_length,A,qa9,m,vb0]
  obtain⟨o,q⟩:=qa8 (ns:=Tg s) h hv (by omega) (λx B=>by rw[m];exact X x B) (λx B=>by
    obtain⟨c,_,rfl⟩:=m8.1 B;rw[m];rfl) y a4 H a5 (λi x k q B hq=>by
    unfold Tg at B;rw[t8]at B;obtain⟨c,hc,rfl⟩:=vaF.1 B;have hk:k=0:=by have:=ax hq;simp at this;exact this
    subst hk;simp at hq;subst hq;refine⟨.int .u8 c.toNat,?_,.int _ _⟩;rw[m,vb0,Nat.add_zero,Lib.strCells,t8];simp[hc]) (by rw[m,qa9];exact r)
  exact⟨S,R,o,a2,q⟩
 |_=>simp at z
end
section
variable{P:I}{E:BP}{Γ:ca}{bs:cF}{c:Nat->Q rI}{w:J}{a:Array D}{st:aF}
def qlO(a b:V UInt8):((ByteArray.mk a.toArray)==(ByteArray.mk b.toArray))=(a==b):=by show(a.toArray==b.toArray)=_;simp
def qcE{d:TypeDesc}{k x:U}{n o:D}{t:K}(i:VR Γ bs w k n)(m:VR Γ bs w x o)(b:uY d k=T)(h:qgJ k x=O t):Instr.sameNow d n o=O t:=by
 unfold qgJ at h;split at h;.cases h;cases i;cases m;cases d<;>simp[uY]at b;simp only[Instr.sameNow,qlO]
 .split at h;.rename_i e;subst e;cases h;cases i;cases m;cases d<;>simp[uY]at b;simp[Instr.sameNow]
  .cases h
 .cases h
def Fr{n:TypeDesc}{k:U}{o:D}(p:VR Γ bs w k o)(d:uY n k=T):∀(e:List (U×U))(b:List MapEntry)(i:Nat){r:Q (Nat×U)},e.length=b.length->
  (∀(j:Nat) m u x,e[j]? =O (m,u)->b[j]? =O x->VR Γ bs w m x.key/\VR Γ bs w u x.val)->Qp k e i=O r->
  match r with
  |none=>Instr.findNow n o b i=O N
  |some (j,u)=>∃v x,Instr.findNow n o b i=O (O (j,v))/\VR Γ bs w u v/\i<=j/\b[j - i]? =O x/\x.val=v/\Instr.sameNow n o x.key=O T/\j - i<e.length
 |[],[],i,r,_,_,h=>by simp only[Qp,q8]at h;subst h;rfl
 |[],_::_,_,_,hl,_,_=>by simp at hl
 |_::_,[],_,_,hl,_,_=>by simp at hl
 | (m,u) :: e,x :: b,i,r,hl,hv,h => by
  let⟨s,z⟩:=hv 0 m u x rfl rfl;simp only[Qp]at h;split at h;.rename_i q;cases h;have:=qcE p s d q;exact⟨x.val,x,by simp[Instr.findNow,this],z,m7 _,by simp,rfl,this,by simp⟩
  .rename_i q;have t:=qcE p s d q;have y:=Fr p d e b (i+1) (by simpa using hl) (λj m u x A B=>hv (j+1) m u x (by simpa using A) (by simpa using B)) h;cases r with|none=>simpa[Instr.findNow,t]using y|some ju=>let⟨j,u'⟩:=ju;let⟨v,X,F,H,k3,L,R,S,k7⟩:=y;refine⟨v,X,by simpa[Instr.findNow,t]using F,H,by omega,?_,R,S,by simp;omega⟩;rw[show j - i=(j - (i+1))+1 from by omega];simpa using L
  .cases h
def VV{h:G}{e:TypeDesc}{k:U}{i:D}(d:P.underlying h=O e)(b:uY e k=T)(n:VR Γ bs w k i)(m:K):(Instr.checkKey m 10000 h i).run P w=.ok () w:=by show(Instr.checkKey m (9999+1) h i).run P w=_;rw[Instr.checkKey];cases e<;>simp[uY]at b<;>cases k<;>simp at b<;>cases n<;>simp[run_underlying d]
def qi8.modify{b:Array MapEntry}{clock j:Nat}{k v:D}(h:qi8 b clock):qi8 (b.modify j λe=>{e with key:=k,val:=v}) clock:=by
 have m:(b.modify j λe=>{e with key:=k,val:=v}).toList.map (·.born)=b.toList.map (·.born):=by
  refine vbj λi=>?_;simp only[t8,vbb,vbA];by_cases d:j=i;.subst d;rw[hU rfl];cases b[j]? <;>rfl
  .rw[hG d]
 refine⟨by rw[m];exact h.1,λx o=>?_⟩;have:x.born∈(b.modify j λe=>{e with key:=k,val:=v}).toList.map (·.born):=m8.2 ⟨x,o,rfl⟩;rw[m]at this;let⟨y,p,n⟩:=m8.1 this;rw[<-n];exact h.2 y p
def qi8.push{e:Array MapEntry}{d:Nat}{k v:D}(h:qi8 e d):qi8 (e.push {key:=k,val:=v,born:=d}) (d+1):=by
 refine⟨?_,λx i=>?_⟩;.rw[vcv,va1,vcw];refine⟨h.1,by simp,λa n b m=>?_⟩;obtain⟨y,o,rfl⟩:=m8.1 n;simp at m;subst m;have:=h.2 y o;omega
 .rw[vcv]at i;rcases vaQ.1 i with i|i;.have:=h.2 x i;omega
  .simp at i;subst i;simp
def xQ{b:Nat}{e:Array MapEntry}{d:Nat}(h:w.heap[b]? =O (.map e d)):(getObj b).run P w=.ok (.map e d) w:=by simp[getObj,Sem.run,h]
def qgW{t:G}{z:U}(h:XA P t=O z):∃v,(zeroValue t).run P w=.ok v w/\VR Γ bs w z v:=by unfold XA at h;simp only[vaF,vbe]at h;obtain⟨v,⟨i,b,d⟩,rfl⟩:=h;exact⟨v,by simp[zeroValue,run_typeInfo w b,d],.absV v⟩
def qiJ(h:SR P E Γ bs c w a st){t:G}{m k p:U}{vm vk:D}{ok:K}(hm:VR Γ bs w m vm)(X:VR Γ bs w k vk)(r:HV P t m k ok st.boxes=O p):∃v,(Instr.lookup t vm vk ok).run P w=.ok v w/\VR Γ bs w p v:=by
 unfold HV at r;split at r
 .rename_i kt e i ht;split at r
  .rename_i es kd hB A;split at r
   .rename_i y;cases hm with
    | mapr i b hi =>
     let⟨_,_,n,H,h1,h2,h3,_⟩:=h.bx i b _ hi hB;have L:=VV (P:=P) (w:=w) A y X n.toList.isEmpty;have s:(Instr.checkKey n.isEmpty 10000 kt vk).run P w=.ok () w:=by rw[show n.isEmpty=n.toList.isEmpty from by simp];exact L
     split at r
     .rename_i j u zs R;cases r;let⟨v,x,k1,k2,_⟩:=Fr X y es n.toList 0 (by simp[h2]) (λj kx u x S hx=>h3 j kx u x S (by simpa using hx)) R;refine⟨if ok then .tuple #[v,.bool T]else v,?_,?_⟩;.simp[Instr.lookup,run_underlying ht,xQ h1,s,Instr.findKey,run_underlying A,k1]
      .cases ok;.exact k2
       .refine .tuple _ _ rfl λq p' v' o d=>?_;match q,o,d with|0,o,d=>simp at o d;subst o;subst d;exact k2|1,o,d=>simp at o d;subst o;subst d;exact .bool _|q+2,o,_=>simp at o
     .rename_i z R hz;cases r;let⟨z',hr,F⟩:=qgW (Γ:=Γ) (bs:=bs) (w:=w) hz;have B:=Fr X y es n.toList 0 (by simp[h2]) (λj kx u x S hx=>h3 j kx u x S (by simpa using hx)) R;refine⟨if ok then .tuple #[z',.bool Z]else z',?_,?_⟩;.simp only at B;simp[Instr.lookup,run_underlying ht,xQ h1,s,Instr.findKey,run_underlying A,B,hr]
      .cases ok;.exact F
       .refine .tuple _ _ rfl λq p' v' o d=>?_;match q,o,d with|0,o,d=>simp at o d;subst o;subst d;exact F|1,o,d=>simp at o d;subst o;subst d;exact .bool _|q+2,o,_=>simp at o
     .cases r
   .cases r
  .cases r
 .cases r
def qiT{i:TypeDesc}{d x:D}(h:Instr.sameNow i d x=O T):Instr.sameBits 10000 x d=true:=by
 unfold Instr.sameNow at h;split at h
 .split at h;.rename_i e;subst e;simp only[q8,o5]at h;subst h;simp[Instr.sameBits]
  .cases h
 .rename_i p q;have b:(p.data==q.data)=true:=vbh h;show(q.data==p.data)=T;rw[o5]at b ⊢;exact b.symm
 .simp only[q8,o5]at h;subst h;simp[Instr.sameBits]
 .cases h
def qcn(h:SR P E Γ bs c w a st){t:G}{m k u:U}{vm vk vu:D}{H:List aJ}(hm:VR Γ bs w m vm)(hk:VR Γ bs w k vk)(hu:VR Γ bs w u vu)(R:ka P t m k u st.boxes=O H):∃w',(Instr.mapUpdate t vm vk vu).run P w=.ok () w'/\SR P E Γ bs c w' a {st with boxes:=H}/\Γ.Le w Γ w':=by
 unfold ka at R;split at R
 .rename_i kt e i ht;split at R
  .rename_i es kd hB a2;split at R
   .rename_i a1;cases hm with
    | mapr i b hi =>
     let⟨a9,ab,p,n,h1,h2,h3,h4⟩:=h.bx i b _ hi hB;have a5:=VV (P:=P) (w:=w) a2 a1 hk Z;have a0:∀o,(setObj b o).run P w=.ok () {w with heap:=w.heap.setIfInBounds b o}:=by intro o;simp[setObj,Sem.run,h1]
     have F:∀o,({w with heap:=w.heap.setIfInBounds b o}:J).heap[b]? =O o:=by intro o;simp[ab]
     have r:∀o b',b'≠b->({w with heap:=w.heap.setIfInBounds b o}:J).heap[b']? =w.heap[b']?:=by intro o b' A;exact vba (λe=>A e.symm)
     have d:∀o,Γ.Le w Γ ({w with heap:=w.heap.setIfInBounds b o}:J):=λo b' m A _=>
      ⟨m,A,m7 _,λo' _=>dQ (r o b' (λe=>by subst e;rw[a9]at A;cases A)) o'⟩
     have X:∀{o:Obj}{B:aJ},BR Γ bs ({w with heap:=w.heap.setIfInBounds b o}:J) B b->(∀cs own,B≠.cells cs own)->
       SR P E Γ bs c ({w with heap:=w.heap.setIfInBounds b o}:J) a {st with boxes:=st.boxes.set i B}:=λ{o B} hB hne=>
      h.box_write hi rfl rfl rfl (by simp) (r o) hB (λb' L hL _=>hL) h.on (λcs own he=>absurd he (hne cs own))
     split at R
     .rename_i j u0 hf;cases R;let⟨v,x,k1,k2,k3,k4,k5,k6,k7⟩:=Fr hk a1 es p.toList 0 (by simp[h2]) (λj S u x hj hx=>h3 j S u x hj (by simpa using hx)) hf;simp only[Nat.sub_zero,vbb]at k4 k7;have a4:=qiT k6;refine⟨{w with heap:=w.heap.setIfInBounds b (.map (p.modify j λe=>{e with key:=vk,val:=vu}) n)},?_,X ⟨_,n,F _,by simp[h2],λq S ux y z s=>?_,h4.modify⟩ (by simp),d _⟩;.simp[Instr.mapUpdate,run_underlying ht,xQ h1,a5,Instr.findKey,run_underlying a2,k1,k4,Instr.keyThatStays,a4,a0]
      .rw[vbA]at s;by_cases a3:q=j;.subst a3;rw[o6 k7]at z;simp[k4]at s;cases z;subst s;exact⟨hk.mono (d _) (.refl _),hu.mono (d _) (.refl _)⟩
       .rw[t7 (λe=>a3 e.symm)]at z;rw[hG (λe=>a3 e.symm)]at s;exact⟨(h3 q S ux y z s).1.mono (d _) (.refl _),(h3 q S ux y z s).2.mono (d _) (.refl _)⟩
     .rename_i hf;cases R;have a6:=Fr hk a1 es p.toList 0 (by simp[h2]) (λj S u x hj hx=>h3 j S u x hj (by simpa using hx)) hf;simp only at a6;refine⟨{w with heap:=w.heap.setIfInBounds b (.map (p.push {key:=vk,val:=vu,born:=n}) (n+1))},?_,X ⟨_,_,F _,by simp[h2],λq S ux y z s=>?_,h4.push⟩ (by simp),d _⟩;.simp[Instr.mapUpdate,run_underlying ht,xQ h1,a5,Instr.findKey,run_underlying a2,a6,a0]
      .rw[vbL]at s;by_cases a8:q=p.size;.subst a8;rw[vav (by omega),<-h2,Nat.sub_self]at z;simp at z s;obtain⟨rfl,rfl⟩:=z;subst s;exact⟨hk.mono (d _) (.refl _),hu.mono (d _) (.refl _)⟩
       .rw[hG a8]at s;have a7:q<es.length:=by rw[<-h2];exact(vao.1 s).1
        rw[B2 a7]at z;exact⟨(h3 q S ux y z s).1.mono (d _) (.refl _),(h3 q S ux y z s).2.mono (d _) (.refl _)⟩
     .cases R
   .cases R
  .cases R
 .cases R
end
section
variable{P:I}{E:BP}{Γ:ca}{bs:cF}{m:Nat->Q rI}{w:J}{a:Array D}{st:aF}
def vI(d:Nat)(f:Nat×Nat->Nat×Nat)(own:V ((Nat×Nat)×G)):V ((Nat×Nat)×G):=(cU d own).map λx=>(f x.1,x.2)
def qiO(d:Nat)(f:Nat×Nat->Nat×Nat)(m:Nat->Q rI):Nat->Q rI:=λb=>match m b with|some (.tmp t k)=>if t=d then N else O (.tmp (f (t,k)).1 (f (t,k)).2)|x=>x
def SR.setRen(h:SR P E Γ bs m w a st){d:Nat}{p:U}{v:D}(hv:VR Γ bs w p v)(f:Nat×Nat->Nat×Nat)(hd:d<a.size)
  (hf:∀t k e,((t,k),e)∈st.own->t≠d->f (t,k)=(t,k)\/∃z,f (t,k)=(d,z)/\∀u n,a[t]? =O u->sm u k=O n->kZ P Γ w n e->sm v z=O n):
  SR P E Γ bs (qiO d f m) w (a.setIfInBounds d v) {st with tmps:=st.tmps.set d p,own:=vI d f st.own}:=by
 have hs:=h.set (d:=d) (p:=p) hv
 exact{hs with
  on:=λb L B=>by
   unfold qiO at B;split at B;.rename_i t k r;exact h.on b _ r
   .exact h.on b L B
  ot:=λt' z e c=>by
   simp only[vI,m8]at c;obtain⟨⟨⟨t,k⟩,R⟩,y,c⟩:=c;simp only[Prod.mk.injEq]at c;obtain⟨c,rfl⟩:=c;let⟨y,o⟩:=eZ y;let⟨u,n,x,S,q,A⟩:=h.ot t k R y;have s:∀b,n.ownBlock=O b->qiO d f m b=O (.tmp t' z):=λb r=>by have:=A b r;simp only[qiO,this];rw[hG o,c]
   rcases hf t k R y o with H|⟨k2,H,hp⟩;.rw[H]at c;cases c;exact⟨u,n,by rw[vba (λe=>o e.symm)];exact x,S,q,s⟩
   .rw[H]at c;cases c;exact⟨v,n,by simp[hd],hp u n x S q,q,s⟩
  ob:=λi j e cs own b hB hj r=>by let⟨n,x,q,A⟩:=h.ob i j e cs own b hB hj r;exact⟨n,x,q,λX F=>by have:=A X F;simp only[qiO,this]⟩}
def SR.freeB(h:SR P E Γ bs m w a st){i j:Nat}{cs:List U}{own:List (Nat×G)}(hB:st.boxes[i]? =O (.cells cs own)):SR P E Γ bs (λb=>if m b=O (.box i j)then N else m b) w a {st with boxes:=st.boxes.set i (.cells cs (own.filter λx=>x.1 !=j))}:=by
 have o:i<bs.length:=by rw[h.bl];exact ax hB
 cases hb:bs[i]'o with
 | none =>
  have hi:bs[i]? =O N:=by rw[m6 o,hb]
  have A:∀{k:Nat}{B:aJ},k≠i->(st.boxes.set i (.cells cs (own.filter λx=>x.1 !=j)))[k]? =O B->st.boxes[k]? =O B:=by intro k B p n;rwa[t7 (λe=>p e.symm)]at n
  have r:∀{k b:Nat},bs[k]? =O (O b)->k≠i:=λp e=>by subst e;rw[hi]at p;cases p
  exact{h with
   bl:=by simp[h.bl]
   bx:=λk b B p n=>h.bx k b B p (A (r p) n)
   on:=λb L s=>by
    split at s;.cases s
    .exact h.on b L s
   ot:=λt k e he=>by let⟨u,v,H,h2,R,z⟩:=h.ot t k e he;exact⟨u,v,H,h2,R,λb d=>by rw[hG (by rw[z b d];intro S;cases S)];exact z b d⟩
   ob:=λk q e X F b n hj p=>by let⟨v,H,R,z⟩:=h.ob k q e X F b (A (r p) n) hj p;exact⟨v,H,R,λy d=>by rw[hG (by rw[z y d];intro S;cases S;exact r p rfl)];exact z y d⟩}
 | some b =>
  have hi:bs[i]? =O (O b):=by rw[m6 o,hb]
  refine h.box_write hi rfl rfl rfl rfl (λ_ _=>rfl) ?_ (λy L s r=>?_) (λy L s=>?_) (λX F he q e hq=>?_);.let⟨_,_,c,t,H,h2,R⟩:=h.bx i b _ hi hB;exact⟨c,t,H,h2,R⟩
  .rw[hG (by rw[s];intro S;cases S;exact r j rfl)];exact s
  .split at s;.cases s
   .exact h.on y L s
  .cases he;let⟨hq,a0⟩:=cK hq;let⟨v,H,R,z⟩:=h.ob i q e cs own b hB hq hi;refine⟨v,H,R,λy d=>?_⟩;rw[hG (by rw[z y d];intro S;cases S;simp at a0)];exact z y d
def SR.addOwnB(h:SR P E Γ bs m w a st){i b j:Nat}{e:G}{v:D}{s:V U}{own:V (Nat×G)}(A:bs[i]? =O (O b))(F:st.boxes[i]? =O (.cells s own))
  (hv:w.cell? ⟨b,j,N⟩=O v) (H:kZ P Γ w v e) (z:∀d,v.ownBlock=O d->m d=N/\(E.T d\/E.w.heap.size<=d)):
  SR P E Γ bs (λd=>if v.ownBlock=O d then O (.box i j)else m d) w a {st with boxes:=st.boxes.set i (.cells s ((j,e)::own))}:=by
 refine h.box_write A rfl rfl rfl rfl (λ_ _=>rfl) ?_ (λd L p a0=>?_) (λd L p=>?_) (λS R he q X r=>?_)
 .let⟨_,_,c,t,x,h2,y⟩:=h.bx i b _ A F
  exact⟨c,t,x,h2,y⟩
 .rw[hG (λo=>by have:=(z d o).1;rw[this]at p;cases p)];exact p
 .by_cases o:v.ownBlock=O d
  .exact⟨H.lt o,(z d o).2⟩
  .rw[hG o]at p;exact h.on d L p
 .cases he
  rcases oL.1 r with r|r
  .cases r
   exact⟨v,hv,H,λd n=>by rw[hU n]⟩
  .let⟨v',x,y,B⟩:=h.ob i q X s own b F r A
   refine⟨v',x,y,λd n=>?_⟩
   rw[hG (λo=>by have:=(z d o).1;rw[B d n]at this;cases this)]
   exact B d n
def SR.moveOwn(h:SR P E Γ bs m w a st){i b t k c:Nat}{e:G}{u v:D}{p:V U}{own:V (Nat×G)}(B:bs[i]? =O (O b))(z:st.boxes[i]? =O (.cells p own))
  (F:((t,k),e)∈st.own) (L:a[t]? =O u) (H:sm u k=O v) (A:w.cell? ⟨b,c,N⟩=O v):
  ∃o,SR P E Γ bs o w a {st with own:=st.own.filter λx=>x.1 !=(t,k),boxes:=st.boxes.set i (.cells p ((c,e)::own))}:=by
 let⟨R,S,q,r,y,s⟩:=h.ot t k e F
 rw[L]at q
 cases q
 rw[H]at r
 cases r
 exact⟨_,(h.freeT t k).addOwnB (i:=i) (b:=b) (j:=c) (e:=e) (v:=v) B z A y (λn d=>⟨by simp[s n d],(h.on n _ (s n d)).2⟩)⟩
def SR.moveOwns{i b t off:Nat}{u:D}{d:List U}(B:bs[i]? =O (O b))(H:a[t]? =O u):∀(L:List (Nat×G)){m:Nat->Q rI}{st:aF}{own:List (Nat×G)},SR P E Γ bs m w a st->st.boxes[i]? =O (.cells d own)->
  (∀x∈L,((t,x.1),x.2)∈st.own)->(L.map (·.1)).Nodup->(∀x∈L,∃v,sm u x.1=O v/\w.cell? ⟨b,off+x.1,N⟩=O v)->
  ∃r,SR P E Γ bs r w a ⟨st.tmps,st.boxes.set i (.cells d ((L.map λx=>(off+x.1,x.2)).reverse++own)),st.own.filter λx=>!L.any λy=>x.1==(t,y.1)⟩
 | [],m,st,own,h,hB,_,_,_ => by
  refine⟨m,?_⟩;have n:st.boxes.set i (.cells d ((([]:List (Nat×G)).map λx=>(off+x.1,x.2)).reverse++own))=st.boxes:=by
   apply vbj;intro j;by_cases F:i=j;.subst F;rw[o6 (ax hB),hB];rfl
   .rw[t7 F]
  have o:(st.own.filter λx=>!([]:List (Nat×G)).any λy=>x.1==(t,y.1))=st.own:=by apply vcW.2;intro x _;rfl
  rw[n,o];exact h
 | x :: L,m,st,own,h,hB,hm,hn,hc => by
  rw[ox,vb4]at hn;let⟨v,p,q⟩:=hc x (by simp);let⟨X,R⟩:=h.moveOwn B hB (hm x (by simp)) H p q
  let⟨s,A⟩:=SR.moveOwns B H L R (o6 (ax hB)) (λy c=>by
   refine va2.2 ⟨hm y (by simp[c]),?_⟩;simp only[bne_iff_ne,ne_eq,Prod.mk.injEq,vck];exact λe=>hn.1 (m8.2 ⟨y,c,e⟩)) hn.2 (λy c=>hc y (by simp[c]))
  refine⟨s,?_⟩;simp only[vbV,vc0]at A;have n:((x::L).map λx=>(off+x.1,x.2)).reverse++own=(L.map λx=>(off+x.1,x.2)).reverse++(off+x.1,x.2)::own:=by simp
  have o:(st.own.filter λz=>!(x::L).any λy=>z.1==(t,y.1))=st.own.filter λz=>(!L.any λy=>z.1==(t,y.1))&&(z.1 !=(t,x.1)):=by congr 1;funext z;rw[List.any_cons];cases(L.any λy=>z.1==(t,y.1))<;>cases S:(z.1==(t,x.1))<;>simp[bne,S]
  rw[n,o];exact A
end
def Ax(P:I)(a:Op)(id:Nat)(v:Operand->U)(H:List aJ):Q (U×List aJ):=
 match a with
 |.move x=>O (v x,H)
 |.assign x=>O (v x,H)
 |.pick c x y=>match v c with
  |.bool T=>O (v x,H)
  |.bool Z=>O (v y,H)
  |_=>N
 |.alloc t=>(ft P t).map λh=>(.bptr id 0,H.set id (.cells h (Yt P t)))
 |.box _ x=>(Rf (v x)).map λe=>(.bptr id 0,H.set id (.cells e []))
 |.makeMap _ N=>O (.mapr id,H.set id (.map []))
 |.build t parts=>(df P t (parts.toList.map λx=>(x.1,v x.2))).map λp=>(p,H)
 |.buildSlice t len parts=>(gV P t len (parts.toList.map λx=>(x.1,v x.2))).map λp=>(p,H)
 |.load t x=>(qU P t (v x) H).map λp=>(p,H)
 |.store t x y=>(gB P t (v x) (v y) H).map λb=>(.val undef,b)
 |.nilCheck x=>match v x with
  |.eptr e=>O (.eptr e,H)
  |.bptr i off=>O (.bptr i off,H)
  |.func (.func f) first cap=>O (.func (.func f) first cap,H)
  |_=>N
 |.binOp a n x y _=>(qb7 P a n (v x) (v y)).map λp=>(p,H)
 |.unOp a _ x=>(qxd a (v x)).map λp=>(p,H)
 |.convert s d x=>(Yn P s d (v x)).map λp=>(p,H)
 |.makeFunc fn first cap=>O (.func fn (first.toList.map v) (cap.toList.map v),H)
 |.slice t x lo hi N=>(QD P t (v x) (lo.map v) (hi.map v) N).map λp=>(p,H)
 |.fieldAddr s x f=>(lR P s (v x) f).map λp=>(p,H)
 |.field t x f=>(qgI P t (v x) f).map λp=>(p,H)
 |.indexAddr t x i=>(n9 P t (v x) (v i)).map λp=>(p,H)
 |.index t x i=>(L3 P t (v x) (v i)).map λp=>(p,H)
 |.lookup t m k ok=>(HV P t (v m) (v k) ok H).map λp=>(p,H)
 |.mapUpdate t m k x=>(ka P t (v m) (v k) (v x) H).map λb=>(.val undef,b)
 |.extract t i=>(FK (v t) i).map λp=>(p,H)
 |.call {callee:=.builtin .len,args:=⟨[x]⟩,argTypes:=⟨[t]⟩}=>(TG P t (v x) H).map λp=>(p,H)
 |.call {callee:=.builtin .max,args:=⟨x::r⟩,..}=>(Yo qlb (v x) (r.map v)).map λp=>(p,H)
 |.call {callee:=.builtin .min,args:=⟨x::r⟩,..}=>(Yo qlc (v x) (r.map v)).map λp=>(p,H)
 |_=>N
def aR:Op->K|.alloc _|.box .. |.makeMap .. =>T|_=>Z
section
variable{P:I}{E:BP}{Γ:ca}{bs:cF}{b:Nat->Q rI}{w:J}{a:Array D}{st:aF}
def qja(P:I)(E:BP)(Γ:ca)(bs:cF)(b:Nat->Q rI)(w:J)(a:Array D)(st:aF)(id:Nat)(mk:K)(s:Sem Next)(p:U)(H:V aJ):Prop:=∃r v e d c,s.run P w=.ok r e/\(r=.value v\/(r=.skip/\v=undef))/\SR P E d c b e a {st with boxes:=H}/\VR d c e p v/\ Γ.Le w d e/\(c=bs\/(mk=T/\c=bs.set id (O w.heap.size)))/\bs.Sub c
def qja.quiet(h:SR P E Γ bs b w a st){id:Nat}{mk:K}{s:Sem Next}{p:U}(e:∃v,s.run P w=.ok (.value v) w/\VR Γ bs w p v):qja P E Γ bs b w a st id mk s p st.boxes:=by let⟨v,c,d⟩:=e;exact⟨_,v,w,Γ,bs,c,.inl rfl,h,d,.refl _ _,.inl rfl,.refl _⟩
def fJ{α β:Type}{f:α->β}{x:Q α}{y:β}(h:x.map f=O y):∃z,x=O z/\f z=y:=by simpa using h
def Vt{ρ:Operand->D}{v:Operand->U}(h:∀x,VR Γ bs w (v x) (ρ x))(c:List (Nat×Operand)):(c.map λx=>(x.1,v x.2)).length=(c.map λx=>(x.1,ρ x.2)).length/\
  ∀(j:Nat) p u,(c.map λx=>(x.1,v x.2))[j]? =O p->(c.map λx=>(x.1,ρ x.2))[j]? =O u->p.1=u.1/\VR Γ bs w p.2 u.2:=by
 refine⟨by simp,λj p u d e=>?_⟩
 simp only[t8]at d e
 cases i:c[j]? with
 |none=>simp[i]at d
 |some x=>
  simp only[i,oo,q8]at d e
  subst d;subst e
  exact⟨rfl,h _⟩
def Q8{ρ:Operand->D}{v:Operand->U}(e:∀x,VR Γ bs w (v x) (ρ x))(l:List Operand)(j:Nat)(p:U)(u:D)(c:(l.map v)[j]? =O p)(d:(l.map ρ)[j]? =O u):VR Γ bs w p u:=by simp only[t8]at c d;cases h:l[j]? with|none=>simp[h]at c|some x=>simp only[h,oo,q8]at c d;subst c;subst d;exact e _
def qmJ(h:SR P E Γ bs b w a st)(L:V Deferred){o:M}{id:Nat}{p:U}{H:V aJ}(a0:aR o.op=T->bs[id]? =O N)
  (n:Ax P o.op id (opv E.GE st.tmps) st.boxes=O (p,H)):qja P E Γ bs b w a st id (aR o.op) (execOp (Act.mk a L).eval o) p H:=by
 have e:∀x,VR Γ bs w (opv E.GE st.tmps x) ((Act.mk a L).eval x):=λx=>h.opv L x
 unfold Ax at n
 split at n
 case h_1 x ho=>cases n;exact .quiet h ⟨_,by simp[execOp,ho],e x⟩
 case h_2 x ho=>cases n;exact .quiet h ⟨_,by simp[execOp,ho],e x⟩
 case h_3 c x y ho=>
  have R:=e c
  split at n
  .rename_i hb;rw[hb]at R;cases n
   generalize S:(Act.mk a L).eval c=vc at R
   cases R
   exact .quiet h ⟨_,by simp[execOp,ho,S,asBool],e x⟩
  .rename_i hb;rw[hb]at R;cases n
   generalize S:(Act.mk a L).eval c=vc at R
   cases R
   exact .quiet h ⟨_,by simp[execOp,ho,S,asBool],e y⟩
  .cases n
 case h_4 t ho=>
  let⟨zs,hz,B⟩:=fJ n
  cases B
  let⟨v,w',z,A,h3,h4,h5⟩:=qb6 h (a0 (by simp[ho,aR])) hz
  exact⟨_,v,w',Γ,_,by simp[execOp,ho,z],.inl rfl,A,h3,h5,.inr ⟨by simp[ho,aR],rfl⟩,h4⟩
 case h_5 t x ho=>
  let⟨cs,R,B⟩:=fJ n
  cases B
  let⟨v,w',z,A,h3,h4,h5⟩:=qiA (t:=t) h (a0 (by simp[ho,aR])) (e x) R
  exact⟨_,v,w',Γ,_,by simp[execOp,ho,z],.inl rfl,A,h3,h5,.inr ⟨by simp[ho,aR],rfl⟩,h4⟩
 case h_6 t ho=>
  cases n
  let⟨v,w',z,A,h3,h4,h5⟩:=qgK (t:=t) h (a0 (by simp[ho,aR]))
  exact⟨_,v,w',Γ,_,by simp[execOp,ho,z],.inl rfl,A,h3,h5,.inr ⟨by simp[ho,aR],rfl⟩,h4⟩
 case h_7 t parts ho=>
  let⟨q,F,B⟩:=fJ n
  cases B
  let⟨k1,k2⟩:=Vt e parts.toList
  let⟨v,z,A⟩:=qb8 k1 k2 F
  refine .quiet h ⟨v,?_,A⟩
  have:(parts.map λx=>(x.1,(Act.mk a L).eval x.2))=(parts.toList.map λx=>(x.1,(Act.mk a L).eval x.2)).toArray:=by apply vbQ;simp
  simp only[execOp,ho]
  rw[this]
  simp[z]
 case h_8 t len parts ho=>
  let⟨q,F,B⟩:=fJ n
  cases B
  let⟨k1,k2⟩:=Vt e parts.toList
  let⟨v,w',a1,z,A,h3,h4,_,_⟩:=Nt h k1 k2 F
  refine⟨_,v,w',a1,bs,?_,.inl rfl,A,h4,h3,.inl rfl,.refl _⟩
  have:(parts.map λx=>(x.1,(Act.mk a L).eval x.2))=(parts.toList.map λx=>(x.1,(Act.mk a L).eval x.2)).toArray:=by apply vbQ;simp
  simp only[execOp,ho]
  rw[this]
  simp[z]
 case h_9 t x ho=>
  let⟨q,F,B⟩:=fJ n
  cases B
  let⟨v,z,A⟩:=Xt h (e x) F
  exact .quiet h ⟨v,by simp[execOp,ho,z],A⟩
 case h_10 t x y ho=>
  let⟨q,F,B⟩:=fJ n
  cases B
  let⟨w',z,A,h3⟩:=qcx h (e x) (e y) F
  exact⟨.skip,undef,w',Γ,bs,by simp[execOp,ho,z],.inr ⟨rfl,rfl⟩,A,.val _,h3,.inl rfl,.refl _⟩
 case h_11 x ho=>
  have X:=e x
  split at n
  .rename_i cs R;rw[R]at X;cases n
   generalize S:(Act.mk a L).eval x=vx at X
   refine .quiet h ⟨vx,?_,X⟩
   cases X<;>simp[execOp,ho,S]
  .rename_i i a2 R;rw[R]at X;cases n
   generalize S:(Act.mk a L).eval x=vx at X
   refine .quiet h ⟨vx,?_,X⟩
   cases X;simp[execOp,ho,S]
  .rename_i f first cap R;rw[R]at X;cases n
   generalize S:(Act.mk a L).eval x=vx at X
   refine .quiet h ⟨vx,?_,X⟩
   cases X;simp[execOp,ho,S]
  .cases n
 case h_12 op a3 x y yT ho=>
  let⟨q,F,B⟩:=fJ n
  cases B
  let⟨v,z,A⟩:=qoW (P:=P) (e x) (e y) x y F
  refine .quiet h ⟨v,?_,A⟩
  simp only[execOp,ho,Sem.run_bind]at z ⊢
  rw[z];rfl
 case h_13 op a3 x ho=>
  let⟨q,F,B⟩:=fJ n
  cases B
  let⟨v,z,A⟩:=qrE (P:=P) (e x) F
  exact .quiet h ⟨v,by simp[execOp,ho,z],A⟩
 case h_14 s d x ho=>
  let⟨q,F,B⟩:=fJ n
  cases B
  let⟨v,z,A⟩:=qmF (P:=P) (e x) F
  exact .quiet h ⟨v,by simp[execOp,ho,z],A⟩
 case h_15 fn first cap ho=>
  cases n
  refine .quiet h ⟨.func fn (first.map (Act.mk a L).eval) (cap.map (Act.mk a L).eval),by simp[execOp,ho,Instr.makeFunc],.func fn _ _ _ _ (by simp) (by simp) (λi p v n S=>?_) (λi p v n S=>?_)⟩
  .exact Q8 e first.toList i p v n (by simpa using S)
  .exact Q8 e cap.toList i p v n (by simpa using S)
 case h_16 t x lo hi ho=>
  let⟨q,F,B⟩:=fJ n
  cases B
  let⟨v,z,A⟩:=qjW (P:=P) (e x) (lo:=lo.map (opv E.GE st.tmps)) (hi:=hi.map (opv E.GE st.tmps)) (vlo:=lo.map (Act.mk a L).eval) (vhi:=hi.map (Act.mk a L).eval)
   (λp n=>by cases lo<;>simp at n;subst n;exact⟨_,rfl,e _⟩) (λhn=>by cases lo<;>simp at hn ⊢) (λp n=>by cases hi<;>simp at n;subst n;exact⟨_,rfl,e _⟩) (λhn=>by cases hi<;>simp at hn ⊢) F
  exact .quiet h ⟨v,by simp[execOp,ho,z],A⟩
 case h_17 s x f ho=>
  let⟨q,F,B⟩:=fJ n
  cases B
  let⟨v,z,A⟩:=qcg (P:=P) (e x) F
  exact .quiet h ⟨v,by simp[execOp,ho,z],A⟩
 case h_18 t x f ho=>
  let⟨q,F,B⟩:=fJ n
  cases B
  let⟨v,z,A⟩:=qjS (P:=P) (e x) F
  exact .quiet h ⟨v,by simp[execOp,ho,z],A⟩
 case h_19 t x i ho=>
  let⟨q,F,B⟩:=fJ n
  cases B
  let⟨v,z,A⟩:=qci (P:=P) (e x) (e i) F
  exact .quiet h ⟨v,by simp[execOp,ho,z],A⟩
 case h_20 t x i ho=>
  let⟨q,F,B⟩:=fJ n
  cases B
  let⟨v,z,A⟩:=qjT (P:=P) (e x) (e i) F
  exact .quiet h ⟨v,by simp[execOp,ho,z],A⟩
 case h_21 t m k ok ho=>
  let⟨q,F,B⟩:=fJ n
  cases B
  let⟨v,z,A⟩:=qiJ h (e m) (e k) F
  exact .quiet h ⟨v,by simp[execOp,ho,z],A⟩
 case h_22 t m k x ho=>
  let⟨q,F,B⟩:=fJ n
  cases B
  let⟨w',z,A,h3⟩:=qcn h (e m) (e k) (e x) F
  exact⟨.skip,undef,w',Γ,bs,by simp[execOp,ho,z],.inr ⟨rfl,rfl⟩,A,.val _,h3,.inl rfl,.refl _⟩
 case h_23 t i ho=>
  let⟨q,F,B⟩:=fJ n
  cases B
  let⟨v,z,A⟩:=Vw (P:=P) (e t) F
  exact .quiet h ⟨v,by simp[execOp,ho,z],A⟩
 case h_24 x t ho=>
  let⟨q,F,B⟩:=fJ n
  cases B
  let⟨v,z,A⟩:=qo9 (ty:=o.type) h (e x) F
  exact .quiet h ⟨v,by simp[execOp,ho,resolve,invoke,builtin,z],A⟩
 case h_25 x r tys ho=>
  let⟨q,F,B⟩:=fJ n
  cases B
  let⟨v,z,A⟩:=Xr (P:=P) qmN (r.map (opv E.GE st.tmps)) (r.map (Act.mk a L).eval) _ _ (by simp) (e x) (Q8 e r) F
  exact .quiet h ⟨v,by simp[execOp,ho,resolve,invoke,builtin,Builtin.max_,z],A⟩
 case h_26 x r tys ho=>
  let⟨q,F,B⟩:=fJ n
  cases B
  let⟨v,z,A⟩:=Xr (P:=P) qmO (r.map (opv E.GE st.tmps)) (r.map (Act.mk a L).eval) _ _ (by simp) (e x) (Q8 e r) F
  exact .quiet h ⟨v,by simp[execOp,ho,resolve,invoke,builtin,Builtin.min_,z],A⟩
 case h_27=>cases n
end
def cG(a:cF)(c:Nat->Q rI)(b:Nat):Prop:=(∃i:Nat,a[i]? =O (O b))\/c b≠N
def C(P:I)(GE:V (Nat×V U))(f:FuncId)(a:V U)(n:V ((Nat×Nat)×G))(H:V aJ)(r:U)(o:V (Nat×G))(m:V aJ):Prop:=(∀b w,(callFunc f b).run P w=.ok (.enter f b) w)/\ ∀(Γ:ca)(c:cF)(d:Nat->Q rI)(w:J)(b:Array D),SR P ⟨GE,Γ,w,cG c d⟩ Γ c d w b ⟨a,H,n⟩-> Calls P f b w λe p=>∃v i h,e=.returned v/\SR P ⟨GE,Γ,w,cG c d⟩ i c h p #[v] ⟨[r],m,o.map λx=>((0,x.1),x.2)⟩
section
variable{P:I}{E:BP}{Γ:ca}{bs:cF}{c:Nat->Q rI}{w:J}{a:Array D}{st:aF}
def qsH.refl(GE:V (Nat×V U))(Γ:ca)(w:J)(b:Nat->Prop):qsH ⟨GE,Γ,w,b⟩ Γ w:=⟨rfl,rfl,rfl,m7 _,m7 _,λ_ _ _=>⟨rfl,rfl⟩,.refl _ _⟩
def qeA(d:Nat)(e c:Nat->Q rI):Nat->Q rI:=λb=>match e b with|some (.tmp _ k)=>O (.tmp d k)|_=>c b
def SR.setResult(h:SR P E Γ bs c w a st){d:Nat}{r:U}{v:D}(hd:d<a.size)(hv:VR Γ bs w r v){q:Nat->Q rI}{ro:V (Nat×G)}
  (S:∀k e,(k,e)∈ro->∃s,sm v k=O s/\kZ P Γ w s e/\∀b,s.ownBlock=O b->q b=O (.tmp 0 k))
  (m:∀b t k,q b=O (.tmp t k)->c b=N/\b<w.heap.size/\(E.T b\/E.w.heap.size<=b)):
  SR P E Γ bs (qeA d q c) w (a.setIfInBounds d v) {st with tmps:=st.tmps.set d r,own:=(ro.map λx=>((d,x.1),x.2))++cU d st.own}:=by
 have hs:=h.set (d:=d) (p:=r) hv
 have n:∀b L,c b=O L->qeA d q c b=O L:=λb L y=>by
  unfold qeA;split;.rename_i t k o;rw[(m b _ _ o).1]at y;cases y
  .exact y
 exact{hs with
  on:=λb L y=>by
   unfold qeA at y;split at y;.rename_i t k o;exact(m b _ _ o).2
   .exact h.on b L y
  ot:=λt k e z=>by
   rcases vaQ.1 z with z|z;.simp only[m8,Prod.mk.injEq]at z;obtain⟨⟨k',e'⟩,hm,⟨rfl,rfl⟩,rfl⟩:=z;let⟨s,A,F,B⟩:=S k' e' hm;refine⟨v,s,by simp[hd],A,F,λb o=>?_⟩;have:=B b o;simp[qeA,this]
   .let⟨u,s,A,F,B,H⟩:=hs.ot t k e z;exact⟨u,s,A,F,B,λb o=>n b _ (H b o)⟩
  ob:=λi j e cs own b hB hj o=>by let⟨s,A,B,H⟩:=h.ob i j e cs own b hB hj o;exact⟨s,A,B,λX R=>n X _ (H X R)⟩}
def qlP(h:SR P E Γ bs c w a st){g:FuncId}{m:List U}{r:U}{ro:List (Nat×G)}{H:Array D}{d:Nat}(hd:d<a.size)(hC:C P E.GE g m [] [] r ro [])
  (hl:H.size=m.length) (hv:∀(i:Nat) p v,m[i]? =O p->H[i]? =O v->VR Γ bs w p v) (a0:kT 0 m):
  Calls P g H w λe w'=>∃v q a3,e=.returned v/\SR P E q bs a3 w' (a.setIfInBounds d v) {st with tmps:=st.tmps.set d r,own:=(ro.map λx=>((d,x.1),x.2))++cU d st.own}/\Γ.Le w q w':=by
 have F:SR P ⟨E.GE,Γ,w,cG [] λ_=>N⟩ Γ [] (λ_=>N) w H ⟨m,[],[]⟩:={
  wi:=h.wi
  sz:=hl
  tm:=λt p v hp a2=>(hv t p v hp a2).restrict (n:=0) (xg a0 hp) (λi b z _=>absurd z (va3 _))
  bl:=rfl
  bx:=λi b B o=>by simp at o
  inj:=λi j b o=>by simp at o
  bn:=λi b o=>by simp at o
  on:=λb L hL=>by cases hL
  ot:=λt k e he=>by simp at he
  ob:=λi j e R own b hB=>by simp at hB
  gl:=λg R X=>(h.gl g R X).restrict (n:=0) (by simp only[PVal.cl];exact h.gc g R X) (λi b z _=>absurd z (va3 _))
  gc:=h.gc
  gx:=λg R X=>by let⟨k1,_,_,k4⟩:=h.gnow X;exact⟨k1,λS=>S.elim (λy=>by let⟨i,z⟩:=y;simp at z) (λy=>y rfl),k4⟩
  step:=.refl _ _ _ _}
 refine(hC.2 Γ [] (λ_=>N) w H F).mono λe w' he=>?_
 obtain⟨v,q,a4,rfl,s⟩:=he
 have S:∀b,¬cG [] (λ_=>N) b:=λb o=>by
  rcases o with⟨i,z⟩|o;.simp at z
  .exact o rfl
 have A:Γ.Le w q w':=s.step.le
 have hw:=h.world (λ_=>False) A s.wi s.step.os s.step.tape s.step.output s.step.size (λb o _=>s.step.keep b o (S b)) (λ_ y=>y.elim) (λ_ _ _ y=>y) (λ_ _ _ y=>y) s.step.drawn
 have hr:VR q bs w' r v:=(s.tm 0 r v rfl rfl).mono (.refl _ _) (λi b o=>by simp at o)
 refine⟨v,q,qeA d a4 c,rfl,hw.setResult hd hr (λk e hm=>?_) (λb t k o=>?_),A⟩
 .let⟨u,v',h1,h2,h3,h4⟩:=s.ot 0 k e (m8.2 ⟨(k,e),hm,rfl⟩)
  simp at h1;subst h1
  exact⟨v',h2,h3,h4⟩
 .let⟨k1,k2⟩:=s.on b _ o
  have a1:w.heap.size<=b:=k2.resolve_left (S b)
  refine⟨?_,k1,.inr (n3 h.step.size a1)⟩
  cases hL:c b with
  |none=>rfl
  |some L=>have:=(h.on b L hL).1;omega
end
inductive KX(ρ:List Nat):PVal->PVal->Prop where
 |refl (p:PVal) (h:p.cl 0):KX ρ p p
 |bptr (i j off:Nat) (h:ρ[i]? =some j):KX ρ (.bptr j off) (.bptr i off)
 |mapr (i j:Nat) (h:ρ[i]? =some j):KX ρ (.mapr j) (.mapr i)
 |nptr (i j:Nat) (T:TypeId) (h:ρ[i]? =some j):KX ρ (.nptr j T) (.nptr i T)
 |bsl (i j off n:Nat) (h:ρ[i]? =some j):KX ρ (.bsl j off n) (.bsl i off n)
 | func (fn:Fn) (f c f' c':List PVal) (hl:f.length = f'.length) (hl':c.length = c'.length)
   (h:∀(i:Nat) p q,f[i]? =some p->f'[i]? =some q->KX ρ p q) (h':∀(i:Nat) p q,c[i]? =some p->c'[i]? =some q->KX ρ p q):KX ρ (.func fn f c) (.func fn f' c')
 |agg (f f':List PVal) (hl:f.length=f'.length) (h:∀(i:Nat) p q,f[i]? =some p->f'[i]? =some q->KX ρ p q):KX ρ (.agg f) (.agg f')
def po(ρ:List Nat):aJ->aJ->Prop|.cells cs own,.cells cs' own'=>own=own'/\cs.length=cs'.length/\∀(i:Nat) p q,cs[i]? =O p->cs'[i]? =O q->KX ρ p q|.map es,.map es'=>es.length=es'.length/\∀(i:Nat) k u k' u',es[i]? =O (k,u)->es'[i]? =O (k',u')->KX ρ k k'/\KX ρ u u'|.dead,.dead=>True|_,_=>False
section
variable{P:I}{E:BP}{Γ:ca}{bs m:cF}{o:Nat->Q rI}{w:J}{a:Array D}{st:aF}{ρ:V Nat}
def KX.to{p q:U}(z:KX ρ p q)(r:∀(i j:Nat),ρ[i]? =O j->m[i]? =bs[j]?):∀{v:D},VR Γ bs w p v->VR Γ m w q v:=by
 induction z with
 |refl p h=>intro v d;exact d.restrict (n:=0) h λi b s _=>absurd s (va3 _)
 |bptr i j off h=>intro v d;cases d with|bptr _ _ b h'=>exact .bptr _ _ _ ((r i j h).trans h')
 |mapr i j h=>intro v d;cases d with|mapr _ b h'=>exact .mapr _ _ ((r i j h).trans h')
 |nptr i j A h=>intro v d;cases d with|nptrN _ _=>exact .nptrN _ _|nptr _ b _ h'=>exact .nptr _ _ _ ((r i j h).trans h')
 |bsl i j off n h=>intro v d;cases d with|bsl _ _ _ x cap hcap hnil hx=>exact .bsl _ _ _ x cap hcap hnil (hx.imp_right λ⟨b,t,y⟩=>⟨b,t,(r i j h).trans y⟩)
 | func fn f c f' c' hl hl' _ _ ih ih' =>
  intro v d;cases d with
  | func fn f c fs cs k k' h h' =>
   refine .func fn f' c' fs cs (by omega) (by omega) (λi p v e d=>?_) (λi p v e d=>?_);.have s:=ax e;have:=m6 (l:=f) (i:=i) (by omega);exact ih i _ p this e (h i _ v this d)
   .have s:=ax e;have:=m6 (l:=c) (i:=i) (by omega);exact ih' i _ p this e (h' i _ v this d)
 | agg f f' hl _ ih =>intro v d;cases d with|agg f fs k h=>refine .agg f' fs (by omega) (λi p v e d=>?_);have s:=ax e;have:=m6 (l:=f) (i:=i) (by omega);exact ih i _ p this e (h i _ v this d)
def KX.from{p q:U}(z:KX ρ p q)(r:∀(i j:Nat),ρ[i]? =O j->m[i]? =bs[j]?):∀{v:D},VR Γ m w q v->VR Γ bs w p v:=by
 induction z with
 |refl p h=>intro v d;exact d.restrict (n:=0) h λi b s _=>absurd s (va3 _)
 |bptr i j off h=>intro v d;cases d with|bptr _ _ b h'=>exact .bptr _ _ _ ((r i j h).symm.trans h')
 |mapr i j h=>intro v d;cases d with|mapr _ b h'=>exact .mapr _ _ ((r i j h).symm.trans h')
 |nptr i j A h=>intro v d;cases d with|nptrN _ _=>exact .nptrN _ _|nptr _ b _ h'=>exact .nptr _ _ _ ((r i j h).symm.trans h')
 |bsl i j off n h=>intro v d;cases d with|bsl _ _ _ x cap hcap hnil hx=>exact .bsl _ _ _ x cap hcap hnil (hx.imp_right λ⟨b,t,y⟩=>⟨b,t,(r i j h).symm.trans y⟩)
 | func fn f c f' c' hl hl' _ _ ih ih' =>
  intro v d;cases d with
  | func fn f' c' fs cs k k' h h' =>
   refine .func fn f c fs cs (by omega) (by omega) (λi p v e d=>?_) (λi p v e d=>?_);.have s:=ax e;have:=m6 (l:=f') (i:=i) (by omega);exact ih i p _ e this (h i _ v this d)
   .have s:=ax e;have:=m6 (l:=c') (i:=i) (by omega);exact ih' i p _ e this (h' i _ v this d)
 | agg f f' hl _ ih =>intro v d;cases d with|agg f' fs k h=>refine .agg f fs (by omega) (λi p v e d=>?_);have s:=ax e;have:=m6 (l:=f') (i:=i) (by omega);exact ih i p _ e this (h i _ v this d)
def KX.nptr_to{p:U}{i:Nat}{T:G}(h:KX ρ p (.nptr i T)):∃j,p=.nptr j T:=by cases h with|refl _ _=>exact⟨i,rfl⟩|nptr _ j _ _=>exact⟨j,rfl⟩
def KX.nptr_from{q:U}{i:Nat}{T:G}(h:KX ρ (.nptr i T) q):∃j,q=.nptr j T:=by cases h with|refl _ _=>exact⟨i,rfl⟩|nptr j _ _ _=>exact⟨j,rfl⟩
def po.to{B q:aJ}{b:Nat}(d:po ρ B q)(z:∀(i j:Nat),ρ[i]? =O j->m[i]? =bs[j]?)(h:BR Γ bs w B b):BR Γ m w q b:=by
 cases B<;>cases q<;>simp only[po]at d
 .rename_i L own S R;let⟨_,hl,d⟩:=d;let⟨c,t,r,h2,s,y⟩:=h;refine⟨c,t,r,by omega,λj p v e H=>?_,λj i a2 n=>?_⟩;.have n:=ax e;have:=m6 (l:=L) (i:=j) (by omega);exact(d j _ p this e).to z (s j _ v this H)
  .have a1:=ax n;have A:=m6 (l:=L) (i:=j) (by omega);let⟨i',F⟩:=(d j _ _ A n).nptr_to;rw[F]at A;have:=y j i' a2 A;exact⟨this.1,by omega⟩
 .rename_i X a0;let⟨hl,d⟩:=d;let⟨c,t,r,h2,s,y⟩:=h;refine⟨c,t,r,by omega,λj k u x e H=>?_,y⟩;have n:=ax e;have:=m6 (l:=X) (i:=j) (by omega);let⟨r1,r2⟩:=d j _ _ k u this e;let⟨q1,q2⟩:=s j _ _ x this H;exact⟨r1.to z q1,r2.to z q2⟩
 .trivial
def po.from{B r:aJ}{b:Nat}(d:po ρ B r)(F:∀(i j:Nat),ρ[i]? =O j->m[i]? =bs[j]?)(h:BR Γ m w r b):BR Γ bs w B b:=by
 cases B<;>cases r<;>simp only[po]at d
 .rename_i cs own e S;let⟨_,hl,d⟩:=d;let⟨c,t,y,X,z,A⟩:=h;refine⟨c,t,y,by omega,λj p v n R=>?_,λj i a1 q=>?_⟩;.have q:=ax n;have:=m6 (l:=e) (i:=j) (by omega);exact(d j p _ n this).from F (z j _ v this R)
  .have a0:=ax q;have H:=m6 (l:=e) (i:=j) (by omega);let⟨i',L⟩:=(d j _ _ q H).nptr_from;rw[L]at H;have:=A j i' a1 H;exact⟨this.1,by omega⟩
 .rename_i es s;let⟨hl,d⟩:=d;let⟨c,t,y,X,z,A⟩:=h;refine⟨c,t,y,by omega,λj k u x n R=>?_,A⟩;have q:=ax n;have:=m6 (l:=s) (i:=j) (by omega);let⟨r1,r2⟩:=d j k u _ _ n this;let⟨q1,q2⟩:=z j _ _ x this R;exact⟨r1.from F q1,r2.from F q2⟩
 .trivial
structure Ou(ρ:List Nat)(H:List aJ)(Hc:List aJ):Prop where
 len:Hc.length=ρ.length
 box:∀(i j:Nat),ρ[i]? =some j->∃B Bc,H[j]? =some B/\Hc[i]? =some Bc/\po ρ B Bc
def j7(ρ:List Nat)(Γ:ca)(o:Nat->Q rI):Nat->Q rI:=λb=>match o b with|some (.box j k)=>if(Γ b).isSome/\j∈ρ then O (.box (ρ.idxOf j) k)else N|_=>N
def JK(ρ:List Nat)(d:Nat)(c o:Nat->Q rI):Nat->Q rI:=λb=>match c b with|some (.box i k)=>O (.box (ρ.getD i 0) k)|some (.tmp _ k)=>O (.tmp d k)|none=>match o b with|some (.box j k)=>if j∈ρ then N else O (.box j k)|x=>x
def EC{ρ:V Nat}(d:ρ.Nodup){i j:Nat}(h:ρ[i]? =O j):ρ.idxOf j=i:=by
 have b:=ax h;have c:ρ[i]=j:=by rw[m6 b]at h;exact vbh h
 subst c;exact d.idxOf_getElem i b
def qjg(h:SR P E Γ bs o w a st){g:FuncId}{a3 a2:List U}{r rc:U}{ro:List (Nat×G)}{Hc bc H':List aJ}{vs:Array D}{d:Nat}(hd:d<a.size)
  (hn:ρ.Nodup) (hC:C P E.GE g a2 [] Hc rc ro bc) (hH:Ou ρ st.boxes Hc) (be:Ou ρ H' bc) (c0:H'.length=st.boxes.length) (ar:∀j:Nat,j∉ρ->H'[j]? =st.boxes[j]?)
  (hr:KX ρ r rc) (bg:a3.length=a2.length) (ha:∀(i:Nat) p q,a3[i]? =O p->a2[i]? =O q->KX ρ p q)
  (hl:vs.size=a3.length) (hv:∀(i:Nat) p v,a3[i]? =O p->vs[i]? =O v->VR Γ bs w p v):
  Calls P g vs w λe w'=>∃v ab cv,e=.returned v/\SR P E ab bs cv w' (a.setIfInBounds d v) {st with tmps:=st.tmps.set d r,boxes:=H',own:=(ro.map λx=>((d,x.1),x.2))++cU d st.own}/\Γ.Le w ab w':=by
 let m:cF:=ρ.map λj=>(bs[j]?).getD N
 have br:∀{i j:Nat},ρ[i]? =O j->j<st.boxes.length:=λ{i j} c=>by let⟨B,_,hB,_⟩:=hH.box i j c;exact ax hB
 have a8:∀(i j:Nat),ρ[i]? =O j->m[i]? =bs[j]?:=by
  intro i j c;have hj:j<bs.length:=by rw[h.bl];exact br c
  simp[m,c,m6 hj]
 have a5:∀{i b:Nat},m[i]? =O (O b)->∃j,ρ[i]? =O j/\bs[j]? =O (O b):=by
  intro i b b1;have hi:i<ρ.length:=by have:=ax b1;simpa[m]using this
  have c:ρ[i]? =O ρ[i]:=m6 hi;exact⟨_,c,(a8 i _ c).symm.trans b1⟩
 have a6:∀{b L},j7 ρ Γ o b=O L->∃j k,o b=O (.box j k)/\(Γ b).isSome/\j∈ρ/\L=.box (ρ.idxOf j) k:=by
  intro b L R;unfold j7 at R;split at R
  .rename_i j k z;split at R;.rename_i hc;cases R;exact⟨j,k,z,hc.1,hc.2,rfl⟩
   .cases R
  .cases R
 have c1:SR P ⟨E.GE,Γ,w,cG m (j7 ρ Γ o)⟩ Γ m (j7 ρ Γ o) w vs ⟨a2,Hc,[]⟩:={
  wi:=h.wi
  sz:=by simpa[bg]using hl
  tm:=λt q v hq cg=>by have ht:=ax hq;have hp:=m6 (l:=a3) (i:=t) (by rw[bg];exact ht);exact(ha t _ q hp hq).to a8 (hv t _ v hp cg)
  bl:=by simp[m,hH.len]
  bx:=λi b Bc b1 ad=>by let⟨j,c,s⟩:=a5 b1;let⟨B,c3,hB,a4,H⟩:=hH.box i j c;rw[ad]at a4;cases a4;let⟨k1,F,k3⟩:=h.bx j b B s hB;exact⟨k1,F,H.to a8 k3⟩
  inj:=λi j b hi hj=>by let⟨x,H,ci⟩:=a5 hi;let⟨y,hy,cn⟩:=a5 hj;have:=h.inj x y b ci cn;subst this;rw[<-EC hn H,EC hn hy]
  bn:=λi b z=>.inl (.inl ⟨i,z⟩)
  on:=λb L R=>by let⟨j,k,z,_⟩:=a6 R;exact⟨(h.on b _ z).1,.inl (.inr (by rw[R];simp))⟩
  ot:=λt k e he=>by simp at he
  ob:=λi k e cs own b hB hk z=>by
   let⟨j,c,s⟩:=a5 z;let⟨B,c3,a7,a4,H⟩:=hH.box i j c;rw[hB]at a4;cases a4;cases B with
   |cells cs' own'=>
    obtain⟨rfl,_,_⟩:=H;let⟨v,k1,F,k3⟩:=h.ob j k e cs' own' b a7 hk s;refine⟨v,k1,F,λb' X=>?_⟩;have hg:(Γ b').isSome:=by let⟨n,xs,_,o2⟩:=F;rw[o2 b' X];rfl
    simp only[j7,k3 b' X];rw[hU ⟨hg,vaK c⟩,EC hn c]
   |map es=>simp[po]at H
   |dead=>simp[po]at H
  gl:=λg cs hg=>(h.gl g cs hg).restrict (n:=0) (by simp only[PVal.cl];exact h.gc g cs hg) (λi b hi _=>absurd hi (va3 _))
  gc:=h.gc
  gx:=λg cs hg=>by
   let⟨k1,F,k3,k4⟩:=h.gnow hg;refine⟨k1,λhT=>?_,k4⟩;rcases hT with⟨i,hi⟩|hT;.let⟨j,_,s⟩:=a5 hi;exact F j g s rfl
   .cases R:j7 ρ Γ o g with|none=>exact hT R|some L=>let⟨j,k,bt,_⟩:=a6 R;rw[k3]at bt;cases bt
  step:=.refl _ _ _ _}
 refine(hC.2 Γ m _ w vs c1).mono λe w' he=>?_
 obtain⟨v,ab,b2,rfl,hS⟩:=he
 have ao:Γ.Le w ab w':=hS.step.le
 have b5:∀b,cG m (j7 ρ Γ o) b->E.T b\/E.w.heap.size<=b:=by
  intro b z;rcases z with⟨i,hi⟩|z;.let⟨j,_,s⟩:=a5 hi;exact h.bn j b s
  .cases R:j7 ρ Γ o b with|none=>exact absurd R z|some L=>let⟨j,k,hk,_⟩:=a6 R;exact(h.on b _ hk).2
 have a0:∀b,b<w.heap.size->¬cG m (j7 ρ Γ o) b->w'.heap[b]? =w.heap[b]?/\ab b=Γ b:=λb z hT=>hS.step.keep b z hT
 have A:∀{b L},o b=O L->(Γ b).isSome->(∀j k,L=.box j k->j∉ρ)->¬cG m (j7 ρ Γ o) b:=by
  intro b L R hg a9 hT;rcases hT with⟨i,hi⟩|hT;.let⟨j,c,s⟩:=a5 hi;let⟨B,_,hB,_⟩:=hH.box i j c;rw[(h.bx j b B s hB).1]at hg;cases hg
  .cases an:j7 ρ Γ o b with|none=>exact hT an|some L'=>let⟨j,k,hk,_,hj,_⟩:=a6 an;rw[R]at hk;cases hk;exact a9 j k rfl hj
 have a1:∀{j b:Nat},bs[j]? =O (O b)->j∉ρ->¬cG m (j7 ρ Γ o) b:=by
  intro j b s hj hT;rcases hT with⟨i,hi⟩|hT;.let⟨j',c,bq⟩:=a5 hi;have:=h.inj _ _ _ s bq;subst this;exact hj (vaK c)
  .cases an:j7 ρ Γ o b with
   |none=>exact hT an
   |some L'=>
    let⟨j',k,hk,hg,_⟩:=a6 an;have c5:j<st.boxes.length:=by rw[<-h.bl];exact ax s
    rw[(h.bx j b _ s (m6 c5)).1]at hg;cases hg
 have b3:∀{b L},o b=O L->(Γ b).isSome->(∀j k,L=.box j k->j∉ρ)->JK ρ d b2 o b=O L:=by
  intro b L R hg a9;have hT:=A R hg a9;have bb:b2 b=N:=by
   cases H:b2 b with
   |none=>rfl
   | some L' =>
    let⟨_,F⟩:=hS.on b L' H;rcases F with F|F;.exact absurd F hT
    .have:=(h.on b L R).1;exact absurd F (vcx.2 this)
  unfold JK;rw[bb];simp only[R];cases L with|tmp t k=>rfl|box j k=>simp only;rw[hG (a9 j k rfl)]
 have S:∀{v:D}{e:G}{b:Nat},kZ P Γ w v e->v.ownBlock=O b->(Γ b).isSome:=by intro v e b ho z;let⟨n,xs,_,o2⟩:=ho;rw[o2 b z];rfl
 have c8:VR ab bs w' r v:=hr.from a8 (hS.tm 0 rc v rfl rfl)
 refine⟨v,ab,JK ρ d b2 o,rfl,?_,ao⟩
 exact{
  wi:=hS.wi
  sz:=by simp[h.sz]
  tm:=λt q u hq hu=>by
   simp only[vbH]at hq;rw[vbu]at hu;by_cases bi:d=t
   .subst bi;simp only[if_true]at hq hu;split at hu
    .split at hq;.cases hu;cases hq;exact c8
     .cases hq
    .rename_i c7;exact absurd hd c7
   .simp only[bi,if_false]at hq hu;exact(h.tm t q u hq hu).mono ao (.refl _)
  bl:=by simp[h.bl,c0]
  bx:=λj b B s hB=>by
   by_cases hj:j∈ρ;.let⟨i,c⟩:=vbc.1 hj;let⟨B',Bc,a7,ad,H⟩:=be.box i j c;rw[hB]at a7;cases a7;let⟨k1,F,k3⟩:=hS.bx i b Bc ((a8 i j c).trans s) ad;exact⟨k1,F,H.from a8 k3⟩
   .have b0:st.boxes[j]? =O B:=(ar j hj).symm.trans hB;let⟨k1,F,k3⟩:=h.bx j b B s b0;let⟨q1,q2⟩:=a0 b F (a1 s hj);exact⟨q2.trans k1,vaT F hS.step.size,k3.mono ao (.refl _) q1⟩
  inj:=h.inj
  bn:=h.bn
  on:=λb L R=>by
   unfold JK at R;split at R;.rename_i i k z;let⟨k1,F⟩:=hS.on b _ z;exact⟨k1,F.elim (b5 b) (λH=>.inr (n3 h.step.size H))⟩
   .rename_i t k z;let⟨k1,F⟩:=hS.on b _ z;exact⟨k1,F.elim (b5 b) (λH=>.inr (n3 h.step.size H))⟩
   .have c2:=hS.step.size;split at R;.rename_i j k z;exact⟨vaT (h.on b _ z).1 c2,(h.on b _ z).2⟩
    .exact⟨vaT (h.on b _ R).1 c2,(h.on b _ R).2⟩
  ot:=λt k e he=>by
   rcases vaQ.1 he with he|he;.simp only[m8,Prod.mk.injEq]at he;obtain⟨⟨k',e'⟩,hm,⟨rfl,rfl⟩,rfl⟩:=he;let⟨u,v',h1,h2,h3,h4⟩:=hS.ot 0 k' e' (m8.2 ⟨(k',e'),hm,rfl⟩);simp at h1;subst h1;refine⟨v,v',by simp[hd],h2,h3,λb z=>?_⟩;simp only[JK,h4 b z]
   .let⟨he,c9⟩:=eZ he;let⟨u,v',h1,h2,h3,h4⟩:=h.ot t k e he;have hq:∀b,v'.ownBlock=O b->¬cG m (j7 ρ Γ o) b:=λb z=>A (h4 b z) (S h3 z) (λj k H=>by cases H);exact⟨u,v',by rw[vba (λe=>c9 e.symm)];exact h1,h2,h3.same λb z=>a0 b (h3.lt z) (hq b z),λb z=>b3 (h4 b z) (S h3 z) (λj k H=>by cases H)⟩
  ob:=λj k e cs own b hB hk s=>by
   by_cases hj:j∈ρ
   .let⟨i,c⟩:=vbc.1 hj;let⟨B',Bc,a7,ad,H⟩:=be.box i j c;rw[hB]at a7;cases a7;cases Bc with
    |cells cs' own'=>
     obtain⟨rfl,_,_⟩:=H;let⟨v',k1,F,k3⟩:=hS.ob i k e cs' own b ad hk ((a8 i j c).trans s);refine⟨v',k1,F,λb' X=>?_⟩;have c4:ρ.getD i 0=j:=by rw[vap,c];rfl
     simp only[JK,k3 b' X,c4]
    |map es=>simp[po]at H
    |dead=>simp[po]at H
   .have b0:st.boxes[j]? =O (.cells cs own):=(ar j hj).symm.trans hB;let⟨v',k1,F,k3⟩:=h.ob j k e cs own b b0 hk s;let⟨_,b8,_⟩:=h.bx j b _ s b0;have a9:∀j' k',rI.box j k=.box j' k'->j'∉ρ:=λj' k' H=>by cases H;exact hj
    exact⟨v',(dQ (a0 b b8 (a1 s hj)).1 k).trans k1,F.same λb' X=>a0 b' (F.lt X) (A (k3 b' X) (S F X) a9),λb' X=>b3 (k3 b' X) (S F X) a9⟩
  gl:=λg cs hg=>(h.gl g cs hg).mono ao (.refl _)
  gc:=h.gc
  gx:=h.gx
  step:={
   os:=hS.step.os.trans h.step.os
   tape:=hS.step.tape.trans h.step.tape
   output:=hS.step.output.trans h.step.output
   size:=n3 h.step.size hS.step.size
   drawn:=n3 h.step.drawn hS.step.drawn
   keep:=λb z hT=>by have b8:b<w.heap.size:=vaT z h.step.size;have c6:¬cG m (j7 ρ Γ o) b:=λH=>(b5 b H).elim hT (λH=>absurd H (vcx.2 z));let⟨k1,F⟩:=h.step.keep b z hT;let⟨q1,q2⟩:=a0 b b8 c6;exact⟨q1.trans k1,q2.trans F⟩
   le:=h.step.le.trans ao}}
end
end Go.Proofs.YtibglelmlnfojaaGreatDoor
