/- PROVED: a part of the proof. Conditions: none. -/
import Derived.Test.YtankopenjcbeeaaGreatDoorPkO1
import Derived.Lib.AppendStr
set_option linter.unusedSimpArgs false set_option linter.defProp false
set_option linter.unusedVariables false
noncomputable section
namespace Go.Proofs.YtankopenjcbeeaaGreatDoor
open Go
open Option renaming some→O,none→N
open Go renaming TypeId→G,Value→D,Program→I,Oper→M,World→J,Code→W
open Bool renaming true→T,false→Z
open Decidable renaming decide→Y
open YtankopenjcbeeaaGreatDoor renaming PVal→U
section
variable{P:I}{E:qy}{Γ:aS}{bs:bC}{d:Nat->Q kg}{w:J}{a:Array D}{st:az}
def Wd{sz:Nat}:∀(b:List (Nat×U))(k:Nat){m:List (List U)},Li sz k b=O m->
  m.length=b.length/\(∀(i:Nat) e,m[i]? =O e->e.length=sz)/\∀(i:Nat) x,b[i]? =O x->x.1=k+i/\bF x.2=m[i]?
 |[],k,m,h=>by simp only[Li,FS]at h;subst h;exact⟨rfl,by simp,by simp⟩
 | (i,v) :: rest,k,m,h => by
  simp only[Li]at h;split at h
  .rename_i F r p A;split at h
   .rename_i z;obtain⟨rfl,o⟩:=z;cases h;let⟨s,t,y⟩:=Wd rest (i+1) A;refine⟨by simp[s],λj e c=>?_,λj x c=>?_⟩;.cases j with|zero=>simp at c;subst c;exact o|succ j=>exact t j e (by simpa using c)
    .cases j with|zero=>simp at c;subst c;simp[p]|succ j=>let⟨B,q⟩:=y j x (by simpa using c);exact⟨by omega,by simpa using q⟩
   .cases h
  .cases h
theorem Vr{sz:Nat}:∀(b:V (Nat×D))(k:Nat)(cv:Array D),(∀(i:Nat) x,b[i]? =O x->x.1=k+i/\x.2.cells.size=sz)->(k+b.length) * sz<=cv.size->
  ∃r,Instr.fill (λi=>O (i * sz,sz)) cv b=O r/\r.size=cv.size/\(∀(o:Nat),o<k * sz->r[o]? =cv[o]?)/\
   ∀(i:Nat) x (j:Nat),b[i]? =O x->j<sz->r[(k+i) * sz+j]? =x.2.cells[j]?
 |[],k,cv,_,_=>⟨cv,rfl,rfl,λ_ _=>rfl,by simp⟩
 | (i0,v) :: rest,k,cv,hp,hl => by
  obtain⟨R,S⟩:=hp 0 (i0,v) rfl;simp only[Nat.add_zero]at R;subst R;simp only[p6]at hl;have A:(i0+1+rest.length) * sz<=cv.size:=by rw[show i0+1+rest.length=i0+(rest.length+1)from by omega];exact hl
  have z:(i0+1) * sz<=(i0+1+rest.length) * sz:=vbe sz (by omega);rw[vbg i0 1,vcg]at z
  have q:∀(l:V D)(m:Nat)(cv:Array D),i0 * sz+m+l.length<=cv.size->
    ((l.zipIdx m).foldl (λh (c,j)=>h.setIfInBounds (i0 * sz+j) c) cv).size=cv.size/\
    ∀o,((l.zipIdx m).foldl (λh (c,j)=>h.setIfInBounds (i0 * sz+j) c) cv)[o]? =if i0 * sz+m<=o/\o<i0 * sz+m+l.length then l[o - (i0 * sz+m)]? else cv[o]?:=by
   intro l
   induction l with
   |nil=>intro m cv _;refine⟨by simp,λo=>?_⟩;rw[hG (by simp)];simp
   | cons u l ih =>
    intro m cv B
    simp only[p6]at B
    simp only[List.zipIdx_cons,List.foldl_cons]
    obtain⟨e1,e2⟩:=ih (m+1) (cv.setIfInBounds (i0 * sz+m) u) (by simp;omega)
    refine⟨by rw[e1];simp,λo=>?_⟩
    rw[e2 o]
    simp only[p6]
    by_cases H:o=i0 * sz+m
    .subst H
     rw[hG (by omega),l7 (by omega)]
     have a4:i0 * sz+m<cv.size:=by omega
     simp[a4]
    .have F:(cv.setIfInBounds (i0 * sz+m) u)[o]? =cv[o]?:=vaI (λe=>H e.symm)
     rw[F]
     by_cases L:i0 * sz+(m+1)<=o/\o<i0 * sz+(m+1)+l.length
     .rw[l7 L,l7 (by omega),show o - (i0 * sz+m)=(o - (i0 * sz+(m+1)))+1 from by omega];simp
     .rw[hG L,hG (by omega)]
  have a1:v.cells.toList.length=sz:=by simpa using S
  obtain⟨t,y⟩:=q v.cells.toList 0 cv (by omega);have p:(v.cells.zipIdx.foldl (λh (c,j)=>h.setIfInBounds (i0 * sz+j) c) cv)=(v.cells.toList.zipIdx.foldl (λh (c,j)=>h.setIfInBounds (i0 * sz+j) c) cv):=by rw[<-vcn];simp only[vci]
  rw[<-p]at t y
  obtain⟨r,r1,r2,X,r4⟩:=Vr rest (i0+1) (v.cells.zipIdx.foldl (λh (c,j)=>h.setIfInBounds (i0 * sz+j) c) cv)
   (λi x s=>by
    have:=hp (i+1) x (by simpa using s);exact⟨by omega,this.2⟩) (by rw[t];exact A)
  refine⟨r,?_,r2.trans t,λo ho=>?_,λi x j s hj=>?_⟩;.have a0:v.cells.size=sz:=S;simp only[Instr.fill];rw[hG (by simp;omega)];exact r1
  .rw[X o (by rw[vbg,vcg];omega),y o,hG (by omega)]
  .cases i with|zero=>simp at s;subst s;rw[Nat.add_zero,X _ (by rw[vbg,vcg];omega),y,l7 (by omega)];simp|succ i=>have:=r4 i x j (by simpa using s) hj;rwa[show i0+1+i=i0+(i+1)from by omega]at this
def Ji (h:SR P E Γ bs d w a st) {t:G} {len:Nat} {parts:V (Nat×U)} {vs:V (Nat×D)} {p:U} (hl:parts.length = vs.length)
    (hv:∀(j:Nat) p v,parts[j]? =O p->vs[j]? =O v->p.1=v.1/\VR Γ bs w p.2 v.2) (A:gu P t len parts=O p):
    ∃ v w' y,(Instr.buildSlice t len vs.toArray).run P w = .ok v w'∧SR P E y bs d w' a st∧Γ.Le w y w'∧VR y bs w' p v ∧
      (∀e,P.underlying t=O (.slice e)->eI P y w' v e)/\∀b,v.ownBlock=O b->b=w.heap.size:=by
  unfold gu at A
  split at A
  . rename_i e ht
    split at A
    . rename_i es ab
      split at A
      . rename_i hh
        let⟨h1,h2,h3,h4,h5⟩:=hh
        cases A
        let⟨zs,hz⟩:=vaS.1 h2
        obtain⟨z,hr,rfl,i,hi,ar⟩:=mR (w:=w) hz
        have ao:z.cells.size=P.cellsOf e:=by rw[hz]at h5;simpa using h5
        let⟨g1,g2,g3⟩:=Wd parts 0 ab
        have an:parts.length=len:=by omega
        have m:∀(i:Nat) x,vs[i]? =O x->x.1=0+i/\x.2.cells.size=P.cellsOf e:=by
          intro i x S;have a3:i<parts.length:=by rw[hl];exact aq S
          let⟨k1,k2⟩:=hv i _ x (m3 a3) S;let⟨k3,k4⟩:=g3 i _ (m3 a3);have a1:i<es.length:=by omega
          rw[m3 a1]at k4;have:=(VR.cells k2 k4).1;rw[g2 i _ (m3 a1)]at this;exact⟨by rw[<-k1];exact k3,this⟩
        let X:Array D:=(Array.range (len * P.cellsOf e)).map (z.cells[·% z.cells.size]!)
        have B:X.size=len * P.cellsOf e:=by simp[X]
        let⟨r,r1,r2,r3,r4⟩:=Vr vs 0 X m (by rw[B,s7];exact vbe _ (by omega))
        have c:r.size=len * P.cellsOf e:=r2.trans B
        let⟨a8,a6⟩:=h.alloc_imm r e r.size (l8 _)
        have F:∀o,(w.alloc (.cells r e)).cell? ⟨w.heap.size,o,N⟩=r[o]?:=λo=>cell_of_row _ _ o r e _ (gI w _)
        refine⟨.slice (O ⟨w.heap.size,0,N⟩) len len,w.alloc (.cells r e),_,?_,a8,a6,?_,λe' a0=>?_,λb hb=>by simp[Value.ownBlock]at hb;exact hb.symm⟩
        . have a7:¬ (len * P.cellsOf e > 16777216):=by omega
          by_cases s:len * P.cellsOf e=0
          . have ad:len = 0:=by
              rcases Nat.mul_eq_zero.1 s with h0|h0
              .exact h0
              .omega
            subst ad
            have hc:X=#[]:=by apply vbd;rw[B];exact s
            rw[hc]at r1
            have a9:∀f:Nat->D,(Array.range (0 * P.cellsOf e)).map f=#[]:=λf=>by simp
            simp only[Instr.buildSlice,Sem.run_bind,run_underlying ht,Result.andThen_ok,run_sizeOf w hi]
            simp only[show(2:Nat) ^ 24=16777216 from rfl,hG a7,l7 s,Sem.run_bind,Result.andThen_ok,Sem.run_pure,a9]
            rw[r1]
            simp[newRow]
          . simp only [Instr.buildSlice,Sem.run_bind,run_underlying ht,Result.andThen_ok,run_sizeOf w hi]
            simp only[show(2:Nat) ^ 24=16777216 from rfl,hG a7,hG s,Sem.run_bind,hr,Result.andThen_ok,Sem.run_pure]
            rw[show((Array.range (len * P.cellsOf e)).map (z.cells[·% z.cells.size]!))=X from rfl,r1]
            simp[newRow]
        . subst h1
          refine .slice es w.heap.size 0 es.length r.size (P.cellsOf e) (λi k=>(vs.getD i (0,undef)).2.cells.getD k undef) (by omega) (l8 _) (Γ.put_same _ _) (by rw[c];omega) g2 (λi x k q S hq=>?_) (λi x k q S hq=>?_)
          all_goals
            have H:i<vs.length:=by have:=aq S;omega
            have a4:i<parts.length:=by omega
            have R:vs[i]? =O vs[i]:=m3 H
            have a5:k<P.cellsOf e:=by have:=aq hq;rw[g2 i x S]at this;exact this
            have L:k<(vs[i]).2.cells.size:=by rw[(m i _ R).2];exact a5
          . rw [F,s7]
            have:=r4 i _ k R a5
            rw[s7]at this
            rw[this]
            simp[vav,H,vaG,L]
          . obtain ⟨k1,k2⟩:=hv i _ _ (m3 a4) R
            let⟨k3,k4⟩:=g3 i _ (m3 a4)
            rw[S]at k4
            have:=(VR.cells k2 k4).2 k q ((vs[i]).2.cells[k]) hq (by simp[L])
            have a2:=this.mono a6 (.refl _)
            simpa[vav,H,vaG,L]using a2
        . have:e' = e:=by rw [ht] at a0; cases a0; rfl
          subst this
          refine⟨len,r.toList,⟨by simp[c],.inr ⟨w.heap.size,len,r,rfl,s5 _,gI w _,l8 _,?_,c,by rw[<-c,<-Array.length_toList,vaR]⟩⟩,λb hb=>?_⟩
          . have:len * 1 ≤ len * P.cellsOf e':=Nat.mul_le_mul_left _ h3
            unfold maxLen;omega
          . simp [Value.ownBlock] at hb
            subst hb
            rw[Γ.put_same,c]
      .cases A
    .cases A
  .cases A
end
def bO:Nat:=1073741824
def ji(P:I)(t:G)(a b:V (V U)):Q U:=match P.underlying t with|some (.slice e)=>if a.length+b.length<=bO/\P.bytesOf e<=65536/\0<P.cellsOf e/\(eR P e).map (·.length)=O (P.cellsOf e)/\(∀x∈a,x.length=P.cellsOf e)/\(∀x∈b,x.length=P.cellsOf e/\∀q∈x,q.one=T)then O (.slice (a++b))else N|_=>N
section
variable{P:I}{E:qy}{Γ:aS}{bs:bC}{d:Nat->Q kg}{w:J}{a:Array D}{st:az}
def Pw{t ty e:G}{i:TypeInfo}{z:D}{size:Nat}(H:P.underlying t=O (.slice e))(F:P.info? e=O i)(hz:i.zero=O z)
    (B:i.size=size) (a2:z.cells.size=size) (a3:0<size) {v:D} {n:Nat} {L:V D} (o:w.ownsRow 0 e size v n L)
    {x:D} {m:Nat} {h:V D} (hx:(x=.slice N 0 0/\m=0)\/∃a c,x=.slice (O a) m c/\∀(j:Nat) u,h[j]? =O u->w.cell? (a.add j)=O u)
    (X:h.length=m * size) (h1:∀u∈h,u.oneCell'=T) (R:n+m<=maxLen) (r:(n+m) * i.bytes<=140737488355328):
    ∃ v' w',(Builtin.append_ #[t,t] ty #[v,x]).run P w = .ok v' w' ∧
      ((v'=v/\w'=w/\m=0)\/
       (∃ g b cur,v = .slice (O ⟨g,0,N⟩) n b∧w.heap[g]? = O (.cells cur e (0,0))∧cur.size = b * size∧b ≤ maxLen∧cur.toList.take (n * size) = L∧n + m ≤ b ∧
          v'=.slice (O ⟨g,0,N⟩) (n+m) b/\w'=w.setRow g (cur.toList.take (n * size)++h++cur.toList.drop (n * size+h.length)).toArray)\/
       (∃b y,n+m<=b/\b<=maxLen/\y.length=(b - (n+m)) * size/\v'=.slice (O ⟨w.heap.size,0,N⟩) (n+m) b/\w'=w.drew.alloc (.cells (L++h++y).toArray e))):=by
  subst B
  have a0:n+m<=9223372036854775807:=by simp only[maxLen]at R;omega
  rcases hx with⟨rfl,rfl⟩|⟨a,c,rfl,hnews⟩
  . refine ⟨v,w,?_,.inl ⟨rfl,rfl,rfl⟩⟩
    rcases o.2 with⟨rfl,rfl⟩|⟨g,b,cur,rfl,_,hg,hnc,hcm,hcs,htake⟩
    .simp[Builtin.append_,run_underlying H,sizeOf,typeInfo,F,Builtin.lenOf,Builtin.firstCells]
    .simp[Builtin.append_,run_underlying H,sizeOf,typeInfo,F,Builtin.lenOf,Builtin.firstCells,hnc,storeCells]
  . have s:∀ q,n + m ≤ grownCap w (n + m) q e∧grownCap w (n + m) q e ≤ maxLen∧(Builtin.zeroCells z.cells (grownCap w (n + m) q e - (n + m))).toList.length = (grownCap w (n + m) q e - (n + m)) * i.size:=fun q =>
      ⟨grownCap_ge w (n+m) q e,grownCap_le_maxLen w (n+m) q e R,by simp[size_zeroCells,a2]⟩
    rcases o.2 with⟨rfl,rfl⟩|⟨g,b,cur,rfl,_,hg,hnc,hcm,hcs,htake⟩
    . have a1:L = []:=IO (by simpa using o.1)
      subst a1
      by_cases hm:m=0
      . subst hm
        have hn:h=[]:=IO (by simpa using X)
        subst hn
        refine⟨.slice N 0 0,w,?_,.inl ⟨rfl,rfl,rfl⟩⟩
        simp[Builtin.append_,run_underlying H,sizeOf,typeInfo,F,Builtin.lenOf,Builtin.firstCells,loadCells,loadCellsFrom]
      . have hr:=run_append_nil (P:=P) w t ty e i z H F hz a m c h X hnews (by omega) (by omega) (by rw [s7] at r; omega)
        let⟨g1,g2,g3⟩:=s 0
        rw[s7]at g1 g2 g3
        refine⟨_,_,hr,.inr (.inr ⟨_,(Builtin.zeroCells z.cells (grownCap w m 0 e - m)).toList,by rw[s7];exact g1,g2,by rw[s7];exact g3,by rw[s7],?_⟩)⟩
        congr 2
        apply vb0;simp
    . by_cases p:n + m ≤ b
      . have S:n * i.size + h.length ≤ cur.size:=by rw [X,hcs,← vbg]; exact vbe _ p
        have hr:=run_append_room (P:=P) w t ty e i H F g n b cur hg a m c h X hnews h1 p S
        exact⟨_,_,hr,.inr (.inl ⟨g,b,cur,rfl,hg,hcs,hcm,htake,p,rfl,rfl⟩)⟩
      . have A:∀ (j:Nat) u,L[j]? = O u→w.cell? ((⟨g,0,N⟩:Addr).add j) = O u:=o.cells (g:=g) rfl
        have hr:=run_append_grow (P:=P) w t ty e i z H F hz ⟨g,0,N⟩ n b L o.1 A a m c h X hnews (by omega) (by omega) (growslice_fits (by omega) r)
        let⟨g1,g2,g3⟩:=s b
        refine⟨_,_,hr,.inr (.inr ⟨_,(Builtin.zeroCells z.cells (grownCap w (n+m) b e - (n+m))).toList,g1,g2,g3,rfl,?_⟩)⟩
        congr 2
        apply vb0;simp
theorem RT{sz q:Nat}(h:0<sz):q=q / sz * sz+q % sz/\q % sz<sz:=⟨by rw[Nat.mul_comm];exact(Nat.div_add_mod q sz).symm,Nat.mod_lt _ h⟩
def Bp{m:V (V U)}{b h N size:Nat}{c:Array D}{e:G}{fr:Nat×Nat}(A:w.heap[b]? =O (.cells c e fr))(F:Γ b=O N)(L:m.length * size<=N)(p:0<size)(o:m.length<=h)
  (r:∀(i:Nat) x,m[i]? =O x->x.length=size)
  (B:∀(i:Nat) x (k:Nat) q,m[i]? =O x->x[k]? =O q->∃u,c[i * size+k]? =O u/\VR Γ bs w q u):
  VR Γ bs w (.slice m) (.slice (O ⟨b,0,none⟩) m.length h):=by
 refine .slice m b 0 h N size (λi k=>c.getD (i * size+k) undef) p o F (by omega) r (λi x k q y t=>?_) (λi x k q y t=>?_)
 all_goals
  let⟨u,s,z⟩:=B i x k q y t
  have H:c.getD (i * size+k) undef=u:=by rw[vaG,s];rfl
  rw[H]
 .rw[s7,cell_of_row w b _ c e fr A,s]
 .exact z
def HJ(h:SR P E Γ bs d w a st){e:G}{es ns:V (V U)}{v:D}(hv:VR Γ bs w (.slice es) v)(b5:0<P.cellsOf e)(a3:∀x∈es,x.length=P.cellsOf e)(b3:∀x∈ns,x.length=P.cellsOf e)
    {n:Nat} {xs:V D} (a2:w.ownsRow 0 e (P.cellsOf e) v n xs) (b0:∀b,v.ownBlock=O b->Γ b=O (n * P.cellsOf e)) (z:∀b,v.ownBlock=O b->d b=N/\(E.T b\/E.w.heap.size<=b))
    {news:V D} (a0:news.length=ns.length * P.cellsOf e) (be:∀(i:Nat) x (k:Nat) q,ns[i]? =O x->x[k]? =O q->∃u,news[i * P.cellsOf e+k]? =O u/\VR Γ bs w q u) {v':D} {w':J}
    (ab:(v'=v/\w'=w/\ns.length=0)\/
       (∃ g p cur,v = .slice (O ⟨g,0,N⟩) n p∧w.heap[g]? = O (.cells cur e (0,0))∧cur.size = p * P.cellsOf e∧p ≤ maxLen∧cur.toList.take (n * P.cellsOf e) = xs∧n + ns.length ≤ p ∧
          v'=.slice (O ⟨g,0,N⟩) (n+ns.length) p/\w'=w.setRow g (cur.toList.take (n * P.cellsOf e)++news++cur.toList.drop (n * P.cellsOf e+news.length)).toArray)\/
       (∃p t,n+ns.length<=p/\p<=maxLen/\t.length=(p - (n+ns.length)) * P.cellsOf e/\v'=.slice (O ⟨w.heap.size,0,N⟩) (n+ns.length) p/\w'=w.drew.alloc (.cells (xs++news++t).toArray e))):
    ∃A,SR P E A bs d w' a st/\Γ.Le w A w'/\VR A bs w' (.slice (es++ns)) v'/\eI P A w' v' e/\∀b,v'.ownBlock=O b->d b=N/\(E.T b\/E.w.heap.size<=b):=by
  have F:xs.length=n * P.cellsOf e:=a2.1
  have a4:∀(i:Nat) x,es[i]? =O x->x.length=P.cellsOf e:=λi x S=>a3 x (vaD S)
  have bb:es.length=n/\∀(i:Nat) x (k:Nat) q,es[i]? =O x->x[k]? =O q->∃u,xs[i * P.cellsOf e+k]? =O u/\VR Γ bs w q u:=by
    rcases a2.2 with⟨rfl,rfl⟩|⟨g,p,cur,rfl,_,hg,hnc,hcm,H,htake⟩
    . cases hv
      exact⟨rfl,by simp⟩
    . cases hv with
      |sliceE a p=>exact⟨rfl,by simp⟩
      | slice es b off p n' sz vals hz0 an hgg hn hsz hc hvv =>
        refine⟨rfl,λi x k q S hq=>⟨vals i k,?_,hvv i x k q S hq⟩⟩
        have b4:sz=P.cellsOf e:=by rw[<-hsz i x S];exact a4 i x S
        subst b4
        have a1:=hc i x k q S hq
        rw[s7,cell_of_row w g _ cur e _ hg]at a1
        rw[<-htake,vay]
        .simpa using a1
        . have:=RB (aq S) (show k < P.cellsOf e by have:=aq hq; rw [a4 i x S] at this; exact this)
          exact this
  let⟨ao,ar⟩:=bb
  have X:(n+ns.length) * P.cellsOf e=n * P.cellsOf e+ns.length * P.cellsOf e:=vbg _ _ _
  have fin:∀{A:aS}{w':J}{b p:Nat}{cur:Array D}{fr:Nat×Nat},w'.heap[b]? =O (.cells cur e fr)->A b=O ((n+ns.length) * P.cellsOf e)->n+ns.length<=p->
      cur.toList.take ((n+ns.length) * P.cellsOf e)=xs++news->Γ.Le w A w'->VR A bs w' (.slice (es++ns)) (.slice (O ⟨b,0,N⟩) (n+ns.length) p):=by
    intro A w' b p cur fr y hg an R B
    have hl:(es++ns).length=n+ns.length:=by rw[oo,ao]
    rw[<-hl]
    have a6:∀(o:Nat) u,(xs++news)[o]? =O u->cur[o]? =O u:=by
      intro o u hu;rw[<-R]at hu;have ho:o<(n+ns.length) * P.cellsOf e:=by have:=aq hu;simp at this;omega
      rw[vay ho]at hu;simpa using hu
    refine Bp y hg (by rw[hl];exact l8 _) b5 (by omega) (λi x S=>?_) (λi x k q S hq=>?_)
    . rcases vz.1 (vaD S) with hm | hm
      .exact a3 x hm
      .exact b3 x hm
    . by_cases hi:i < es.length
      . rw [B2 hi] at S
        let⟨u,k1,k2⟩:=ar i x k q S hq
        refine⟨u,a6 _ _ ?_,k2.mono B (.refl _)⟩
        rw[B2 (aq k1)];exact k1
      . rw [Lf (by omega)] at S
        let⟨u,k1,k2⟩:=be _ x k q S hq
        refine⟨u,a6 _ _ ?_,k2.mono B (.refl _)⟩
        have:i * P.cellsOf e+k=n * P.cellsOf e+((i - es.length) * P.cellsOf e+k):=by rw[<-vcB,<-vbg];congr 2;omega
        rw[Lf (by omega),show i * P.cellsOf e+k - xs.length=(i - es.length) * P.cellsOf e+k from by omega]
        exact k1
  rcases ab with⟨rfl,rfl,bc⟩|⟨g,p,cur,rfl,hg,H,hcm,htake,hroom,rfl,rfl⟩|⟨p,t,g1,g2,g3,rfl,rfl⟩
  . have b2:ns = []:=IO bc
    subst b2
    exact⟨Γ,h,.refl _ _,by simpa using hv,⟨n,xs,a2,b0⟩,z⟩
  .
    have b1:Γ g=O (n * P.cellsOf e):=b0 g rfl
    have a5:n * P.cellsOf e+news.length<=cur.toList.length:=by
      have b7:cur.toList.length=cur.size:=by simp
      rw[b7,H,a0,<-vbg];exact vbe _ hroom
    have r:=Ey w g cur (cur.toList.take (n * P.cellsOf e)++news++cur.toList.drop (n * P.cellsOf e+news.length)).toArray e (0,0) hg
    have ad:∀o,o<n * P.cellsOf e->(w.setRow g (cur.toList.take (n * P.cellsOf e)++news++cur.toList.drop (n * P.cellsOf e+news.length)).toArray).cell? ⟨g,o,N⟩=w.cell? ⟨g,o,N⟩:=by intro o ho;rw[cell_of_row _ g o _ e _ r,cell_of_row w g o cur e _ hg];simp only[vbz];rw[lz a5,l7 ho];simp
    have B:Γ.Le w (Γ.put g ((n+ns.length) * P.cellsOf e)) (w.setRow g (cur.toList.take (n * P.cellsOf e)++news++cur.toList.drop (n * P.cellsOf e+news.length)).toArray):=by
      intro b m y _;by_cases s:b=g
      . subst s
        rw[b1]at y;cases y
        exact⟨_,Γ.put_same _ _,by omega,ad⟩
      .exact⟨m,(Γ.put_other s).trans y,l8 _,λo _=>bE (setRow_other w g b _ s) o⟩
    have a8:((cur.toList.take (n * P.cellsOf e)++news++cur.toList.drop (n * P.cellsOf e+news.length)).toArray).size=cur.size:=by simp only[vbZ,oo,vbb,vbC,Array.length_toList]at a5 ⊢;omega
    have R:((cur.toList.take (n * P.cellsOf e)++news++cur.toList.drop (n * P.cellsOf e+news.length)).toArray).toList.take ((n+ns.length) * P.cellsOf e)=xs++news:=by rw[htake,X,<-a0,<-F,<-oo];exact vcs
    have a9:=h.world (λb=>b=g) B (λb m y=>?_) rfl rfl rfl (by simp) (λb _ s=>⟨setRow_other w g b _ s,Γ.put_other s⟩) (λb y=>by subst y;exact(z b rfl).2)
      (λi b y s=>?_) (λb L hL s=>by subst s;rw[(z b rfl).1]at hL;cases hL)
    . refine ⟨_,a9,B,fin r (Γ.put_same _ _) hroom R B,⟨n + ns.length,xs ++ news,⟨by rw [oo,F,a0,X],.inr ⟨g,p,_,rfl,s5 _,r,hroom,hcm,by rw [a8,H],R⟩⟩,fun b y => ?_⟩,fun b y => ?_⟩
      .simp[Value.ownBlock]at y;subst y;exact Γ.put_same _ _
      .exact z b (by simpa[Value.ownBlock]using y)
    . by_cases s:b = g
      . subst s
        rw[Γ.put_same]at y;cases y
        refine⟨_,_,_,r,?_⟩
        rw[a8,H];exact vbe _ hroom
      . rw [Γ.put_other s] at y
        let⟨c,t',fr,k1,k2⟩:=h.wi b m y
        exact⟨c,t',fr,(setRow_other w g b _ s).trans k1,k2⟩
    . subst s
      have:=(h.bx i b (st.boxes[i]'(by rw[<-h.bl];exact aq y)) y (by simp)).1
      rw[b1]at this;cases this
  .
    have H:(xs++news++t).toArray.size=p * P.cellsOf e:=by simp only[vbZ,oo,F,a0,g3,<-vbg];congr 1;omega
    let⟨a9,B⟩:=h.drew.alloc_imm (xs++news++t).toArray e ((n+ns.length) * P.cellsOf e) (by rw[H];exact vbe _ g1)
    have a7:Γ.Le w (Γ.put w.heap.size ((n+ns.length) * P.cellsOf e)) (w.drew.alloc (.cells (xs++news++t).toArray e)):=B
    have r:(w.drew.alloc (.cells (xs++news++t).toArray e)).heap[w.heap.size]? =O (.cells (xs++news++t).toArray e (0,0)):=gI w.drew _
    have R:((xs++news++t).toArray).toList.take ((n+ns.length) * P.cellsOf e)=xs++news:=by rw[X,<-a0,<-F,<-oo];exact vcs
    refine⟨_,a9,a7,fin r (Γ.put_same _ _) g1 R a7,⟨n+ns.length,xs++news,⟨by rw[oo,F,a0,X],.inr ⟨w.heap.size,p,_,rfl,s5 _,r,g1,g2,H,R⟩⟩,λb y=>?_⟩,λb y=>?_⟩
    .simp[Value.ownBlock]at y;subst y;exact Γ.put_same _ _
    . simp [Value.ownBlock] at y; subst y
      refine⟨?_,.inr h.step.size⟩
      cases hL:d w.heap.size with
      |none=>rfl
      |some L=>exact absurd (h.on _ L hL).1 (vb5 _)
def Tf(h:SR P E Γ bs d w a st){t ty e:G}{es ns:V (V U)}{p:U}{v x:D}(ht:P.underlying t=O (.slice e))(hv:VR Γ bs w (.slice es) v)(s:VR Γ bs w (.slice ns) x)
  (ho:eI P Γ w v e) (a2:∀b,v.ownBlock=O b->d b=N/\(E.T b\/E.w.heap.size<=b)) (hp:ji P t es ns=O p):
  ∃v' w' y,(Builtin.append_ #[t,t] ty #[v,x]).run P w=.ok v' w'/\SR P E y bs d w' a st/\Γ.Le w y w'/\VR y bs w' p v'/\eI P y w' v' e/\
   ∀b,v'.ownBlock=O b->d b=N/\(E.T b\/E.w.heap.size<=b):=by
 unfold ji at hp
 rw[ht]at hp
 simp only at hp
 split at hp
 case isFalse=>cases hp
 rename_i hh
 let⟨S,an,m,a3,a4,A⟩:=hh
 cases hp
 have hz:∃zs,eR P e=O zs/\zs.length=P.cellsOf e:=by simpa using a3
 let⟨zs,hz,a3⟩:=hz
 obtain⟨z,hr,rfl,i,hi,b3⟩:=mR (w:=w) hz
 have a6:i.size=P.cellsOf e:=by simp[Program.cellsOf,hi]
 have a5:i.bytes=P.bytesOf e:=by simp[Program.bytesOf,hi]
 let⟨n,xs,F,ao⟩:=ho
 have B:∀(i:Nat) x,ns[i]? =O x->x.length=P.cellsOf e:=λi x s=>(A x (vaD s)).1
 have b4:es.length=n:=by
  rcases F.2 with⟨rfl,rfl⟩|⟨g,cap,cur,rfl,_,hg,hnc,hcm,hcs,htake⟩;.cases hv;rfl
  .cases hv<;>rfl
 have a8:∃r:V D,((x=.slice N 0 0/\ns.length=0)\/∃a c,x=.slice (O a) ns.length c/\∀(j:Nat) u,r[j]? =O u->w.cell? (a.add j)=O u)/\
   r.length=ns.length * P.cellsOf e/\(∀u∈r,u.oneCell'=T)/\
   ∀(i:Nat) x (k:Nat) q,ns[i]? =O x->x[k]? =O q->∃u,r[i * P.cellsOf e+k]? =O u/\VR Γ bs w q u:=by
  cases s with
  |sliceNil=>exact⟨[],.inl ⟨rfl,rfl⟩,by simp,by simp,by simp⟩
  |sliceE a cap=>exact⟨[],.inr ⟨a,cap,rfl,by simp⟩,by simp,by simp,by simp⟩
  | slice ns b off cap n' sz vals hz0 hcap hgg hn hsz hc hvv =>
   have a1:∀(i:Nat) x (k:Nat) q,ns[i]? =O x->x[k]? =O q->w.cell? ⟨b,off+(i * P.cellsOf e+k),N⟩=O (vals i k):=by
    intro i x k q s hq;have ad:sz=P.cellsOf e:=by rw[<-hsz i x s];exact B i x s
    subst ad;rw[<-vcB];exact hc i x k q s hq
   have X:∀o,o<ns.length * P.cellsOf e->∃x q,ns[o / P.cellsOf e]? =O x/\x[o % P.cellsOf e]? =O q/\o=o / P.cellsOf e * P.cellsOf e+o % P.cellsOf e:=by intro o ho;let⟨m1,m2⟩:=RT (q:=o) m;have L:o / P.cellsOf e<ns.length:=(vcJ m).2 ho;have b2:=B _ _ (m3 L);exact⟨_,_,m3 L,m3 (by rw[b2];exact m2),m1⟩
   refine⟨(List.range (ns.length * P.cellsOf e)).map λo=>vals (o / P.cellsOf e) (o % P.cellsOf e),.inr ⟨⟨b,off,N⟩,cap,rfl,λj u R=>?_⟩,by simp,λu R=>?_,λi x k q s hq=>⟨vals i k,?_,hvv i x k q s hq⟩⟩
   .rw[o8]at R
    have hj:j<ns.length * P.cellsOf e:=by
     by_cases hj:j<ns.length * P.cellsOf e;.exact hj
     .rw[vaU (by simp;omega)]at R;cases R
    rw[vbH hj]at R
    simp only[or,FS]at R
    subst R
    let⟨x,q,k1,k2,k3⟩:=X j hj
    have:=a1 _ _ _ _ k1 k2
    rw[<-k3]at this
    rw[Addr.add_lit];exact this
   .simp only[l9,vbF]at R
    obtain⟨o,ho,rfl⟩:=R
    let⟨x,q,k1,k2,k3⟩:=X o ho
    exact VR.one (hvv _ _ _ _ k1 k2) ((A x (vaD k1)).2 q (vaD k2))
   .have hk:k<P.cellsOf e:=by have:=aq hq;rw[B i x s]at this;exact this
    have L:=RB (aq s) hk
    rw[o8,vbH L]
    simp only[or,FS]
    rw[Nat.mul_comm i,Nat.mul_add_div m,vc8 hk,Nat.mul_add_mod,vc9 hk,Nat.add_zero]
 let⟨r,b1,a9,ar,b0⟩:=a8
 have a7:n+ns.length<=maxLen:=by unfold maxLen;unfold bO at S;omega
 have H:(n+ns.length) * i.bytes<=140737488355328:=by rw[a5];have:(n+ns.length) * P.bytesOf e<=1073741824 * 65536:=vct (by unfold bO at S;omega) an;omega
 let⟨v',w',ab,a0⟩:=Pw (ty:=ty) ht hi b3 a6 (by simpa using a3) m F b1 a9 ar a7 H
 let⟨y,q⟩:=HJ h hv m a4 (λx s=>(A x s).1) F ao a2 a9 b0 a0
 exact⟨v',w',y,ab,q⟩
def NR(s:V UInt8):V (V U):=s.map λc=>[.int .u8 (c.toNat:Int)]
def U1(s:V UInt8):(NR s).length=s.length:=by simp[NR]
def qlm:Q D->K|some (.int .u8 0)=>T|_=>Z
def qln{o:Q D}(h:qlm o=T):o=O (.int .u8 0):=by
 unfold qlm at h;split at h;.rfl
 .cases h
def Gz(P:I)(t u:G)(b:V (V U))(s:V UInt8):Q U:=match P.underlying t,P.underlying u with|some (.slice e),O .string=>if b.length+s.length<=bO/\P.bytesOf e=1/\P.cellsOf e=1/\qlm ((P.info? e).bind (·.zero))=T/\(∀x∈b,x.length=1)then O (.slice (b++NR s))else N|_,_=>N
def WZ{t u ty e:G}{i:TypeInfo}(ht:P.underlying t=O (.slice e))(hu:P.underlying u=O .string)(S:P.info? e=O i)(hz:i.zero=O (.int .u8 0))(p:i.size=1)(z:i.bytes=1)
    {v:D} {n:Nat} {x:V D} (m:w.ownsRow 0 e 1 v n x) (s:ByteArray) (y:n+s.size<=maxLen) (R:n+s.size<=140737488355328):
    ∃ v' w',(Builtin.append_ #[t,u] ty #[v,.string s]).run P w = .ok v' w' ∧
      ((v'=v/\w'=w/\s.size=0)\/
       (∃ g b cur,v = .slice (O ⟨g,0,N⟩) n b∧w.heap[g]? = O (.cells cur e (0,0))∧cur.size = b * 1∧b ≤ maxLen∧cur.toList.take (n * 1) = x∧n + s.size ≤ b ∧
          v'=.slice (O ⟨g,0,N⟩) (n+s.size) b/\w'=w.setRow g (cur.toList.take (n * 1)++Lib.strCells s++cur.toList.drop (n * 1+(Lib.strCells s).length)).toArray)\/
       (∃b q,n+s.size<=b/\b<=maxLen/\q.length=(b - (n+s.size)) * 1/\v'=.slice (O ⟨w.heap.size,0,N⟩) (n+s.size) b/\w'=w.drew.alloc (.cells (x++Lib.strCells s++q).toArray e))):=by
  have X:n+s.size<=9223372036854775807:=by simp only[maxLen]at y;omega
  have o:∀h,n+s.size<=grownCap w (n+s.size) h e/\grownCap w (n+s.size) h e<=maxLen/\(Builtin.zeroCells (Value.int .u8 0).cells (grownCap w (n+s.size) h e - (n+s.size))).toList.length=(grownCap w (n+s.size) h e - (n+s.size)) * 1:=λh=>
    ⟨grownCap_ge w (n+s.size) h e,grownCap_le_maxLen w (n+s.size) h e y,by simp[size_zeroCells,show(Value.int IntKind.u8 0).cells.size=1 from rfl]⟩
  rcases m.2 with⟨rfl,rfl⟩|⟨g,b,cur,rfl,_,hg,hnc,hcm,hcs,htake⟩
  . have a0:x = []:=IO (by simpa using m.1)
    subst a0
    by_cases hm:s.size=0
    . refine ⟨.slice N 0 0,w,?_,.inl ⟨rfl,rfl,hm⟩⟩
      simp[Builtin.append_,run_underlying ht,run_underlying hu,sizeOf,typeInfo,S,Builtin.lenOf,Builtin.firstCells,hm]
    . have B:=run_append_nil_string (P:=P) w t u ty e i (.int .u8 0) ht hu S hz s (by omega) (by omega) (by rw [z]; omega)
      let⟨F,H,L⟩:=o 0
      rw[s7]at F H L
      refine⟨_,_,B,.inr (.inr ⟨_,(Builtin.zeroCells (Value.int .u8 0).cells (grownCap w s.size 0 e - s.size)).toList,by rw[s7];exact F,H,by rw[s7];exact L,by rw[s7],?_⟩)⟩
      congr 2
      apply vb0;simp[Lib.strCells]
  . by_cases c:n + s.size ≤ b
    . have A:n + s.size ≤ cur.size:=by rw [hcs,vbv]; exact c
      have B:=Lib.run_append_room_string (P:=P) w t u ty e i ht hu S p g n b cur hg s c A
      refine⟨_,_,B,.inr (.inl ⟨g,b,cur,rfl,hg,hcs,hcm,htake,c,rfl,?_⟩)⟩
      rw[vbv,Lib.strCells_length]
    . have r:∀ (j:Nat) u,x[j]? = O u→w.cell? ((⟨g,0,N⟩:Addr).add j) = O u:=m.cells (g:=g) rfl
      have B:=Lib.run_append_grow_string (P:=P) w t u ty e i (.int .u8 0) ht hu S hz ⟨g,0,N⟩ n b x (by rw[p];exact m.1) r s (by omega) (by omega) (by rw[z];exact growslice_fits (by omega) (by omega))
      let⟨F,H,L⟩:=o b
      refine⟨_,_,B,.inr (.inr ⟨_,(Builtin.zeroCells (Value.int .u8 0).cells (grownCap w (n+s.size) b e - (n+s.size))).toList,F,H,L,rfl,?_⟩)⟩
      congr 2
      apply vb0;simp
theorem qab(h:SR P E Γ bs d w a st){t u ty e:G}{es:V (V U)}{s:V UInt8}{p:U}{v x:D}(ht:P.underlying t=O (.slice e))(hv:VR Γ bs w (.slice es) v)(B:VR Γ bs w (.str s) x)
  (ho:eI P Γ w v e) (H:∀b,v.ownBlock=O b->d b=N/\(E.T b\/E.w.heap.size<=b)) (z:Gz P t u es s=O p):
  ∃S R o,(Builtin.append_ #[t,u] ty #[v,x]).run P w=.ok S R/\SR P E o bs d R a st/\Γ.Le w o R/\VR o bs R p S/\eI P o R S e/\
   ∀b,S.ownBlock=O b->d b=N/\(E.T b\/E.w.heap.size<=b):=by
 unfold Gz at z
 rw[ht]at z
 cases hu:P.underlying u with
 |none=>rw[hu]at z;cases z
 |some ud=>
 rw[hu]at z
 cases ud with
 | string =>
  simp only at z
  split at z
  case isFalse=>cases z
  rename_i hh
  obtain⟨F,a3,m,a6,X⟩:=hh
  cases z
  cases B
  obtain⟨i,hi,hz⟩:=vbk.1 (qln a6)
  have a1:i.size=1:=by rw[<-m];simp[Program.cellsOf,hi]
  have a0:i.bytes=1:=by rw[<-a3];simp[Program.bytesOf,hi]
  obtain⟨n,xs,y,a4⟩:=ho
  have a7:es.length=n:=by
   rcases y.2 with⟨rfl,rfl⟩|⟨g,cap,cur,rfl,_,hg,hnc,hcm,hcs,htake⟩;.cases hv;rfl
   .cases hv<;>rfl
  have A:(ByteArray.mk s.toArray).size=s.length:=by simp[ByteArray.size]
  have L:w.ownsRow 0 e 1 v n xs:=by rw[<-m];exact y
  obtain⟨S,R,a2,r⟩:=WZ (ty:=ty) ht hu hi hz a1 a0 L (ByteArray.mk s.toArray) (by rw[A];unfold maxLen;unfold bO at F;omega) (by rw[A];unfold bO at F;omega)
  rw[A]at r
  have a5:(Lib.strCells (ByteArray.mk s.toArray)).length=(NR s).length * P.cellsOf e:=by rw[Lib.strCells_length,A,U1,m,vbv]
  obtain⟨o,q⟩:=HJ (ns:=NR s) h hv (by omega) (λx B=>by rw[m];exact X x B) (λx B=>by
    obtain⟨c,_,rfl⟩:=l9.1 B;rw[m];rfl) y a4 H a5 (λi x k q B hq=>by
    unfold NR at B;rw[o8]at B;obtain⟨c,hc,rfl⟩:=vaH.1 B;have hk:k=0:=by have:=aq hq;simp at this;exact this
    subst hk;simp at hq;subst hq;refine⟨.int .u8 c.toNat,?_,.int _ _⟩;rw[m,vbv,Nat.add_zero,Lib.strCells,o8];simp[hc]) (by rw[m,U1];exact r)
  exact⟨S,R,o,a2,q⟩
 |_=>simp at z
end
section
variable{P:I}{E:qy}{Γ:aS}{bs:bC}{c:Nat->Q kg}{w:J}{a:Array D}{st:az}
def qfP(a b:V UInt8):((ByteArray.mk a.toArray)==(ByteArray.mk b.toArray))=(a==b):=by show(a.toArray==b.toArray)=_;simp
def WB{d:TypeDesc}{k x:U}{o p:D}{t:K}(i:VR Γ bs w k o)(m:VR Γ bs w x p)(b:oQ d k=T)(h:qaj k x=O t):Instr.sameNow d o p=O t:=by
 unfold qaj at h;split at h;.cases h;cases i;cases m;cases d<;>simp[oQ]at b;simp only[Instr.sameNow,qfP]
 .split at h;.rename_i e;subst e;cases h;cases i;cases m;cases d<;>simp[oQ]at b;simp[Instr.sameNow]
  .cases h
 .cases h
def xc{o:TypeDesc}{k:U}{p:D}(q:VR Γ bs w k p)(d:oQ o k=T):∀(e:List (U×U))(b:List MapEntry)(i:Nat){r:Q (Nat×U)},e.length=b.length->
  (∀(j:Nat) m u x,e[j]? =O (m,u)->b[j]? =O x->VR Γ bs w m x.key/\VR Γ bs w u x.val)->Lj k e i=O r->
  match r with
  |none=>Instr.findNow o p b i=O N
  |some (j,u)=>∃v x,Instr.findNow o p b i=O (O (j,v))/\VR Γ bs w u v/\i<=j/\b[j - i]? =O x/\x.val=v/\Instr.sameNow o p x.key=O T/\j - i<e.length
 |[],[],i,r,_,_,h=>by simp only[Lj,FS]at h;subst h;rfl
 |[],_::_,_,_,hl,_,_=>by simp at hl
 |_::_,[],_,_,hl,_,_=>by simp at hl
 | (m,u) :: e,x :: b,i,r,hl,hv,h => by
  let⟨t,A⟩:=hv 0 m u x rfl rfl;simp only[Lj]at h;split at h;.rename_i s;cases h;have:=WB q t d s;exact⟨x.val,x,by simp[Instr.findNow,this],A,l8 _,by simp,rfl,this,by simp⟩
  .rename_i s;have y:=WB q t d s;have z:=xc q d e b (i+1) (by simpa using hl) (λj m u x B F=>hv (j+1) m u x (by simpa using B) (by simpa using F)) h;cases r with|none=>simpa[Instr.findNow,y]using z|some ju=>let⟨j,u'⟩:=ju;let⟨v,x',H,L,k3,R,S,X,k7⟩:=z;refine⟨v,x',by simpa[Instr.findNow,y]using H,L,by omega,?_,S,X,by simp;omega⟩;rw[show j - i=(j - (i+1))+1 from by omega];simpa using R
  .cases h
def IQ{h:G}{e:TypeDesc}{k:U}{i:D}(d:P.underlying h=O e)(b:oQ e k=T)(o:VR Γ bs w k i)(m:K):(Instr.checkKey m 10000 h i).run P w=.ok () w:=by show(Instr.checkKey m (9999+1) h i).run P w=_;rw[Instr.checkKey];cases e<;>simp[oQ]at b<;>cases k<;>simp at b<;>cases o<;>simp[run_underlying d]
def Jy.modify{b:Array MapEntry}{clock j:Nat}{k v:D}(h:Jy b clock):Jy (b.modify j λe=>{e with key:=k,val:=v}) clock:=by
 have m:(b.modify j λe=>{e with key:=k,val:=v}).toList.map (·.born)=b.toList.map (·.born):=by
  refine va2 λi=>?_;simp only[o8,vaK,vbW];by_cases d:j=i;.subst d;rw[l7 rfl];cases b[j]? <;>rfl
  .rw[hG d]
 refine⟨by rw[m];exact h.1,λx p=>?_⟩;have:x.born∈(b.modify j λe=>{e with key:=k,val:=v}).toList.map (·.born):=l9.2 ⟨x,p,rfl⟩;rw[m]at this;let⟨y,q,o⟩:=l9.1 this;rw[<-o];exact h.2 y q
def Jy.push{e:Array MapEntry}{d:Nat}{k v:D}(h:Jy e d):Jy (e.push {key:=k,val:=v,born:=d}) (d+1):=by
 refine⟨?_,λx i=>?_⟩;.rw[vc4,va5,vbw];refine⟨h.1,by simp,λa o b m=>?_⟩;obtain⟨y,p,rfl⟩:=l9.1 o;simp at m;subst m;have:=h.2 y p;omega
 .rw[vc4]at i;rcases vz.1 i with i|i;.have:=h.2 x i;omega
  .simp at i;subst i;simp
def mC{b:Nat}{e:Array MapEntry}{d:Nat}(h:w.heap[b]? =O (.map e d)):(getObj b).run P w=.ok (.map e d) w:=by simp[getObj,Sem.run,h]
def qav{t:G}{z:U}(h:LA P t=O z):∃v,(zeroValue t).run P w=.ok v w/\VR Γ bs w z v:=by unfold LA at h;simp only[vaH,vbk]at h;obtain⟨v,⟨i,b,d⟩,rfl⟩:=h;exact⟨v,by simp[zeroValue,run_typeInfo w b,d],.absV v⟩
def qcb(h:SR P E Γ bs c w a st){t:G}{m k p:U}{vm vk:D}{ok:K}(hm:VR Γ bs w m vm)(hk:VR Γ bs w k vk)(s:Eg P t m k ok st.boxes=O p):∃v,(Instr.lookup t vm vk ok).run P w=.ok v w/\VR Γ bs w p v:=by
 unfold Eg at s;split at s
 .rename_i kt e i ht;split at s
  .rename_i es kd hB B;split at s
   .rename_i A;cases hm with
    | mapr i b hi =>
     let⟨_,_,o,L,h1,h2,h3,_⟩:=h.bx i b _ hi hB;have R:=IQ (P:=P) (w:=w) B A hk o.toList.isEmpty;have y:(Instr.checkKey o.isEmpty 10000 kt vk).run P w=.ok () w:=by rw[show o.isEmpty=o.toList.isEmpty from by simp];exact R
     split at s
     .rename_i j u zs S;cases s;let⟨v,x,k1,k2,_⟩:=xc hk A es o.toList 0 (by simp[h2]) (λj kx u x X hx=>h3 j kx u x X (by simpa using hx)) S;refine⟨if ok then .tuple #[v,.bool T]else v,?_,?_⟩;.simp[Instr.lookup,run_underlying ht,mC h1,y,Instr.findKey,run_underlying B,k1]
      .cases ok;.exact k2
       .refine .tuple _ _ rfl λq p' v' r d=>?_;match q,r,d with|0,r,d=>simp at r d;subst r;subst d;exact k2|1,r,d=>simp at r d;subst r;subst d;exact .bool _|q+2,r,_=>simp at r
     .rename_i z S hz;cases s;let⟨z',hr,H⟩:=qav (Γ:=Γ) (bs:=bs) (w:=w) hz;have F:=xc hk A es o.toList 0 (by simp[h2]) (λj kx u x X hx=>h3 j kx u x X (by simpa using hx)) S;refine⟨if ok then .tuple #[z',.bool Z]else z',?_,?_⟩;.simp only at F;simp[Instr.lookup,run_underlying ht,mC h1,y,Instr.findKey,run_underlying B,F,hr]
      .cases ok;.exact H
       .refine .tuple _ _ rfl λq p' v' r d=>?_;match q,r,d with|0,r,d=>simp at r d;subst r;subst d;exact H|1,r,d=>simp at r d;subst r;subst d;exact .bool _|q+2,r,_=>simp at r
     .cases s
   .cases s
  .cases s
 .cases s
def qco{i:TypeDesc}{d x:D}(h:Instr.sameNow i d x=O T):Instr.sameBits 10000 x d=true:=by
 unfold Instr.sameNow at h;split at h
 .split at h;.rename_i e;subst e;simp only[FS,vbf]at h;subst h;simp[Instr.sameBits]
  .cases h
 .rename_i p q;have b:(p.data==q.data)=true:=vbp h;show(q.data==p.data)=T;rw[vbf]at b ⊢;exact b.symm
 .simp only[FS,vbf]at h;subst h;simp[Instr.sameBits]
 .cases h
def Wi(h:SR P E Γ bs c w a st){t:G}{m k u:U}{vm vk vu:D}{H:V ay}(hm:VR Γ bs w m vm)(hk:VR Γ bs w k vk)(hu:VR Γ bs w u vu)(S:jO P t m k u st.boxes=O H):∃w',(Instr.mapUpdate t vm vk vu).run P w=.ok () w'/\SR P E Γ bs c w' a {st with boxes:=H}/\Γ.Le w Γ w':=by
 unfold jO at S;split at S
 .rename_i kt e i ht;split at S
  .rename_i es kd hB a3;split at S
   .rename_i a2;cases hm with
    | mapr i b hi =>
     let⟨ab,ad,r,p,h1,h2,h3,h4⟩:=h.bx i b _ hi hB;have a6:=IQ (P:=P) (w:=w) a3 a2 hk Z;have a1:∀o,(setObj b o).run P w=.ok () {w with heap:=w.heap.setIfInBounds b o}:=by intro o;simp[setObj,Sem.run,h1]
     have R:∀o,({w with heap:=w.heap.setIfInBounds b o}:J).heap[b]? =O o:=by intro o;simp[ad]
     have s:∀o b',b'≠b->({w with heap:=w.heap.setIfInBounds b o}:J).heap[b']? =w.heap[b']?:=by intro o b' F;exact vaI (λe=>F e.symm)
     have d:∀o,Γ.Le w Γ ({w with heap:=w.heap.setIfInBounds b o}:J):=λo b' m F _=>
      ⟨m,F,l8 _,λo' _=>bE (s o b' (λe=>by subst e;rw[ab]at F;cases F)) o'⟩
     have a0:∀{o:Obj}{B:ay},BR Γ bs ({w with heap:=w.heap.setIfInBounds b o}:J) B b->(∀cs own,B≠.cells cs own)->
       SR P E Γ bs c ({w with heap:=w.heap.setIfInBounds b o}:J) a {st with boxes:=st.boxes.set i B}:=λ{o B} hB hne=>
      h.box_write hi rfl rfl rfl (by simp) (s o) hB (λb' L hL _=>hL) h.on (λcs own he=>absurd he (hne cs own))
     split at S
     .rename_i j u0 hf;cases S;let⟨v,x,k1,k2,k3,k4,k5,k6,k7⟩:=xc hk a2 es r.toList 0 (by simp[h2]) (λj X u x hj hx=>h3 j X u x hj (by simpa using hx)) hf;simp only[Nat.sub_zero,vaK]at k4 k7;have a5:=qco k6;refine⟨{w with heap:=w.heap.setIfInBounds b (.map (r.modify j λe=>{e with key:=vk,val:=vu}) p)},?_,a0 ⟨_,p,R _,by simp[h2],λq X ux y A z=>?_,h4.modify⟩ (by simp),d _⟩;.simp[Instr.mapUpdate,run_underlying ht,mC h1,a6,Instr.findKey,run_underlying a3,k1,k4,Instr.keyThatStays,a5,a1]
      .rw[vbW]at z;by_cases a4:q=j;.subst a4;rw[pi k7]at A;simp[k4]at z;cases A;subst z;exact⟨hk.mono (d _) (.refl _),hu.mono (d _) (.refl _)⟩
       .rw[Pi (λe=>a4 e.symm)]at A;rw[hG (λe=>a4 e.symm)]at z;exact⟨(h3 q X ux y A z).1.mono (d _) (.refl _),(h3 q X ux y A z).2.mono (d _) (.refl _)⟩
     .rename_i hf;cases S;have a7:=xc hk a2 es r.toList 0 (by simp[h2]) (λj X u x hj hx=>h3 j X u x hj (by simpa using hx)) hf;simp only at a7;refine⟨{w with heap:=w.heap.setIfInBounds b (.map (r.push {key:=vk,val:=vu,born:=p}) (p+1))},?_,a0 ⟨_,_,R _,by simp[h2],λq X ux y A z=>?_,h4.push⟩ (by simp),d _⟩;.simp[Instr.mapUpdate,run_underlying ht,mC h1,a6,Instr.findKey,run_underlying a3,a7,a1]
      .rw[vcT]at z;by_cases a9:q=r.size;.subst a9;rw[Lf (by omega),<-h2,vca]at A;simp at A z;obtain⟨rfl,rfl⟩:=A;subst z;exact⟨hk.mono (d _) (.refl _),hu.mono (d _) (.refl _)⟩
       .rw[hG a9]at z;have a8:q<es.length:=by rw[<-h2];exact(vh.1 z).1
        rw[B2 a8]at A;exact⟨(h3 q X ux y A z).1.mono (d _) (.refl _),(h3 q X ux y A z).2.mono (d _) (.refl _)⟩
     .cases S
   .cases S
  .cases S
 .cases S
end
section
variable{P:I}{E:qy}{Γ:aS}{bs:bC}{m:Nat->Q kg}{w:J}{a:Array D}{st:az}
def ls(d:Nat)(f:Nat×Nat->Nat×Nat)(own:V ((Nat×Nat)×G)):V ((Nat×Nat)×G):=(bI d own).map λx=>(f x.1,x.2)
def qci(d:Nat)(f:Nat×Nat->Nat×Nat)(m:Nat->Q kg):Nat->Q kg:=λb=>match m b with|some (.tmp t k)=>if t=d then N else O (.tmp (f (t,k)).1 (f (t,k)).2)|x=>x
def SR.setRen(h:SR P E Γ bs m w a st){d:Nat}{p:U}{v:D}(hv:VR Γ bs w p v)(f:Nat×Nat->Nat×Nat)(hd:d<a.size)
  (hf:∀t k e,((t,k),e)∈st.own->t≠d->f (t,k)=(t,k)\/∃A,f (t,k)=(d,A)/\∀u o,a[t]? =O u->jz u k=O o->eI P Γ w o e->jz v A=O o):
  SR P E Γ bs (qci d f m) w (a.setIfInBounds d v) {st with tmps:=st.tmps.set d p,own:=ls d f st.own}:=by
 have hs:=h.set (d:=d) (p:=p) hv
 exact{hs with
  on:=λb L F=>by
   unfold qci at F;split at F;.rename_i t k s;exact h.on b _ s
   .exact h.on b L F
  ot:=λt' A e c=>by
   simp only[ls,l9]at c;obtain⟨⟨⟨t,k⟩,S⟩,z,c⟩:=c;simp only[Prod.mk.injEq]at c;obtain⟨c,rfl⟩:=c;let⟨z,q⟩:=ed z;let⟨u,o,y,X,r,B⟩:=h.ot t k S z;have x:∀b,o.ownBlock=O b->qci d f m b=O (.tmp t' A):=λb s=>by have:=B b s;simp only[qci,this];rw[hG q,c]
   rcases hf t k S z q with R|⟨k2,R,hp⟩;.rw[R]at c;cases c;exact⟨u,o,by rw[vaI (λe=>q e.symm)];exact y,X,r,x⟩
   .rw[R]at c;cases c;exact⟨v,o,by simp[hd],hp u o y X r,r,x⟩
  ob:=λi j e cs own b hB hj s=>by let⟨o,y,r,B⟩:=h.ob i j e cs own b hB hj s;exact⟨o,y,r,λb' H=>by have:=B b' H;simp only[qci,this]⟩}
def SR.freeB(h:SR P E Γ bs m w a st){i j:Nat}{cs:V U}{own:V (Nat×G)}(hB:st.boxes[i]? =O (.cells cs own)):SR P E Γ bs (λb=>if m b=O (.box i j)then N else m b) w a {st with boxes:=st.boxes.set i (.cells cs (own.filter λx=>x.1 !=j))}:=by
 have p:i<bs.length:=by rw[h.bl];exact aq hB
 cases hb:bs[i]'p with
 | none =>
  have hi:bs[i]? =O N:=by rw[m3 p,hb]
  have F:∀{k:Nat}{B:ay},k≠i->(st.boxes.set i (.cells cs (own.filter λx=>x.1 !=j)))[k]? =O B->st.boxes[k]? =O B:=by intro k B r o;rwa[Pi (λe=>r e.symm)]at o
  have s:∀{k b:Nat},bs[k]? =O (O b)->k≠i:=λr e=>by subst e;rw[hi]at r;cases r
  exact{h with
   bl:=by simp[h.bl]
   bx:=λk b B r o=>h.bx k b B r (F (s r) o)
   on:=λb L y=>by
    split at y;.cases y
    .exact h.on b L y
   ot:=λt k e he=>by let⟨u,v,R,h2,S,A⟩:=h.ot t k e he;exact⟨u,v,R,h2,S,λb d=>by rw[hG (by rw[A b d];intro X;cases X)];exact A b d⟩
   ob:=λk q e a0 H b o hj r=>by let⟨v,R,S,A⟩:=h.ob k q e a0 H b (F (s r) o) hj r;exact⟨v,R,S,λz d=>by rw[hG (by rw[A z d];intro X;cases X;exact s r rfl)];exact A z d⟩}
 | some b =>
  have hi:bs[i]? =O (O b):=by rw[m3 p,hb]
  refine h.box_write hi rfl rfl rfl rfl (λ_ _=>rfl) ?_ (λz L y s=>?_) (λz L y=>?_) (λa0 H he q e hq=>?_);.let⟨_,_,c,t,R,h2,S⟩:=h.bx i b _ hi hB;exact⟨c,t,R,h2,S⟩
  .rw[hG (by rw[y];intro X;cases X;exact s j rfl)];exact y
  .split at y;.cases y
   .exact h.on z L y
  .cases he;let⟨hq,a1⟩:=bR hq;let⟨v,R,S,A⟩:=h.ob i q e cs own b hB hq hi;refine⟨v,R,S,λz d=>?_⟩;rw[hG (by rw[A z d];intro X;cases X;simp at a1)];exact A z d
def SR.addOwnB(h:SR P E Γ bs m w a st){i b j:Nat}{e:G}{v:D}{x:V U}{own:V (Nat×G)}(B:bs[i]? =O (O b))(H:st.boxes[i]? =O (.cells x own))
  (hv:w.cell? ⟨b,j,N⟩=O v) (R:eI P Γ w v e) (A:∀d,v.ownBlock=O d->m d=N/\(E.T d\/E.w.heap.size<=d)):
  SR P E Γ bs (λd=>if v.ownBlock=O d then O (.box i j)else m d) w a {st with boxes:=st.boxes.set i (.cells x ((j,e)::own))}:=by
 refine h.box_write B rfl rfl rfl rfl (λ_ _=>rfl) ?_ (λd L r a0=>?_) (λd L r=>?_) (λX S he q e' s=>?_)
 .let⟨_,_,c,t,y,h2,z⟩:=h.bx i b _ B H
  exact⟨c,t,y,h2,z⟩
 .rw[hG (λp=>by have:=(A d p).1;rw[this]at r;cases r)];exact r
 .by_cases p:v.ownBlock=O d
  .exact⟨R.lt p,(A d p).2⟩
  .rw[hG p]at r;exact h.on d L r
 .cases he
  rcases x8.1 s with s|s
  .cases s
   exact⟨v,hv,R,λd o=>by rw[l7 o]⟩
  .let⟨v',y,z,F⟩:=h.ob i q e' x own b H s B
   refine⟨v',y,z,λd o=>?_⟩
   rw[hG (λp=>by have:=(A d p).1;rw[F d o]at this;cases this)]
   exact F d o
def SR.moveOwn(h:SR P E Γ bs m w a st){i b t k c:Nat}{e:G}{u v:D}{q:V U}{own:V (Nat×G)}(F:bs[i]? =O (O b))(A:st.boxes[i]? =O (.cells q own))
  (H:((t,k),e)∈st.own) (R:a[t]? =O u) (L:jz u k=O v) (B:w.cell? ⟨b,c,N⟩=O v):
  ∃p,SR P E Γ bs p w a {st with own:=st.own.filter λx=>x.1 !=(t,k),boxes:=st.boxes.set i (.cells q ((c,e)::own))}:=by
 let⟨S,X,r,s,z,y⟩:=h.ot t k e H
 rw[R]at r
 cases r
 rw[L]at s
 cases s
 exact⟨_,(h.freeT t k).addOwnB (i:=i) (b:=b) (j:=c) (e:=e) (v:=v) F A B z (λo d=>⟨by simp[y o d],(h.on o _ (y o d)).2⟩)⟩
def SR.moveOwns{i b t off:Nat}{u:D}{d:V U}(F:bs[i]? =O (O b))(R:a[t]? =O u):∀(L:V (Nat×G)){m:Nat->Q kg}{st:az}{own:V (Nat×G)},SR P E Γ bs m w a st->st.boxes[i]? =O (.cells d own)->
  (∀x∈L,((t,x.1),x.2)∈st.own)->(L.map (·.1)).Nodup->(∀x∈L,∃v,jz u x.1=O v/\w.cell? ⟨b,off+x.1,N⟩=O v)->
  ∃s,SR P E Γ bs s w a ⟨st.tmps,st.boxes.set i (.cells d ((L.map λx=>(off+x.1,x.2)).reverse++own)),st.own.filter λx=>!L.any λy=>x.1==(t,y.1)⟩
 | [],m,st,own,h,hB,_,_,_ => by
  refine⟨m,?_⟩;have o:st.boxes.set i (.cells d ((([]:V (Nat×G)).map λx=>(off+x.1,x.2)).reverse++own))=st.boxes:=by
   apply va2;intro j;by_cases H:i=j;.subst H;rw[pi (aq hB),hB];rfl
   .rw[Pi H]
  have p:(st.own.filter λx=>!([]:V (Nat×G)).any λy=>x.1==(t,y.1))=st.own:=by apply List.filter_eq_self.2;intro x _;rfl
  rw[o,p];exact h
 | x :: L,m,st,own,h,hB,hm,hn,hc => by
  rw[ox,vbI]at hn;let⟨v,q,r⟩:=hc x (by simp);let⟨a0,S⟩:=h.moveOwn F hB (hm x (by simp)) R q r
  let⟨A,B⟩:=SR.moveOwns F R L S (pi (aq hB)) (λy c=>by
   refine vaX.2 ⟨hm y (by simp[c]),?_⟩;simp only[bne_iff_ne,ne_eq,Prod.mk.injEq,vce];exact λe=>hn.1 (l9.2 ⟨y,c,e⟩)) hn.2 (λy c=>hc y (by simp[c]))
  refine⟨A,?_⟩;simp only[vbX,vc1]at B;have o:((x::L).map λx=>(off+x.1,x.2)).reverse++own=(L.map λx=>(off+x.1,x.2)).reverse++(off+x.1,x.2)::own:=by simp
  have p:(st.own.filter λz=>!(x::L).any λy=>z.1==(t,y.1))=st.own.filter λz=>(!L.any λy=>z.1==(t,y.1))&&(z.1 !=(t,x.1)):=by congr 1;funext z;rw[List.any_cons];cases(L.any λy=>z.1==(t,y.1))<;>cases X:(z.1==(t,x.1))<;>simp[bne,X]
  rw[o,p];exact B
end
def yM(P:I)(a:Op)(id:Nat)(v:Operand->U)(H:V ay):Q (U×V ay):=
 match a with
 |.move x=>O (v x,H)
 |.assign x=>O (v x,H)
 |.pick c x y=>match v c with
  |.bool T=>O (v x,H)
  |.bool Z=>O (v y,H)
  |_=>N
 |.alloc t=>(eR P t).map λh=>(.bptr id 0,H.set id (.cells h (Tj P t)))
 |.box _ x=>(Mo (v x)).map λe=>(.bptr id 0,H.set id (.cells e []))
 |.makeMap _ N=>O (.mapr id,H.set id (.map []))
 |.build t parts=>(dF P t (parts.toList.map λx=>(x.1,v x.2))).map λp=>(p,H)
 |.buildSlice t len parts=>(gu P t len (parts.toList.map λx=>(x.1,v x.2))).map λp=>(p,H)
 |.load t x=>(mt P t (v x) H).map λp=>(p,H)
 |.store t x y=>(fE P t (v x) (v y) H).map λb=>(.val undef,b)
 |.nilCheck x=>match v x with
  |.eptr e=>O (.eptr e,H)
  |.bptr i off=>O (.bptr i off,H)
  |.func (.func f) first cap=>O (.func (.func f) first cap,H)
  |_=>N
 |.binOp a o x y _=>(qdT P a o (v x) (v y)).map λp=>(p,H)
 |.unOp a _ x=>(qrF a (v x)).map λp=>(p,H)
 |.convert s d x=>(Yw P s d (v x)).map λp=>(p,H)
 |.makeFunc fn first cap=>O (.func fn (first.toList.map v) (cap.toList.map v),H)
 |.slice t x lo hi N=>(xo P t (v x) (lo.map v) (hi.map v) N).map λp=>(p,H)
 |.fieldAddr s x f=>(nl P s (v x) f).map λp=>(p,H)
 |.field t x f=>(qai P t (v x) f).map λp=>(p,H)
 |.indexAddr t x i=>(nn P t (v x) (v i)).map λp=>(p,H)
 |.index t x i=>(Ia P t (v x) (v i)).map λp=>(p,H)
 |.lookup t m k ok=>(Eg P t (v m) (v k) ok H).map λp=>(p,H)
 |.mapUpdate t m k x=>(jO P t (v m) (v k) (v x) H).map λb=>(.val undef,b)
 |.extract t i=>(Cg (v t) i).map λp=>(p,H)
 |.call {callee:=.builtin .len,args:=⟨[x]⟩,argTypes:=⟨[t]⟩}=>(Oy P t (v x) H).map λp=>(p,H)
 |.call {callee:=.builtin .max,args:=⟨x::r⟩,..}=>(Tg qff (v x) (r.map v)).map λp=>(p,H)
 |.call {callee:=.builtin .min,args:=⟨x::r⟩,..}=>(Tg qfg (v x) (r.map v)).map λp=>(p,H)
 |_=>N
def aD:Op->K|.alloc _|.box .. |.makeMap .. =>T|_=>Z
section
variable{P:I}{E:qy}{Γ:aS}{bs:bC}{b:Nat->Q kg}{w:J}{a:Array D}{st:az}
def qcM(P:I)(E:qy)(Γ:aS)(bs:bC)(b:Nat->Q kg)(w:J)(a:Array D)(st:az)(id:Nat)(mk:K)(s:Sem Next)(p:U)(H:V ay):Prop:=∃r v e d c,s.run P w=.ok r e/\(r=.value v\/(r=.skip/\v=undef))/\SR P E d c b e a {st with boxes:=H}/\VR d c e p v/\ Γ.Le w d e/\(c=bs\/(mk=T/\c=bs.set id (O w.heap.size)))/\bs.Sub c
def qcM.quiet(h:SR P E Γ bs b w a st){id:Nat}{mk:K}{s:Sem Next}{p:U}(e:∃v,s.run P w=.ok (.value v) w/\VR Γ bs w p v):qcM P E Γ bs b w a st id mk s p st.boxes:=by let⟨v,c,d⟩:=e;exact⟨_,v,w,Γ,bs,c,.inl rfl,h,d,.refl _ _,.inl rfl,.refl _⟩
def fP{α β:Type}{f:α->β}{x:Q α}{y:β}(h:x.map f=O y):∃z,x=O z/\f z=y:=by simpa using h
def GA{ρ:Operand->D}{v:Operand->U}(h:∀x,VR Γ bs w (v x) (ρ x))(c:V (Nat×Operand)):(c.map λx=>(x.1,v x.2)).length=(c.map λx=>(x.1,ρ x.2)).length/\
  ∀(j:Nat) p u,(c.map λx=>(x.1,v x.2))[j]? =O p->(c.map λx=>(x.1,ρ x.2))[j]? =O u->p.1=u.1/\VR Γ bs w p.2 u.2:=by
 refine⟨by simp,λj p u d e=>?_⟩
 simp only[o8]at d e
 cases i:c[j]? with
 |none=>simp[i]at d
 |some x=>
  simp only[i,or,FS]at d e
  subst d;subst e
  exact⟨rfl,h _⟩
def Me{ρ:Operand->D}{v:Operand->U}(e:∀x,VR Γ bs w (v x) (ρ x))(l:V Operand)(j:Nat)(p:U)(u:D)(c:(l.map v)[j]? =O p)(d:(l.map ρ)[j]? =O u):VR Γ bs w p u:=by simp only[o8]at c d;cases h:l[j]? with|none=>simp[h]at c|some x=>simp only[h,or,FS]at c d;subst c;subst d;exact e _
def qgZ(h:SR P E Γ bs b w a st)(R:V Deferred){o:M}{id:Nat}{p:U}{H:V ay}(a0:aD o.op=T->bs[id]? =O N)
  (z:yM P o.op id (opv E.GE st.tmps) st.boxes=O (p,H)):qcM P E Γ bs b w a st id (aD o.op) (execOp (Act.mk a R).eval o) p H:=by
 have e:∀x,VR Γ bs w (opv E.GE st.tmps x) ((Act.mk a R).eval x):=λx=>h.opv R x
 unfold yM at z
 split at z
 case h_1 x ho=>cases z;exact .quiet h ⟨_,by simp[execOp,ho],e x⟩
 case h_2 x ho=>cases z;exact .quiet h ⟨_,by simp[execOp,ho],e x⟩
 case h_3 c x y ho=>
  have S:=e c
  split at z
  .rename_i hb;rw[hb]at S;cases z
   generalize X:(Act.mk a R).eval c=vc at S
   cases S
   exact .quiet h ⟨_,by simp[execOp,ho,X,asBool],e x⟩
  .rename_i hb;rw[hb]at S;cases z
   generalize X:(Act.mk a R).eval c=vc at S
   cases S
   exact .quiet h ⟨_,by simp[execOp,ho,X,asBool],e y⟩
  .cases z
 case h_4 t ho=>
  let⟨zs,hz,F⟩:=fP z
  cases F
  let⟨v,w',A,B,h3,h4,h5⟩:=V9 h (a0 (by simp[ho,aD])) hz
  exact⟨_,v,w',Γ,_,by simp[execOp,ho,A],.inl rfl,B,h3,h5,.inr ⟨by simp[ho,aD],rfl⟩,h4⟩
 case h_5 t x ho=>
  let⟨cs,S,F⟩:=fP z
  cases F
  let⟨v,w',A,B,h3,h4,h5⟩:=qb4 (t:=t) h (a0 (by simp[ho,aD])) (e x) S
  exact⟨_,v,w',Γ,_,by simp[execOp,ho,A],.inl rfl,B,h3,h5,.inr ⟨by simp[ho,aD],rfl⟩,h4⟩
 case h_6 t ho=>
  cases z
  let⟨v,w',A,B,h3,h4,h5⟩:=qal (t:=t) h (a0 (by simp[ho,aD]))
  exact⟨_,v,w',Γ,_,by simp[execOp,ho,A],.inl rfl,B,h3,h5,.inr ⟨by simp[ho,aD],rfl⟩,h4⟩
 case h_7 t parts ho=>
  let⟨q,L,F⟩:=fP z
  cases F
  let⟨k1,k2⟩:=GA e parts.toList
  let⟨v,A,B⟩:=H8 k1 k2 L
  refine .quiet h ⟨v,?_,B⟩
  have:(parts.map λx=>(x.1,(Act.mk a R).eval x.2))=(parts.toList.map λx=>(x.1,(Act.mk a R).eval x.2)).toArray:=by apply vb0;simp
  simp only[execOp,ho]
  rw[this]
  simp[A]
 case h_8 t len parts ho=>
  let⟨q,L,F⟩:=fP z
  cases F
  let⟨k1,k2⟩:=GA e parts.toList
  let⟨v,w',a1,A,B,h3,h4,_,_⟩:=Ji h k1 k2 L
  refine⟨_,v,w',a1,bs,?_,.inl rfl,B,h4,h3,.inl rfl,.refl _⟩
  have:(parts.map λx=>(x.1,(Act.mk a R).eval x.2))=(parts.toList.map λx=>(x.1,(Act.mk a R).eval x.2)).toArray:=by apply vb0;simp
  simp only[execOp,ho]
  rw[this]
  simp[A]
 case h_9 t x ho=>
  let⟨q,L,F⟩:=fP z
  cases F
  let⟨v,A,B⟩:=xj h (e x) L
  exact .quiet h ⟨v,by simp[execOp,ho,A],B⟩
 case h_10 t x y ho=>
  let⟨q,L,F⟩:=fP z
  cases F
  let⟨w',A,B,h3⟩:=Wt h (e x) (e y) L
  exact⟨.skip,undef,w',Γ,bs,by simp[execOp,ho,A],.inr ⟨rfl,rfl⟩,B,.val _,h3,.inl rfl,.refl _⟩
 case h_11 x ho=>
  have hx:=e x
  split at z
  .rename_i cs S;rw[S]at hx;cases z
   generalize X:(Act.mk a R).eval x=vx at hx
   refine .quiet h ⟨vx,?_,hx⟩
   cases hx<;>simp[execOp,ho,X]
  .rename_i i a2 S;rw[S]at hx;cases z
   generalize X:(Act.mk a R).eval x=vx at hx
   refine .quiet h ⟨vx,?_,hx⟩
   cases hx;simp[execOp,ho,X]
  .rename_i f first cap S;rw[S]at hx;cases z
   generalize X:(Act.mk a R).eval x=vx at hx
   refine .quiet h ⟨vx,?_,hx⟩
   cases hx;simp[execOp,ho,X]
  .cases z
 case h_12 op a3 x y yT ho=>
  let⟨q,L,F⟩:=fP z
  cases F
  let⟨v,A,B⟩:=Wa (P:=P) (e x) (e y) x y L
  refine .quiet h ⟨v,?_,B⟩
  simp only[execOp,ho,Sem.run_bind]at A ⊢
  rw[A];rfl
 case h_13 op a3 x ho=>
  let⟨q,L,F⟩:=fP z
  cases F
  let⟨v,A,B⟩:=qlU (P:=P) (e x) L
  exact .quiet h ⟨v,by simp[execOp,ho,A],B⟩
 case h_14 s d x ho=>
  let⟨q,L,F⟩:=fP z
  cases F
  let⟨v,A,B⟩:=qgT (P:=P) (e x) L
  exact .quiet h ⟨v,by simp[execOp,ho,A],B⟩
 case h_15 fn first cap ho=>
  cases z
  refine .quiet h ⟨.func fn (first.map (Act.mk a R).eval) (cap.map (Act.mk a R).eval),by simp[execOp,ho,Instr.makeFunc],.func fn _ _ _ _ (by simp) (by simp) (λi p v z X=>?_) (λi p v z X=>?_)⟩
  .exact Me e first.toList i p v z (by simpa using X)
  .exact Me e cap.toList i p v z (by simpa using X)
 case h_16 t x lo hi ho=>
  let⟨q,L,F⟩:=fP z
  cases F
  let⟨v,A,B⟩:=Ws (P:=P) (e x) (lo:=lo.map (opv E.GE st.tmps)) (hi:=hi.map (opv E.GE st.tmps)) (vlo:=lo.map (Act.mk a R).eval) (vhi:=hi.map (Act.mk a R).eval)
   (λp z=>by cases lo<;>simp at z;subst z;exact⟨_,rfl,e _⟩) (λhn=>by cases lo<;>simp at hn ⊢) (λp z=>by cases hi<;>simp at z;subst z;exact⟨_,rfl,e _⟩) (λhn=>by cases hi<;>simp at hn ⊢) L
  exact .quiet h ⟨v,by simp[execOp,ho,A],B⟩
 case h_17 s x f ho=>
  let⟨q,L,F⟩:=fP z
  cases F
  let⟨v,A,B⟩:=uS (P:=P) (e x) L
  exact .quiet h ⟨v,by simp[execOp,ho,A],B⟩
 case h_18 t x f ho=>
  let⟨q,L,F⟩:=fP z
  cases F
  let⟨v,A,B⟩:=qdY (P:=P) (e x) L
  exact .quiet h ⟨v,by simp[execOp,ho,A],B⟩
 case h_19 t x i ho=>
  let⟨q,L,F⟩:=fP z
  cases F
  let⟨v,A,B⟩:=Wf (P:=P) (e x) (e i) L
  exact .quiet h ⟨v,by simp[execOp,ho,A],B⟩
 case h_20 t x i ho=>
  let⟨q,L,F⟩:=fP z
  cases F
  let⟨v,A,B⟩:=qdZ (P:=P) (e x) (e i) L
  exact .quiet h ⟨v,by simp[execOp,ho,A],B⟩
 case h_21 t m k ok ho=>
  let⟨q,L,F⟩:=fP z
  cases F
  let⟨v,A,B⟩:=qcb h (e m) (e k) L
  exact .quiet h ⟨v,by simp[execOp,ho,A],B⟩
 case h_22 t m k x ho=>
  let⟨q,L,F⟩:=fP z
  cases F
  let⟨w',A,B,h3⟩:=Wi h (e m) (e k) (e x) L
  exact⟨.skip,undef,w',Γ,bs,by simp[execOp,ho,A],.inr ⟨rfl,rfl⟩,B,.val _,h3,.inl rfl,.refl _⟩
 case h_23 t i ho=>
  let⟨q,L,F⟩:=fP z
  cases F
  let⟨v,A,B⟩:=Qt (P:=P) (e t) L
  exact .quiet h ⟨v,by simp[execOp,ho,A],B⟩
 case h_24 x t ho=>
  let⟨q,L,F⟩:=fP z
  cases F
  let⟨v,A,B⟩:=qjJ (ty:=o.type) h (e x) L
  exact .quiet h ⟨v,by simp[execOp,ho,resolve,invoke,builtin,A],B⟩
 case h_25 x r tys ho=>
  let⟨q,L,F⟩:=fP z
  cases F
  let⟨v,A,B⟩:=Sn (P:=P) qg3 (r.map (opv E.GE st.tmps)) (r.map (Act.mk a R).eval) _ _ (by simp) (e x) (Me e r) L
  exact .quiet h ⟨v,by simp[execOp,ho,resolve,invoke,builtin,Builtin.max_,A],B⟩
 case h_26 x r tys ho=>
  let⟨q,L,F⟩:=fP z
  cases F
  let⟨v,A,B⟩:=Sn (P:=P) qg4 (r.map (opv E.GE st.tmps)) (r.map (Act.mk a R).eval) _ _ (by simp) (e x) (Me e r) L
  exact .quiet h ⟨v,by simp[execOp,ho,resolve,invoke,builtin,Builtin.min_,A],B⟩
 case h_27=>cases z
end
def aV(a:bC)(c:Nat->Q kg)(b:Nat):Prop:=(∃i:Nat,a[i]? =O (O b))\/c b≠N
def C(P:I)(GE:V (Nat×V U))(f:FuncId)(a:V U)(o:V ((Nat×Nat)×G))(H:V ay)(r:U)(p:V (Nat×G))(m:V ay):Prop:=(∀b w,(callFunc f b).run P w=.ok (.enter f b) w)/\ ∀(Γ:aS)(c:bC)(d:Nat->Q kg)(w:J)(b:Array D),SR P ⟨GE,Γ,w,aV c d⟩ Γ c d w b ⟨a,H,o⟩-> Calls P f b w λe q=>∃v i h,e=.returned v/\SR P ⟨GE,Γ,w,aV c d⟩ i c h q #[v] ⟨[r],m,p.map λx=>((0,x.1),x.2)⟩
section
variable{P:I}{E:qy}{Γ:aS}{bs:bC}{c:Nat->Q kg}{w:J}{a:Array D}{st:az}
def qm2.refl(GE:V (Nat×V U))(Γ:aS)(w:J)(b:Nat->Prop):qm2 ⟨GE,Γ,w,b⟩ Γ w:=⟨rfl,rfl,rfl,l8 _,l8 _,λ_ _ _=>⟨rfl,rfl⟩,.refl _ _⟩
def Tb(d:Nat)(e c:Nat->Q kg):Nat->Q kg:=λb=>match e b with|some (.tmp _ k)=>O (.tmp d k)|_=>c b
def SR.setResult(h:SR P E Γ bs c w a st){d:Nat}{r:U}{v:D}(hd:d<a.size)(hv:VR Γ bs w r v){owC:Nat->Q kg}{ro:V (Nat×G)}
  (S:∀k e,(k,e)∈ro->∃s,jz v k=O s/\eI P Γ w s e/\∀b,s.ownBlock=O b->owC b=O (.tmp 0 k))
  (m:∀b t k,owC b=O (.tmp t k)->c b=N/\b<w.heap.size/\(E.T b\/E.w.heap.size<=b)):
  SR P E Γ bs (Tb d owC c) w (a.setIfInBounds d v) {st with tmps:=st.tmps.set d r,own:=(ro.map λx=>((d,x.1),x.2))++bI d st.own}:=by
 have hs:=h.set (d:=d) (p:=r) hv
 have o:∀b L,c b=O L->Tb d owC c b=O L:=λb L y=>by
  unfold Tb;split;.rename_i t k q;rw[(m b _ _ q).1]at y;cases y
  .exact y
 exact{hs with
  on:=λb L y=>by
   unfold Tb at y;split at y;.rename_i t k q;exact(m b _ _ q).2
   .exact h.on b L y
  ot:=λt k e z=>by
   rcases vz.1 z with z|z;.simp only[l9,Prod.mk.injEq]at z;obtain⟨⟨k',e'⟩,hm,⟨rfl,rfl⟩,rfl⟩:=z;let⟨s,A,F,B⟩:=S k' e' hm;refine⟨v,s,by simp[hd],A,F,λb q=>?_⟩;have:=B b q;simp[Tb,this]
   .let⟨u,s,A,F,B,H⟩:=hs.ot t k e z;exact⟨u,s,A,F,B,λb q=>o b _ (H b q)⟩
  ob:=λi j e cs own b hB hj q=>by let⟨s,A,B,H⟩:=h.ob i j e cs own b hB hj q;exact⟨s,A,B,λX R=>o X _ (H X R)⟩}
def qfQ(h:SR P E Γ bs c w a st){g:FuncId}{m:V U}{r:U}{ro:V (Nat×G)}{H:Array D}{d:Nat}(hd:d<a.size)(hC:C P E.GE g m [] [] r ro [])
  (hl:H.size=m.length) (hv:∀(i:Nat) p v,m[i]? =O p->H[i]? =O v->VR Γ bs w p v) (a0:ie 0 m):
  Calls P g H w λe w'=>∃v q a3,e=.returned v/\SR P E q bs a3 w' (a.setIfInBounds d v) {st with tmps:=st.tmps.set d r,own:=(ro.map λx=>((d,x.1),x.2))++bI d st.own}/\Γ.Le w q w':=by
 have F:SR P ⟨E.GE,Γ,w,aV [] λ_=>N⟩ Γ [] (λ_=>N) w H ⟨m,[],[]⟩:={
  wi:=h.wi
  sz:=hl
  tm:=λt p v hp a2=>(hv t p v hp a2).restrict (n:=0) (qj a0 hp) (λi b z _=>absurd z (w0 _))
  bl:=rfl
  bx:=λi b B o=>by simp at o
  inj:=λi j b o=>by simp at o
  bn:=λi b o=>by simp at o
  on:=λb L hL=>by cases hL
  ot:=λt k e he=>by simp at he
  ob:=λi j e R own b hB=>by simp at hB
  gl:=λg R X=>(h.gl g R X).restrict (n:=0) (by simp only[PVal.cl];exact h.gc g R X) (λi b z _=>absurd z (w0 _))
  gc:=h.gc
  gx:=λg R X=>by let⟨k1,_,_,k4⟩:=h.gnow X;exact⟨k1,λS=>S.elim (λy=>by let⟨i,z⟩:=y;simp at z) (λy=>y rfl),k4⟩
  step:=.refl _ _ _ _}
 refine(hC.2 Γ [] (λ_=>N) w H F).mono λe w' he=>?_
 obtain⟨v,q,a4,rfl,s⟩:=he
 have S:∀b,¬aV [] (λ_=>N) b:=λb o=>by
  rcases o with⟨i,z⟩|o;.simp at z
  .exact o rfl
 have A:Γ.Le w q w':=s.step.le
 have hw:=h.world (λ_=>False) A s.wi s.step.os s.step.tape s.step.output s.step.size (λb o _=>s.step.keep b o (S b)) (λ_ y=>y.elim) (λ_ _ _ y=>y) (λ_ _ _ y=>y) s.step.drawn
 have hr:VR q bs w' r v:=(s.tm 0 r v rfl rfl).mono (.refl _ _) (λi b o=>by simp at o)
 refine⟨v,q,Tb d a4 c,rfl,hw.setResult hd hr (λk e hm=>?_) (λb t k o=>?_),A⟩
 .let⟨u,v',h1,h2,h3,h4⟩:=s.ot 0 k e (l9.2 ⟨(k,e),hm,rfl⟩)
  simp at h1;subst h1
  exact⟨v',h2,h3,h4⟩
 .let⟨k1,k2⟩:=s.on b _ o
  have a1:w.heap.size<=b:=k2.resolve_left (S b)
  refine⟨?_,k1,.inr (m0 h.step.size a1)⟩
  cases hL:c b with
  |none=>rfl
  |some L=>have:=(h.on b L hL).1;omega
end
inductive DG(ρ:List Nat):PVal->PVal->Prop where
 |refl (p:PVal) (h:p.cl 0):DG ρ p p
 |bptr (i j off:Nat) (h:ρ[i]? =some j):DG ρ (.bptr j off) (.bptr i off)
 |mapr (i j:Nat) (h:ρ[i]? =some j):DG ρ (.mapr j) (.mapr i)
 |nptr (i j:Nat) (T:TypeId) (h:ρ[i]? =some j):DG ρ (.nptr j T) (.nptr i T)
 |bsl (i j off n:Nat) (h:ρ[i]? =some j):DG ρ (.bsl j off n) (.bsl i off n)
 | func (fn:Fn) (f c f' c':List PVal) (hl:f.length = f'.length) (hl':c.length = c'.length)
   (h:∀(i:Nat) p q,f[i]? =some p->f'[i]? =some q->DG ρ p q) (h':∀(i:Nat) p q,c[i]? =some p->c'[i]? =some q->DG ρ p q):DG ρ (.func fn f c) (.func fn f' c')
 |agg (f f':List PVal) (hl:f.length=f'.length) (h:∀(i:Nat) p q,f[i]? =some p->f'[i]? =some q->DG ρ p q):DG ρ (.agg f) (.agg f')
def kh(ρ:V Nat):ay->ay->Prop|.cells cs own,.cells cs' own'=>own=own'/\cs.length=cs'.length/\∀(i:Nat) p q,cs[i]? =O p->cs'[i]? =O q->DG ρ p q|.map es,.map es'=>es.length=es'.length/\∀(i:Nat) k u k' u',es[i]? =O (k,u)->es'[i]? =O (k',u')->DG ρ k k'/\DG ρ u u'|.dead,.dead=>True|_,_=>False
section
variable{P:I}{E:qy}{Γ:aS}{bs m:bC}{o:Nat->Q kg}{w:J}{a:Array D}{st:az}{ρ:V Nat}
def DG.to{p q:U}(z:DG ρ p q)(e:∀(i j:Nat),ρ[i]? =O j->m[i]? =bs[j]?):∀{v:D},VR Γ bs w p v->VR Γ m w q v:=by
 induction z with
 |refl p h=>intro v d;exact d.restrict (n:=0) h λi b y _=>absurd y (w0 _)
 |bptr i j off h=>intro v d;cases d with|bptr _ _ b h'=>exact .bptr _ _ _ ((e i j h).trans h')
 |mapr i j h=>intro v d;cases d with|mapr _ b h'=>exact .mapr _ _ ((e i j h).trans h')
 |nptr i j A h=>intro v d;cases d with|nptrN _ _=>exact .nptrN _ _|nptr _ b _ h'=>exact .nptr _ _ _ ((e i j h).trans h')
 |bsl i j off n h=>intro v d;cases d with|bsl _ _ _ x cap hcap hnil hx=>exact .bsl _ _ _ x cap hcap hnil (hx.imp_right λ⟨b,s,t⟩=>⟨b,s,(e i j h).trans t⟩)
 | func fn f c f' c' hl hl' _ _ ih ih' =>
  intro v d;cases d with
  | func fn f c fs cs k k' h h' =>
   refine .func fn f' c' fs cs (by omega) (by omega) (λi p v r d=>?_) (λi p v r d=>?_);.grind [aq]
   grind [aq]
 | agg f f' hl _ ih =>intro v d;cases d with|agg f fs k h=>refine .agg f' fs (by omega) (λi p v r d=>?_);grind [aq]
def DG.from{p q:U}(z:DG ρ p q)(e:∀(i j:Nat),ρ[i]? =O j->m[i]? =bs[j]?):∀{v:D},VR Γ m w q v->VR Γ bs w p v:=by
 induction z with
 |refl p h=>intro v d;exact d.restrict (n:=0) h λi b y _=>absurd y (w0 _)
 |bptr i j off h=>intro v d;cases d with|bptr _ _ b h'=>exact .bptr _ _ _ ((e i j h).symm.trans h')
 |mapr i j h=>intro v d;cases d with|mapr _ b h'=>exact .mapr _ _ ((e i j h).symm.trans h')
 |nptr i j A h=>intro v d;cases d with|nptrN _ _=>exact .nptrN _ _|nptr _ b _ h'=>exact .nptr _ _ _ ((e i j h).symm.trans h')
 |bsl i j off n h=>intro v d;cases d with|bsl _ _ _ x cap hcap hnil hx=>exact .bsl _ _ _ x cap hcap hnil (hx.imp_right λ⟨b,s,t⟩=>⟨b,s,(e i j h).symm.trans t⟩)
 | func fn f c f' c' hl hl' _ _ ih ih' =>
  intro v d;cases d with
  | func fn f' c' fs cs k k' h h' =>
   refine .func fn f c fs cs (by omega) (by omega) (λi p v r d=>?_) (λi p v r d=>?_);.grind
   grind
 | agg f f' hl _ ih =>intro v d;cases d with|agg f' fs k h=>refine .agg f fs (by omega) (λi p v r d=>?_);grind
def DG.nptr_to{p:U}{i:Nat}{T:G}(h:DG ρ p (.nptr i T)):∃j,p=.nptr j T:=by cases h with|refl _ _=>simp|nptr _ j _ _=>simp
def DG.nptr_from{q:U}{i:Nat}{T:G}(h:DG ρ (.nptr i T) q):∃j,q=.nptr j T:=by cases h with|refl _ _=>simp|nptr j _ _ _=>simp
def kh.to{B r:ay}{b:Nat}(d:kh ρ B r)(A:∀(i j:Nat),ρ[i]? =O j->m[i]? =bs[j]?)(h:BR Γ bs w B b):BR Γ m w r b:=by
 cases B<;>cases r<;>simp only[kh]at d
 .rename_i R own X S;let⟨_,hl,d⟩:=d;let⟨c,t,s,h2,y,z⟩:=h;refine⟨c,t,s,by omega,λj p v e L=>?_,λj i a2 q=>?_⟩;.have q:=aq e;have:=m3 (l:=R) (i:=j) (by omega);exact(d j _ p this e).to A (y j _ v this L)
  .have a1:=aq q;have F:=m3 (l:=R) (i:=j) (by omega);let⟨i',H⟩:=(d j _ _ F q).nptr_to;rw[H]at F;have:=z j i' a2 F;simp_all
 .rename_i es a0;let⟨hl,d⟩:=d;let⟨c,t,s,h2,y,z⟩:=h;refine⟨c,t,s,by omega,λj k u x e L=>?_,z⟩;have q:=aq e;have:=m3 (l:=es) (i:=j) (by omega);let⟨r1,r2⟩:=d j _ _ k u this e;let⟨q1,q2⟩:=y j _ _ x this L;exact⟨r1.to A q1,r2.to A q2⟩
 .trivial
def kh.from{B s:ay}{b:Nat}(d:kh ρ B s)(H:∀(i j:Nat),ρ[i]? =O j->m[i]? =bs[j]?)(h:BR Γ m w s b):BR Γ bs w B b:=by
 cases B<;>cases s<;>simp only[kh]at d
 .rename_i cs own e X;let⟨_,hl,d⟩:=d;let⟨c,t,z,h2,A,F⟩:=h;refine⟨c,t,z,by omega,λj p v q S=>?_,λj i a1 r=>?_⟩;.have r:=aq q;have:=m3 (l:=e) (i:=j) (by omega);exact(d j p _ q this).from H (A j _ v this S)
  .have a0:=aq r;have L:=m3 (l:=e) (i:=j) (by omega);let⟨i',R⟩:=(d j _ _ r L).nptr_from;rw[R]at L;have:=F j i' a1 L;simp_all
 .rename_i es y;let⟨hl,d⟩:=d;let⟨c,t,z,h2,A,F⟩:=h;refine⟨c,t,z,by omega,λj k u x q S=>?_,F⟩;have r:=aq q;have:=m3 (l:=y) (i:=j) (by omega);let⟨r1,r2⟩:=d j k u _ _ q this;let⟨q1,q2⟩:=A j _ _ x this S;exact⟨r1.from H q1,r2.from H q2⟩
 .trivial
structure J7(ρ:List Nat)(H:List ay)(Hc:List ay):Prop where
 len:Hc.length=ρ.length
 box:∀(i j:Nat),ρ[i]? =some j->∃B Bc,H[j]? =some B/\Hc[i]? =some Bc/\kh ρ B Bc
def jH(ρ:V Nat)(Γ:aS)(o:Nat->Q kg):Nat->Q kg:=λb=>match o b with|some (.box j k)=>if(Γ b).isSome/\j∈ρ then O (.box (ρ.idxOf j) k)else N|_=>N
def FY(ρ:V Nat)(d:Nat)(c o:Nat->Q kg):Nat->Q kg:=λb=>match c b with|some (.box i k)=>O (.box (ρ.getD i 0) k)|some (.tmp _ k)=>O (.tmp d k)|none=>match o b with|some (.box j k)=>if j∈ρ then N else O (.box j k)|x=>x
def Mc{ρ:V Nat}(b:ρ.Nodup){i j:Nat}(h:ρ[i]? =O j):ρ.idxOf j=i:=by grind
def qc0(h:SR P E Γ bs o w a st){g:FuncId}{a2 a1:V U}{r rc:U}{ro:V (Nat×G)}{Hc b5 H':V ay}{vs:Array D}{d:Nat}(hd:d<a.size)
  (hn:ρ.Nodup) (hC:C P E.GE g a1 [] Hc rc ro b5) (hH:J7 ρ st.boxes Hc) (b7:J7 ρ H' b5) (be:H'.length=st.boxes.length) (an:∀j:Nat,j∉ρ->H'[j]? =st.boxes[j]?)
  (hr:DG ρ r rc) (c9:a2.length=a1.length) (ha:∀(i:Nat) p q,a2[i]? =O p->a1[i]? =O q->DG ρ p q)
  (hl:vs.size=a2.length) (hv:∀(i:Nat) p v,a2[i]? =O p->vs[i]? =O v->VR Γ bs w p v):
  Calls P g vs w λe w'=>∃v a6 c7,e=.returned v/\SR P E a6 bs c7 w' (a.setIfInBounds d v) {st with tmps:=st.tmps.set d r,boxes:=H',own:=(ro.map λx=>((d,x.1),x.2))++bI d st.own}/\Γ.Le w a6 w':=by
 let m:bC:=ρ.map λj=>(bs[j]?).getD N
 have c8:∀{i j:Nat},ρ[i]? =O j->j<st.boxes.length:=λ{i j} z=>by let⟨B,_,hB,_⟩:=hH.box i j z;grind
 have a8:∀(i j:Nat),ρ[i]? =O j->m[i]? =bs[j]?:=by
  intro i j z;have hj:j<bs.length:=by rw[h.bl];grind
  grind
 have a5:∀{i b:Nat},m[i]? =O (O b)->∃j,ρ[i]? =O j/\bs[j]? =O (O b):=by grind
 have a7:∀{b L},jH ρ Γ o b=O L->∃j k,o b=O (.box j k)/\(Γ b).isSome/\j∈ρ/\L=.box (ρ.idxOf j) k:=by intro b L hL;unfold jH at hL;grind
 have bg:SR P ⟨E.GE,Γ,w,aV m (jH ρ Γ o)⟩ Γ m (jH ρ Γ o) w vs ⟨a1,Hc,[]⟩:={
  wi:=h.wi
  sz:=by simp_all
  tm:=λt q v hq c4=>by have ht:=aq hq;have hp:=m3 (l:=a2) (i:=t) (by simp_all);exact(ha t _ q hp hq).to a8 (hv t _ v hp c4)
  bl:=by simp[m,hH.len]
  bx:=λi b Bc br ab=>by let⟨j,z,c⟩:=a5 br;let⟨B,bm,hB,a3,F⟩:=hH.box i j z;rw[ab]at a3;cases a3;let⟨k1,H,k3⟩:=h.bx j b B c hB;exact⟨k1,H,F.to a8 k3⟩
  inj:=λi j b hi hj=>by let⟨x,F,c5⟩:=a5 hi;let⟨y,hy,c6⟩:=a5 hj;have:=h.inj x y b c5 c6;subst this;rw[<-Mc hn F,Mc hn hy]
  bn:=λi b s=>.inl (.inl ⟨i,s⟩)
  on:=λb L hL=>by let⟨j,k,s,_⟩:=a7 hL;exact⟨(h.on b _ s).1,.inl (.inr (by simp_all))⟩
  ot:=λt k e he=>by simp_all
  ob:=λi k e cs own b hB hk s=>by
   let⟨j,z,c⟩:=a5 s;let⟨B,bm,a4,a3,F⟩:=hH.box i j z;rw[hB]at a3;cases a3;cases B with
   |cells cs' own'=>
    obtain⟨rfl,_,_⟩:=F;let⟨v,k1,H,k3⟩:=h.ob j k e cs' own' b a4 hk c;refine⟨v,k1,H,λb' a0=>?_⟩;have hg:(Γ b').isSome:=by let⟨n,xs,_,o2⟩:=H;simp_all
    simp only[jH,k3 b' a0];grind
   |map es=>simp_all[kh]
   |dead=>simp_all[kh]
  gl:=λg cs hg=>(h.gl g cs hg).restrict (n:=0) (by simp only[PVal.cl];exact h.gc g cs hg) (λi b hi _=>absurd hi (w0 _))
  gc:=h.gc
  gx:=λg cs hg=>by
   let⟨k1,H,k3,k4⟩:=h.gnow hg;refine⟨k1,λhT=>?_,k4⟩;rcases hT with⟨i,hi⟩|hT;.grind
   simp_all[jH]
  step:=.refl _ _ _ _}
 refine(hC.2 Γ m _ w vs bg).mono λe w' he=>?_
 obtain⟨v,a6,ar,rfl,hS⟩:=he
 have ad:Γ.Le w a6 w':=hS.step.le
 have b2:∀b,aV m (jH ρ Γ o) b->E.T b\/E.w.heap.size<=b:=by
  intro b s;rcases s with⟨i,hi⟩|s;.let⟨j,_,c⟩:=a5 hi;exact h.bn j b c
  .cases hL:jH ρ Γ o b with|none=>simp_all|some L=>let⟨j,k,hk,_⟩:=a7 hL;exact(h.on b _ hk).2
 have S:∀b,b<w.heap.size->¬aV m (jH ρ Γ o) b->w'.heap[b]? =w.heap[b]?/\a6 b=Γ b:=λb s hT=>hS.step.keep b s hT
 have A:∀{b L},o b=O L->(Γ b).isSome->(∀j k,L=.box j k->j∉ρ)->¬aV m (jH ρ Γ o) b:=by
  intro b L hL hg a9 hT;rcases hT with⟨i,hi⟩|hT;.let⟨j,z,c⟩:=a5 hi;let⟨B,_,hB,_⟩:=hH.box i j z;rw[(h.bx j b B c hB).1]at hg;grind
  .cases b1:jH ρ Γ o b with|none=>simp_all|some L'=>let⟨j,k,hk,_,hj,_⟩:=a7 b1;grind
 have X:∀{j b:Nat},bs[j]? =O (O b)->j∉ρ->¬aV m (jH ρ Γ o) b:=by
  intro j b c hj hT;rcases hT with⟨i,hi⟩|hT;.let⟨j',z,bc⟩:=a5 hi;have:=h.inj _ _ _ c bc;grind
  .cases b1:jH ρ Γ o b with
   |none=>simp_all
   |some L'=>
    let⟨j',k,hk,hg,_⟩:=a7 b1;have bt:j<st.boxes.length:=by rw[<-h.bl];grind [aq]
    rw[(h.bx j b _ c (m3 bt)).1]at hg;grind
 have b0:∀{b L},o b=O L->(Γ b).isSome->(∀j k,L=.box j k->j∉ρ)->FY ρ d ar o b=O L:=by
  intro b L hL hg a9;have hT:=A hL hg a9;have b4:ar b=N:=by
   cases F:ar b with
   |none=>rfl
   | some L' =>
    let⟨_,H⟩:=hS.on b L' F;rcases H with H|H;.simp_all
    .have:=(h.on b L hL).1;grind
  unfold FY;rw[b4];simp only[hL];cases L with|tmp t k=>rfl|box j k=>simp only;rw[hG (a9 j k rfl)]
 have R:∀{v:D}{e:G}{b:Nat},eI P Γ w v e->v.ownBlock=O b->(Γ b).isSome:=by intro v e b ho s;let⟨n,xs,_,o2⟩:=ho;rw[o2 b s];rfl
 have c2:VR a6 bs w' r v:=hr.from a8 (hS.tm 0 rc v rfl rfl)
 refine⟨v,a6,FY ρ d ar o,rfl,?_,ad⟩
 exact{
  wi:=hS.wi
  sz:=by simp[h.sz]
  tm:=λt q u hq hu=>by
   simp only[vbP]at hq;rw[vba]at hu;by_cases bb:d=t
   .subst bb;simp only[if_true]at hq hu;split at hu
    .split at hq;.cases hu;cases hq;exact c2
     .cases hq
    .rename_i c1;exact absurd hd c1
   .simp only[bb,if_false]at hq hu;exact(h.tm t q u hq hu).mono ad (.refl _)
  bl:=by simp[h.bl,be]
  bx:=λj b B c hB=>by
   by_cases hj:j∈ρ;.let⟨i,z⟩:=vbc.1 hj;let⟨B',Bc,a4,ab,F⟩:=b7.box i j z;rw[hB]at a4;cases a4;let⟨k1,H,k3⟩:=hS.bx i b Bc ((a8 i j z).trans c) ab;exact⟨k1,H,F.from a8 k3⟩
   .have ao:st.boxes[j]? =O B:=(an j hj).symm.trans hB;let⟨k1,H,k3⟩:=h.bx j b B c ao;let⟨q1,q2⟩:=S b H (X c hj);exact⟨q2.trans k1,R3 H hS.step.size,k3.mono ad (.refl _) q1⟩
  inj:=h.inj
  bn:=h.bn
  on:=λb L hL=>by
   unfold FY at hL;split at hL;.rename_i i k s;let⟨k1,H⟩:=hS.on b _ s;exact⟨k1,H.elim (b2 b) (λF=>.inr (m0 h.step.size F))⟩
   .rename_i t k s;let⟨k1,H⟩:=hS.on b _ s;exact⟨k1,H.elim (b2 b) (λF=>.inr (m0 h.step.size F))⟩
   .have bi:=hS.step.size;split at hL;.rename_i j k s;exact⟨R3 (h.on b _ s).1 bi,(h.on b _ s).2⟩
    .exact⟨R3 (h.on b _ hL).1 bi,(h.on b _ hL).2⟩
  ot:=λt k e he=>by
   rcases vz.1 he with he|he;.simp only[l9,Prod.mk.injEq]at he;obtain⟨⟨k',e'⟩,hm,⟨rfl,rfl⟩,rfl⟩:=he;let⟨u,v',h1,h2,h3,h4⟩:=hS.ot 0 k' e' (l9.2 ⟨(k',e'),hm,rfl⟩);simp at h1;subst h1;refine⟨v,v',by simp[hd],h2,h3,λb s=>?_⟩;simp only[FY,h4 b s]
   .let⟨he,c3⟩:=ed he;let⟨u,v',h1,h2,h3,h4⟩:=h.ot t k e he;have hq:∀b,v'.ownBlock=O b->¬aV m (jH ρ Γ o) b:=λb s=>A (h4 b s) (R h3 s) (λj k F=>by cases F);exact⟨u,v',by rw[vaI (λe=>c3 e.symm)];exact h1,h2,h3.same λb s=>S b (h3.lt s) (hq b s),λb s=>b0 (h4 b s) (R h3 s) (λj k F=>by cases F)⟩
  ob:=λj k e cs own b hB hk c=>by
   by_cases hj:j∈ρ
   .let⟨i,z⟩:=vbc.1 hj;let⟨B',Bc,a4,ab,F⟩:=b7.box i j z;rw[hB]at a4;cases a4;cases Bc with
    |cells cs' own'=>
     obtain⟨rfl,_,_⟩:=F;let⟨v',k1,H,k3⟩:=hS.ob i k e cs' own b ab hk ((a8 i j z).trans c);refine⟨v',k1,H,λb' a0=>?_⟩;have bq:ρ.getD i 0=j:=by rw[vav,z];rfl
     simp only[FY,k3 b' a0,bq]
    |map es=>simp[kh]at F
    |dead=>simp[kh]at F
   .have ao:st.boxes[j]? =O (.cells cs own):=(an j hj).symm.trans hB;let⟨v',k1,H,k3⟩:=h.ob j k e cs own b ao hk c;let⟨_,b3,_⟩:=h.bx j b _ c ao;have a9:∀j' k',kg.box j k=.box j' k'->j'∉ρ:=λj' k' F=>by cases F;exact hj
    exact⟨v',(bE (S b b3 (X c hj)).1 k).trans k1,H.same λb' a0=>S b' (H.lt a0) (A (k3 b' a0) (R H a0) a9),λb' a0=>b0 (k3 b' a0) (R H a0) a9⟩
  gl:=λg cs hg=>(h.gl g cs hg).mono ad (.refl _)
  gc:=h.gc
  gx:=h.gx
  step:={
   os:=hS.step.os.trans h.step.os
   tape:=hS.step.tape.trans h.step.tape
   output:=hS.step.output.trans h.step.output
   size:=m0 h.step.size hS.step.size
   drawn:=m0 h.step.drawn hS.step.drawn
   keep:=λb s hT=>by have b3:b<w.heap.size:=R3 s h.step.size;have c0:¬aV m (jH ρ Γ o) b:=λF=>(b2 b F).elim hT (λF=>absurd F (vcN.2 s));let⟨k1,H⟩:=h.step.keep b s hT;let⟨q1,q2⟩:=S b b3 c0;exact⟨q1.trans k1,q2.trans H⟩
   le:=h.step.le.trans ad}}
end
end Go.Proofs.YtankopenjcbeeaaGreatDoor
