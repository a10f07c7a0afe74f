/- PROVED: a part of the proof. Conditions: none. -/
import Derived.Test.YtkdahfeiedaahaaGreatDoorPkR1
import Derived.Lib.AppendStr
set_option linter.unusedSimpArgs false
set_option linter.unusedVariables false
noncomputable section
namespace Go.Proofs.YtkdahfeiedaahaaGreatDoor
open Go
section
variable{P:Program}{E:lh}{Γ:aP}{bs:be}{ow:Nat->Option iL}{w:World}{a:Array Value}{st:aB}
theorem LT{sz:Nat}:∀(parts:List (Nat×PVal)) (k:Nat) {es:List (List PVal)},AI sz k parts=some es->
  es.length=parts.length/\(∀(i:Nat) e,es[i]? =some e->e.length=sz)/\∀(i:Nat) x,parts[i]? =some x->x.1=k+i/\cj x.2=es[i]?
 |[],k,es,h=>by
  simp only[AI,vax]at h;subst h
  exact⟨rfl,by simp,by simp⟩
 | (i,v) :: rest,k,es,h => by
  simp only[AI]at h
  split at h
  ·rename_i vs r hvs hr
   split at h
   ·rename_i hh
    obtain⟨rfl,hsz⟩:=hh
    cases h
    obtain⟨h1,h2,h3⟩:=LT rest (i+1) hr
    refine⟨by simp[h1],λj e hj=>?_,λj x hj=>?_⟩
    ·cases j with
     |zero=>simp at hj;subst hj;exact hsz
     |succ j=>exact h2 j e (by simpa using hj)
    ·cases j with
     |zero=>simp at hj;subst hj;simp[hvs]
     |succ j=>
      obtain⟨a1,a2⟩:=h3 j x (by simpa using hj)
      exact⟨by omega,by simpa using a2⟩
   ·cases h
  ·cases h
theorem Lb{sz:Nat}:∀(parts:List (Nat×Value)) (k:Nat) (cv:Array Value),(∀(i:Nat) x,parts[i]? =some x->x.1=k+i/\x.2.cells.size=sz)->(k+parts.length) * sz<=cv.size->
  ∃ov,Instr.fill (λi=>some (i * sz,sz)) cv parts=some ov/\ov.size=cv.size/\(∀(o:Nat),o<k * sz->ov[o]? =cv[o]?)/\
   ∀(i:Nat) x (j:Nat),parts[i]? =some x->j<sz->ov[(k+i) * sz+j]? =x.2.cells[j]?
 |[],k,cv,_,_=>⟨cv,rfl,rfl,λ_ _=>rfl,by simp⟩
 | (i0,v) :: rest,k,cv,hp,hl => by
  obtain⟨h1,h2⟩:=hp 0 (i0,v) rfl
  simp only[Nat.add_zero]at h1
  subst h1
  simp only[vau]at hl
  have hl':(i0+1+rest.length) * sz<=cv.size:=by rw[show i0+1+rest.length=i0+(rest.length+1)from by omega];exact hl
  have hkk:(i0+1) * sz<=(i0+1+rest.length) * sz:=vaY sz (by omega)
  rw[vbo i0 1,vbY]at hkk
  have hfold:∀(l:List Value) (m:Nat) (cv:Array Value),i0 * sz+m+l.length<=cv.size->
    ((l.zipIdx m).foldl (λcs (c,j)=>cs.setIfInBounds (i0 * sz+j) c) cv).size=cv.size/\
    ∀o,((l.zipIdx m).foldl (λcs (c,j)=>cs.setIfInBounds (i0 * sz+j) c) cv)[o]? =if i0 * sz+m<=o/\o<i0 * sz+m+l.length then l[o - (i0 * sz+m)]? else cv[o]?:=by
   intro l
   induction l with
   |nil=>intro m cv _;refine⟨by simp,λo=>?_⟩;rw[van (by simp)];simp
   | cons u l ih =>
    intro m cv hle
    simp only[vau]at hle
    simp only[List.zipIdx_cons,List.foldl_cons]
    obtain⟨e1,e2⟩:=ih (m+1) (cv.setIfInBounds (i0 * sz+m) u) (by simp;omega)
    refine⟨by rw[e1];simp,λo=>?_⟩
    rw[e2 o]
    simp only[vau]
    by_cases c1:o=i0 * sz+m
    ·subst c1
     rw[van (by omega),vah (by omega)]
     have a4:i0 * sz+m<cv.size:=by omega
     simp[a4]
    ·have hne:(cv.setIfInBounds (i0 * sz+m) u)[o]? =cv[o]?:=vaV (λe=>c1 e.symm)
     rw[hne]
     by_cases c2:i0 * sz+(m+1)<=o/\o<i0 * sz+(m+1)+l.length
     ·rw[vah c2,vah (by omega),show o - (i0 * sz+m)=(o - (i0 * sz+(m+1)))+1 from by omega];simp
     ·rw[van c2,van (by omega)]
  have hcl:v.cells.toList.length=sz:=by simpa using h2
  obtain⟨f1,f2⟩:=hfold v.cells.toList 0 cv (by omega)
  have hconv:(v.cells.zipIdx.foldl (λcs (c,j)=>cs.setIfInBounds (i0 * sz+j) c) cv)=(v.cells.toList.zipIdx.foldl (λcs (c,j)=>cs.setIfInBounds (i0 * sz+j) c) cv):=by
   rw[<-vct];simp only[vcm]
  rw[<-hconv]at f1 f2
  obtain⟨ov,r1,r2,r3,r4⟩:=Lb rest (i0+1) (v.cells.zipIdx.foldl (λcs (c,j)=>cs.setIfInBounds (i0 * sz+j) c) cv)
   (λi x hx=>by
    have:=hp (i+1) x (by simpa using hx)
    exact⟨by omega,this.2⟩) (by rw[f1];exact hl')
  refine⟨ov,?_,r2.trans f1,λo ho=>?_,λi x j hx hj=>?_⟩
  ·have h2':v.cells.size=sz:=h2
   simp only[Instr.fill]
   rw[van (by simp;omega)]
   exact r1
  ·rw[r3 o (by rw[vbo,vbY];omega),f2 o,van (by omega)]
  ·cases i with
   |zero=>
    simp at hx;subst hx
    rw[Nat.add_zero,r3 _ (by rw[vbo,vbY];omega),f2,vah (by omega)]
    simp
   |succ i=>
    have:=r4 i x j (by simpa using hx) hj
    rwa[show i0+1+i=i0+(i+1)from by omega]at this
theorem yY (h:SR P E Γ bs ow w a st) {t:TypeId} {len:Nat} {parts:List (Nat×PVal)} {vs:List (Nat×Value)} {p:PVal} (hl:parts.length = vs.length)
    (hv:∀(j:Nat) p v,parts[j]? =some p->vs[j]? =some v->p.1=v.1/\VR Γ bs w p.2 v.2) (hp:eV P t len parts=some p):
    ∃ v w' Γ',(Instr.buildSlice t len vs.toArray).run P w = .ok v w'∧SR P E Γ' bs ow w' a st∧Γ.Le w Γ' w'∧VR Γ' bs w' p v ∧
      (∀e,P.underlying t=some (.slice e)->fR P Γ' w' v e)/\∀b,v.ownBlock=some b->b=w.heap.size:=by
  unfold eV at hp
  split at hp
  · rename_i e ht
    split at hp
    · rename_i es hes
      split at hp
      · rename_i hh
        obtain⟨h1,h2,h3,h4,h5⟩:=hh
        cases hp
        obtain⟨zs,hz⟩:=vaT.1 h2
        obtain⟨z,hr,rfl,i,hi,hz'⟩:=jy (w:=w) hz
        have hzsz:z.cells.size=P.cellsOf e:=by rw[hz]at h5;simpa using h5
        obtain⟨g1,g2,g3⟩:=LT parts 0 hes
        have hlen:parts.length=len:=by omega
        have hparts:∀(i:Nat) x,vs[i]? =some x->x.1=0+i/\x.2.cells.size=P.cellsOf e:=by
          intro i x hx
          have hi':i<parts.length:=by rw[hl];exact aq hx
          obtain⟨k1,k2⟩:=hv i _ x (vab hi') hx
          obtain⟨k3,k4⟩:=g3 i _ (vab hi')
          have hei:i<es.length:=by omega
          rw[vab hei]at k4
          have:=(VR.cells k2 k4).1
          rw[g2 i _ (vab hei)]at this
          exact⟨by rw[<-k1];exact k3,this⟩
        let c0:Array Value:=(Array.range (len * P.cellsOf e)).map (z.cells[·% z.cells.size]!)
        have hc0:c0.size=len * P.cellsOf e:=by simp[c0]
        obtain⟨ov,r1,r2,r3,r4⟩:=Lb vs 0 c0 hparts (by rw[hc0,vaI];exact vaY _ (by omega))
        have hosz:ov.size=len * P.cellsOf e:=r2.trans hc0
        obtain⟨hSR,hle⟩:=h.alloc_imm ov e ov.size (var _)
        have hcell:∀o,(w.alloc (.cells ov e)).cell? ⟨w.heap.size,o,none⟩=ov[o]?:=λo=>cell_of_row _ _ o ov e _ (eJ w _)
        refine⟨.slice (some ⟨w.heap.size,0,none⟩) len len,w.alloc (.cells ov e),_,?_,hSR,hle,?_,λe' he'=>?_,λb hb=>by simp[Value.ownBlock]at hb;exact hb.symm⟩
        · have hne:¬ (len * P.cellsOf e > 16777216):=by omega
          by_cases hz0:len * P.cellsOf e=0
          · have hlz:len = 0:=by
              rcases Nat.mul_eq_zero.1 hz0 with h0|h0
              ·exact h0
              ·omega
            subst hlz
            have hc:c0=#[]:=by apply vba;rw[hc0];exact hz0
            rw[hc]at r1
            have hc':∀f:Nat->Value,(Array.range (0 * P.cellsOf e)).map f=#[]:=λf=>by simp
            simp only[Instr.buildSlice,Sem.run_bind,run_underlying ht,Result.andThen_ok,run_sizeOf w hi]
            simp only[show(2:Nat) ^ 24=16777216 from rfl,van hne,vah hz0,Sem.run_bind,Result.andThen_ok,Sem.run_pure,hc']
            rw[r1]
            simp[newRow]
          · simp only [Instr.buildSlice,Sem.run_bind,run_underlying ht,Result.andThen_ok,run_sizeOf w hi]
            simp only[show(2:Nat) ^ 24=16777216 from rfl,van hne,van hz0,Sem.run_bind,hr,Result.andThen_ok,Sem.run_pure]
            rw[show((Array.range (len * P.cellsOf e)).map (z.cells[·% z.cells.size]!))=c0 from rfl,r1]
            simp[newRow]
        · subst h1
          refine .slice es w.heap.size 0 es.length ov.size (P.cellsOf e) (λi k=>(vs.getD i (0,undef)).2.cells.getD k undef) (by omega) (var _) (Γ.put_same _ _) (by rw[hosz];omega) g2 (λi x k q hx hq=>?_) (λi x k q hx hq=>?_)
          all_goals
            have hil:i<vs.length:=by have:=aq hx;omega
            have hip:i<parts.length:=by omega
            have hvi:vs[i]? =some vs[i]:=vab hil
            have hkl:k<P.cellsOf e:=by have:=aq hq;rw[g2 i x hx]at this;exact this
            have hks:k<(vs[i]).2.cells.size:=by rw[(hparts i _ hvi).2];exact hkl
          · rw [hcell,vaI]
            have:=r4 i _ k hvi hkl
            rw[vaI]at this
            rw[this]
            simp[vaq,hil,vaF,hks]
          · obtain ⟨k1,k2⟩:=hv i _ _ (vab hip) hvi
            obtain⟨k3,k4⟩:=g3 i _ (vab hip)
            rw[hx]at k4
            have:=(VR.cells k2 k4).2 k q ((vs[i]).2.cells[k]) hq (by simp[hks])
            have hfin:=this.mono hle (.refl _)
            simpa[vaq,hil,vaF,hks]using hfin
        · have:e' = e:=by rw [ht] at he'; cases he'; rfl
          subst this
          refine⟨len,ov.toList,⟨by simp[hosz],.inr ⟨w.heap.size,len,ov,rfl,vaN _,eJ w _,var _,?_,hosz,by rw[<-hosz,<-Array.length_toList,vaG]⟩⟩,λb hb=>?_⟩
          · have:len * 1 ≤ len * P.cellsOf e':=Nat.mul_le_mul_left _ h3
            unfold maxLen;omega
          · simp [Value.ownBlock] at hb
            subst hb
            rw[Γ.put_same,hosz]
      ·cases hp
    ·cases hp
  ·cases hp
end
def bo:Nat:=1073741824
def hO(P:Program)(t:TypeId)(es ns:List (List PVal)):Option PVal:=
 match P.underlying t with
 |some (.slice e)=>if es.length+ns.length<=bo/\P.bytesOf e<=65536/\0<P.cellsOf e/\(eD P e).map (·.length)=some (P.cellsOf e)/\(∀x∈es,x.length=P.cellsOf e)/\(∀x∈ns,x.length=P.cellsOf e/\∀q∈x,q.one=true)then some (.slice (es++ns))else none
 |_=>none
section
variable{P:Program}{E:lh}{Γ:aP}{bs:be}{ow:Nat->Option iL}{w:World}{a:Array Value}{st:aB}
theorem E0{t ty e:TypeId}{i:TypeInfo}{z:Value}{size:Nat}(ht:P.underlying t=some (.slice e))(hi:P.info? e=some i)(hz:i.zero=some z)
    (hsize:i.size=size) (hzs:z.cells.size=size) (hsz:0<size) {v:Value} {n:Nat} {xs:List Value} (hown:w.ownsRow 0 e size v n xs)
    {x:Value} {m:Nat} {news:List Value} (hx:(x=.slice none 0 0/\m=0)\/∃a c,x=.slice (some a) m c/\∀(j:Nat) u,news[j]? =some u->w.cell? (a.add j)=some u)
    (hl:news.length=m * size) (h1:∀u∈news,u.oneCell'=true) (h63:n+m<=maxLen) (hbytes:(n+m) * i.bytes<=140737488355328):
    ∃ v' w',(Builtin.append_ #[t,t] ty #[v,x]).run P w = .ok v' w' ∧
      ((v'=v/\w'=w/\m=0)\/
       (∃ g cap cur,v = .slice (some ⟨g,0,none⟩) n cap∧w.heap[g]? = some (.cells cur e (0,0))∧cur.size = cap * size∧cap ≤ maxLen∧cur.toList.take (n * size) = xs∧n + m ≤ cap ∧
          v'=.slice (some ⟨g,0,none⟩) (n+m) cap/\w'=w.setRow g (cur.toList.take (n * size)++news++cur.toList.drop (n * size+news.length)).toArray)\/
       (∃cap rest,n+m<=cap/\cap<=maxLen/\rest.length=(cap - (n+m)) * size/\v'=.slice (some ⟨w.heap.size,0,none⟩) (n+m) cap/\w'=w.drew.alloc (.cells (xs++news++rest).toArray e))):=by
  subst hsize
  have hsmall:n+m<=9223372036854775807:=by simp only[maxLen]at h63;omega
  rcases hx with⟨rfl,rfl⟩|⟨a,c,rfl,hnews⟩
  · refine ⟨v,w,?_,.inl ⟨rfl,rfl,rfl⟩⟩
    rcases hown.2 with⟨rfl,rfl⟩|⟨g,cap,cur,rfl,_,hg,hnc,hcm,hcs,htake⟩
    ·simp[Builtin.append_,run_underlying ht,sizeOf,typeInfo,hi,Builtin.lenOf,Builtin.firstCells]
    ·simp[Builtin.append_,run_underlying ht,sizeOf,typeInfo,hi,Builtin.lenOf,Builtin.firstCells,hnc,storeCells]
  · have hgrow:∀ old,n + m ≤ grownCap w (n + m) old e∧grownCap w (n + m) old e ≤ maxLen∧(Builtin.zeroCells z.cells (grownCap w (n + m) old e - (n + m))).toList.length = (grownCap w (n + m) old e - (n + m)) * i.size:=fun old =>
      ⟨grownCap_ge w (n+m) old e,grownCap_le_maxLen w (n+m) old e h63,by simp[size_zeroCells,hzs]⟩
    rcases hown.2 with⟨rfl,rfl⟩|⟨g,cap,cur,rfl,_,hg,hnc,hcm,hcs,htake⟩
    · have hxs:xs = []:=vat (by simpa using hown.1)
      subst hxs
      by_cases hm:m=0
      · subst hm
        have hn:news=[]:=vat (by simpa using hl)
        subst hn
        refine⟨.slice none 0 0,w,?_,.inl ⟨rfl,rfl,rfl⟩⟩
        simp[Builtin.append_,run_underlying ht,sizeOf,typeInfo,hi,Builtin.lenOf,Builtin.firstCells,loadCells,loadCellsFrom]
      · have hr:=run_append_nil (P:=P) w t ty e i z ht hi hz a m c news hl hnews (by omega) (by omega) (by rw [vaI] at hbytes; omega)
        obtain⟨g1,g2,g3⟩:=hgrow 0
        rw[vaI]at g1 g2 g3
        refine⟨_,_,hr,.inr (.inr ⟨_,(Builtin.zeroCells z.cells (grownCap w m 0 e - m)).toList,by rw[vaI];exact g1,g2,by rw[vaI];exact g3,by rw[vaI],?_⟩)⟩
        congr 2
        apply vbO;simp
    · by_cases hroom:n + m ≤ cap
      · have hfit:n * i.size + news.length ≤ cur.size:=by rw [hl,hcs,← vbo]; exact vaY _ hroom
        have hr:=run_append_room (P:=P) w t ty e i ht hi g n cap cur hg a m c news hl hnews h1 hroom hfit
        exact⟨_,_,hr,.inr (.inl ⟨g,cap,cur,rfl,hg,hcs,hcm,htake,hroom,rfl,rfl⟩)⟩
      · have holds:∀ (j:Nat) u,xs[j]? = some u→w.cell? ((⟨g,0,none⟩:Addr).add j) = some u:=hown.cells (g:=g) rfl
        have hr:=run_append_grow (P:=P) w t ty e i z ht hi hz ⟨g,0,none⟩ n cap xs hown.1 holds a m c news hl hnews (by omega) (by omega) (growslice_fits (by omega) hbytes)
        obtain⟨g1,g2,g3⟩:=hgrow cap
        refine⟨_,_,hr,.inr (.inr ⟨_,(Builtin.zeroCells z.cells (grownCap w (n+m) cap e - (n+m))).toList,g1,g2,g3,rfl,?_⟩)⟩
        congr 2
        apply vbO;simp
theorem Ho{sz q:Nat}(h:0<sz):q=q / sz * sz+q % sz/\q % sz<sz:=⟨by rw[vdc];exact(Nat.div_add_mod q sz).symm,Nat.mod_lt _ h⟩
theorem yq{es:List (List PVal)}{b cap N size:Nat}{cur:Array Value}{e:TypeId}{fr:Nat×Nat}(hb:w.heap[b]? =some (.cells cur e fr))(hg:Γ b=some N)(hN:es.length * size<=N)(hs0:0<size)(hcap:es.length<=cap)
  (hsz:∀(i:Nat) x,es[i]? =some x->x.length=size)
  (hc:∀(i:Nat) x (k:Nat) q,es[i]? =some x->x[k]? =some q->∃u,cur[i * size+k]? =some u/\VR Γ bs w q u):
  VR Γ bs w (.slice es) (.slice (some ⟨b,0,none⟩) es.length cap):=by
 refine .slice es b 0 cap N size (λi k=>cur.getD (i * size+k) undef) hs0 hcap hg (by omega) hsz (λi x k q hx hq=>?_) (λi x k q hx hq=>?_)
 all_goals
  obtain⟨u,h1,h2⟩:=hc i x k q hx hq
  have hu:cur.getD (i * size+k) undef=u:=by rw[vaF,h1];rfl
  rw[hu]
 ·rw[vaI,cell_of_row w b _ cur e fr hb,h1]
 ·exact h2
theorem KU(h:SR P E Γ bs ow w a st){e:TypeId}{es ns:List (List PVal)}{v:Value}(hv:VR Γ bs w (.slice es) v)(hsz0:0<P.cellsOf e)(hes1:∀x∈es,x.length=P.cellsOf e)(hns1:∀x∈ns,x.length=P.cellsOf e)
    {n:Nat} {xs:List Value} (hown:w.ownsRow 0 e (P.cellsOf e) v n xs) (hgh:∀b,v.ownBlock=some b->Γ b=some (n * P.cellsOf e)) (hfree:∀b,v.ownBlock=some b->ow b=none/\(E.T b\/E.w.heap.size<=b))
    {news:List Value} (hnl:news.length=ns.length * P.cellsOf e) (hnv:∀(i:Nat) x (k:Nat) q,ns[i]? =some x->x[k]? =some q->∃u,news[i * P.cellsOf e+k]? =some u/\VR Γ bs w q u) {v':Value} {w':World}
    (hcase:(v'=v/\w'=w/\ns.length=0)\/
       (∃ g cap cur,v = .slice (some ⟨g,0,none⟩) n cap∧w.heap[g]? = some (.cells cur e (0,0))∧cur.size = cap * P.cellsOf e∧cap ≤ maxLen∧cur.toList.take (n * P.cellsOf e) = xs∧n + ns.length ≤ cap ∧
          v'=.slice (some ⟨g,0,none⟩) (n+ns.length) cap/\w'=w.setRow g (cur.toList.take (n * P.cellsOf e)++news++cur.toList.drop (n * P.cellsOf e+news.length)).toArray)\/
       (∃cap rest,n+ns.length<=cap/\cap<=maxLen/\rest.length=(cap - (n+ns.length)) * P.cellsOf e/\v'=.slice (some ⟨w.heap.size,0,none⟩) (n+ns.length) cap/\w'=w.drew.alloc (.cells (xs++news++rest).toArray e))):
    ∃Γ',SR P E Γ' bs ow w' a st/\Γ.Le w Γ' w'/\VR Γ' bs w' (.slice (es++ns)) v'/\fR P Γ' w' v' e/\∀b,v'.ownBlock=some b->ow b=none/\(E.T b\/E.w.heap.size<=b):=by
  have hxsl:xs.length=n * P.cellsOf e:=hown.1
  have hesz:∀(i:Nat) x,es[i]? =some x->x.length=P.cellsOf e:=λi x hx=>hes1 x (vaA hx)
  have hes:es.length=n/\∀(i:Nat) x (k:Nat) q,es[i]? =some x->x[k]? =some q->∃u,xs[i * P.cellsOf e+k]? =some u/\VR Γ bs w q u:=by
    rcases hown.2 with⟨rfl,rfl⟩|⟨g,cap,cur,rfl,_,hg,hnc,hcm,hcs,htake⟩
    · cases hv
      exact⟨rfl,by simp⟩
    · cases hv with
      |sliceE a cap=>exact⟨rfl,by simp⟩
      | slice es b off cap n' sz vals hz0 hcap hgg hn hsz hc hvv =>
        refine⟨rfl,λi x k q hx hq=>⟨vals i k,?_,hvv i x k q hx hq⟩⟩
        have hsz':sz=P.cellsOf e:=by rw[<-hsz i x hx];exact hesz i x hx
        subst hsz'
        have hcell:=hc i x k q hx hq
        rw[vaI,cell_of_row w g _ cur e _ hg]at hcell
        rw[<-htake,vap]
        ·simpa using hcell
        · have:=PA (aq hx) (show k < P.cellsOf e by have:=aq hq; rw [hesz i x hx] at this; exact this)
          exact this
  obtain⟨hesn,hesv⟩:=hes
  have happ:(n+ns.length) * P.cellsOf e=n * P.cellsOf e+ns.length * P.cellsOf e:=vbo _ _ _
  have fin:∀{Γ':aP} {w':World} {b cap:Nat} {cur:Array Value} {fr:Nat×Nat},w'.heap[b]? =some (.cells cur e fr)->Γ' b=some ((n+ns.length) * P.cellsOf e)->n+ns.length<=cap->
      cur.toList.take ((n+ns.length) * P.cellsOf e)=xs++news->Γ.Le w Γ' w'->VR Γ' bs w' (.slice (es++ns)) (.slice (some ⟨b,0,none⟩) (n+ns.length) cap):=by
    intro Γ' w' b cap cur fr hb hg hcap htk hle
    have hl:(es++ns).length=n+ns.length:=by rw[vam,hesn]
    rw[<-hl]
    have hget:∀(o:Nat) u,(xs++news)[o]? =some u->cur[o]? =some u:=by
      intro o u hu
      rw[<-htk]at hu
      have ho:o<(n+ns.length) * P.cellsOf e:=by have:=aq hu;simp at this;omega
      rw[vap ho]at hu
      simpa using hu
    refine yq hb hg (by rw[hl];exact var _) hsz0 (by omega) (λi x hx=>?_) (λi x k q hx hq=>?_)
    · rcases vaw.1 (vaA hx) with hm | hm
      ·exact hes1 x hm
      ·exact hns1 x hm
    · by_cases hi:i < es.length
      · rw [vac hi] at hx
        obtain⟨u,k1,k2⟩:=hesv i x k q hx hq
        refine⟨u,hget _ _ ?_,k2.mono hle (.refl _)⟩
        rw[vac (aq k1)];exact k1
      · rw [vaf (by omega)] at hx
        obtain⟨u,k1,k2⟩:=hnv _ x k q hx hq
        refine⟨u,hget _ _ ?_,k2.mono hle (.refl _)⟩
        have:i * P.cellsOf e+k=n * P.cellsOf e+((i - es.length) * P.cellsOf e+k):=by
          rw[<-vb9,<-vbo];congr 2;omega
        rw[vaf (by omega),show i * P.cellsOf e+k - xs.length=(i - es.length) * P.cellsOf e+k from by omega]
        exact k1
  rcases hcase with⟨rfl,rfl,hm0⟩|⟨g,cap,cur,rfl,hg,hcs,hcm,htake,hroom,rfl,rfl⟩|⟨cap,rest,g1,g2,g3,rfl,rfl⟩
  · have hns0:ns = []:=vat hm0
    subst hns0
    exact⟨Γ,h,.refl _ _,by simpa using hv,⟨n,xs,hown,hgh⟩,hfree⟩
  ·
    have hgn:Γ g=some (n * P.cellsOf e):=hgh g rfl
    have hfit:n * P.cellsOf e+news.length<=cur.toList.length:=by
      have hcl:cur.toList.length=cur.size:=by simp
      rw[hcl,hcs,hnl,<-vbo];exact vaY _ hroom
    have hheap:=uV w g cur (cur.toList.take (n * P.cellsOf e)++news++cur.toList.drop (n * P.cellsOf e+news.length)).toArray e (0,0) hg
    have hsame:∀o,o<n * P.cellsOf e->(w.setRow g (cur.toList.take (n * P.cellsOf e)++news++cur.toList.drop (n * P.cellsOf e+news.length)).toArray).cell? ⟨g,o,none⟩=w.cell? ⟨g,o,none⟩:=by
      intro o ho
      rw[cell_of_row _ g o _ e _ hheap,cell_of_row w g o cur e _ hg]
      simp only[vby]
      rw[ir hfit,vah ho]
      simp
    have hle:Γ.Le w (Γ.put g ((n+ns.length) * P.cellsOf e)) (w.setRow g (cur.toList.take (n * P.cellsOf e)++news++cur.toList.drop (n * P.cellsOf e+news.length)).toArray):=by
      intro b m hb _
      by_cases hbg:b=g
      · subst hbg
        rw[hgn]at hb;cases hb
        exact⟨_,Γ.put_same _ _,by omega,hsame⟩
      ·exact⟨m,(Γ.put_other hbg).trans hb,var _,λo _=>bZ (setRow_other w g b _ hbg) o⟩
    have hsz1:((cur.toList.take (n * P.cellsOf e)++news++cur.toList.drop (n * P.cellsOf e+news.length)).toArray).size=cur.size:=by
      simp only[vb2,vam,vaQ,vbC,Array.length_toList]at hfit ⊢;omega
    have htk:((cur.toList.take (n * P.cellsOf e)++news++cur.toList.drop (n * P.cellsOf e+news.length)).toArray).toList.take ((n+ns.length) * P.cellsOf e)=xs++news:=by
      rw[htake,happ,<-hnl,<-hxsl,<-vam]
      exact vcy
    have hSR:=h.world (λb=>b=g) hle (λb m hb=>?_) rfl rfl rfl (by simp) (λb _ hbg=>⟨setRow_other w g b _ hbg,Γ.put_other hbg⟩) (λb hb=>by subst hb;exact(hfree b rfl).2)
      (λi b hb hbg=>?_) (λb L hL hbg=>by subst hbg;rw[(hfree b rfl).1]at hL;cases hL)
    · refine ⟨_,hSR,hle,fin hheap (Γ.put_same _ _) hroom htk hle,⟨n + ns.length,xs ++ news,⟨by rw [vam,hxsl,hnl,happ],.inr ⟨g,cap,_,rfl,vaN _,hheap,hroom,hcm,by rw [hsz1,hcs],htk⟩⟩,fun b hb => ?_⟩,fun b hb => ?_⟩
      ·simp[Value.ownBlock]at hb;subst hb;exact Γ.put_same _ _
      ·exact hfree b (by simpa[Value.ownBlock]using hb)
    · by_cases hbg:b = g
      · subst hbg
        rw[Γ.put_same]at hb;cases hb
        refine⟨_,_,_,hheap,?_⟩
        rw[hsz1,hcs];exact vaY _ hroom
      · rw [Γ.put_other hbg] at hb
        obtain⟨c,t',fr,k1,k2⟩:=h.wi b m hb
        exact⟨c,t',fr,(setRow_other w g b _ hbg).trans k1,k2⟩
    · subst hbg
      have:=(h.bx i b (st.boxes[i]'(by rw[<-h.bl];exact aq hb)) hb (by simp)).1
      rw[hgn]at this;cases this
  ·
    have hcs:(xs++news++rest).toArray.size=cap * P.cellsOf e:=by
      simp only[vb2,vam,hxsl,hnl,g3,<-vbo];congr 1;omega
    obtain⟨hSR,hle⟩:=h.drew.alloc_imm (xs++news++rest).toArray e ((n+ns.length) * P.cellsOf e) (by rw[hcs];exact vaY _ g1)
    have hle':Γ.Le w (Γ.put w.heap.size ((n+ns.length) * P.cellsOf e)) (w.drew.alloc (.cells (xs++news++rest).toArray e)):=hle
    have hheap:(w.drew.alloc (.cells (xs++news++rest).toArray e)).heap[w.heap.size]? =some (.cells (xs++news++rest).toArray e (0,0)):=eJ w.drew _
    have htk:((xs++news++rest).toArray).toList.take ((n+ns.length) * P.cellsOf e)=xs++news:=by
      rw[happ,<-hnl,<-hxsl,<-vam]
      exact vcy
    refine⟨_,hSR,hle',fin hheap (Γ.put_same _ _) g1 htk hle',⟨n+ns.length,xs++news,⟨by rw[vam,hxsl,hnl,happ],.inr ⟨w.heap.size,cap,_,rfl,vaN _,hheap,g1,g2,hcs,htk⟩⟩,λb hb=>?_⟩,λb hb=>?_⟩
    ·simp[Value.ownBlock]at hb;subst hb;exact Γ.put_same _ _
    · simp [Value.ownBlock] at hb; subst hb
      refine⟨?_,.inr h.step.size⟩
      cases hL:ow w.heap.size with
      |none=>rfl
      |some L=>exact absurd (h.on _ L hL).1 (vb1 _)
theorem Q8(h:SR P E Γ bs ow w a st){t ty e:TypeId}{es ns:List (List PVal)}{p:PVal}{v x:Value}(ht:P.underlying t=some (.slice e))(hv:VR Γ bs w (.slice es) v)(hx:VR Γ bs w (.slice ns) x)
  (ho:fR P Γ w v e) (hfree:∀b,v.ownBlock=some b->ow b=none/\(E.T b\/E.w.heap.size<=b)) (hp:hO P t es ns=some p):
  ∃v' w' Γ',(Builtin.append_ #[t,t] ty #[v,x]).run P w=.ok v' w'/\SR P E Γ' bs ow w' a st/\Γ.Le w Γ' w'/\VR Γ' bs w' p v'/\fR P Γ' w' v' e/\
   ∀b,v'.ownBlock=some b->ow b=none/\(E.T b\/E.w.heap.size<=b):=by
 unfold hO at hp
 rw[ht]at hp
 simp only at hp
 split at hp
 case isFalse=>cases hp
 rename_i hh
 obtain⟨hlen,hby,hsz0,hzl,hes1,hns1⟩:=hh
 cases hp
 have hz:∃zs,eD P e=some zs/\zs.length=P.cellsOf e:=by simpa using hzl
 obtain⟨zs,hz,hzl⟩:=hz
 obtain⟨z,hr,rfl,i,hi,hz'⟩:=jy (w:=w) hz
 have hisz:i.size=P.cellsOf e:=by simp[Program.cellsOf,hi]
 have hiby:i.bytes=P.bytesOf e:=by simp[Program.bytesOf,hi]
 obtain⟨n,xs,hown,hgh⟩:=ho
 have hnsz:∀(i:Nat) x,ns[i]? =some x->x.length=P.cellsOf e:=λi x hx=>(hns1 x (vaA hx)).1
 have hesn:es.length=n:=by
  rcases hown.2 with⟨rfl,rfl⟩|⟨g,cap,cur,rfl,_,hg,hnc,hcm,hcs,htake⟩
  ·cases hv;rfl
  ·cases hv<;>rfl
 have hnew:∃news:List Value,((x=.slice none 0 0/\ns.length=0)\/∃a c,x=.slice (some a) ns.length c/\∀(j:Nat) u,news[j]? =some u->w.cell? (a.add j)=some u)/\
   news.length=ns.length * P.cellsOf e/\(∀u∈news,u.oneCell'=true)/\
   ∀(i:Nat) x (k:Nat) q,ns[i]? =some x->x[k]? =some q->∃u,news[i * P.cellsOf e+k]? =some u/\VR Γ bs w q u:=by
  cases hx with
  |sliceNil=>exact⟨[],.inl ⟨rfl,rfl⟩,by simp,by simp,by simp⟩
  |sliceE a cap=>exact⟨[],.inr ⟨a,cap,rfl,by simp⟩,by simp,by simp,by simp⟩
  | slice ns b off cap n' sz vals hz0 hcap hgg hn hsz hc hvv =>
   have hcell:∀(i:Nat) x (k:Nat) q,ns[i]? =some x->x[k]? =some q->w.cell? ⟨b,off+(i * P.cellsOf e+k),none⟩=some (vals i k):=by
    intro i x k q hx hq
    have hsz':sz=P.cellsOf e:=by rw[<-hsz i x hx];exact hnsz i x hx
    subst hsz'
    rw[<-vb9];exact hc i x k q hx hq
   have hpos:∀o,o<ns.length * P.cellsOf e->∃x q,ns[o / P.cellsOf e]? =some x/\x[o % P.cellsOf e]? =some q/\o=o / P.cellsOf e * P.cellsOf e+o % P.cellsOf e:=by
    intro o ho
    obtain⟨m1,m2⟩:=Ho (q:=o) hsz0
    have hlt:o / P.cellsOf e<ns.length:=(vcO hsz0).2 ho
    have hxl:=hnsz _ _ (vab hlt)
    exact⟨_,_,vab hlt,vab (by rw[hxl];exact m2),m1⟩
   refine⟨(List.range (ns.length * P.cellsOf e)).map λo=>vals (o / P.cellsOf e) (o % P.cellsOf e),.inr ⟨⟨b,off,none⟩,cap,rfl,λj u hu=>?_⟩,by simp,λu hu=>?_,λi x k q hx hq=>⟨vals i k,?_,hvv i x k q hx hq⟩⟩
   ·rw[vav]at hu
    have hj:j<ns.length * P.cellsOf e:=by
     by_cases hj:j<ns.length * P.cellsOf e
     ·exact hj
     ·rw[vaK (by simp;omega)]at hu;cases hu
    rw[vbG hj]at hu
    simp only[vak,vax]at hu
    subst hu
    obtain⟨x,q,k1,k2,k3⟩:=hpos j hj
    have:=hcell _ _ _ _ k1 k2
    rw[<-k3]at this
    rw[Addr.add_lit];exact this
   ·simp only[vag,vbw]at hu
    obtain⟨o,ho,rfl⟩:=hu
    obtain⟨x,q,k1,k2,k3⟩:=hpos o ho
    exact VR.one (hvv _ _ _ _ k1 k2) ((hns1 x (vaA k1)).2 q (vaA k2))
   ·have hk:k<P.cellsOf e:=by have:=aq hq;rw[hnsz i x hx]at this;exact this
    have hlt:=PA (aq hx) hk
    rw[vav,vbG hlt]
    simp only[vak,vax]
    rw[vdc i,Nat.mul_add_div hsz0,vcK hk,Nat.mul_add_mod,vbK hk,Nat.add_zero]
 obtain⟨news,hnx,hnl,hn1,hnv⟩:=hnew
 have hmax:n+ns.length<=maxLen:=by unfold maxLen;unfold bo at hlen;omega
 have hbytes:(n+ns.length) * i.bytes<=140737488355328:=by
  rw[hiby]
  have:(n+ns.length) * P.bytesOf e<=1073741824 * 65536:=vcz (by unfold bo at hlen;omega) hby
  omega
 obtain⟨v',w',hrun,hcase⟩:=E0 (ty:=ty) ht hi hz' hisz (by simpa using hzl) hsz0 hown hnx hnl hn1 hmax hbytes
 obtain⟨Γ',q⟩:=KU h hv hsz0 hes1 (λx hx=>(hns1 x hx).1) hown hgh hfree hnl hnv hcase
 exact⟨v',w',Γ',hrun,q⟩
def G8(s:List UInt8):List (List PVal):=s.map λc=>[.int .u8 (c.toNat:Int)]
theorem KY(s:List UInt8):(G8 s).length=s.length:=by simp[G8]
def qaE:Option Value->Bool
 |some (.int .u8 0)=>true
 |_=>false
theorem Ys{o:Option Value}(h:qaE o=true):o=some (.int .u8 0):=by
 unfold qaE at h
 split at h
 ·rfl
 ·cases h
def FC(P:Program)(t u:TypeId)(es:List (List PVal))(s:List UInt8):Option PVal:=
 match P.underlying t,P.underlying u with
 |some (.slice e),some .string=>if es.length+s.length<=bo/\P.bytesOf e=1/\P.cellsOf e=1/\qaE ((P.info? e).bind (·.zero))=true/\(∀x∈es,x.length=1)then some (.slice (es++G8 s))else none
 |_,_=>none
theorem MY{t u ty e:TypeId}{i:TypeInfo}(ht:P.underlying t=some (.slice e))(hu:P.underlying u=some .string)(hi:P.info? e=some i)(hz:i.zero=some (.int .u8 0))(hsize:i.size=1)(hby:i.bytes=1)
    {v:Value} {n:Nat} {xs:List Value} (hown:w.ownsRow 0 e 1 v n xs) (s:ByteArray) (h63:n+s.size<=maxLen) (hbytes:n+s.size<=140737488355328):
    ∃ v' w',(Builtin.append_ #[t,u] ty #[v,.string s]).run P w = .ok v' w' ∧
      ((v'=v/\w'=w/\s.size=0)\/
       (∃ g cap cur,v = .slice (some ⟨g,0,none⟩) n cap∧w.heap[g]? = some (.cells cur e (0,0))∧cur.size = cap * 1∧cap ≤ maxLen∧cur.toList.take (n * 1) = xs∧n + s.size ≤ cap ∧
          v'=.slice (some ⟨g,0,none⟩) (n+s.size) cap/\w'=w.setRow g (cur.toList.take (n * 1)++Lib.strCells s++cur.toList.drop (n * 1+(Lib.strCells s).length)).toArray)\/
       (∃cap rest,n+s.size<=cap/\cap<=maxLen/\rest.length=(cap - (n+s.size)) * 1/\v'=.slice (some ⟨w.heap.size,0,none⟩) (n+s.size) cap/\w'=w.drew.alloc (.cells (xs++Lib.strCells s++rest).toArray e))):=by
  have hsmall:n+s.size<=9223372036854775807:=by simp only[maxLen]at h63;omega
  have hgrow:∀old,n+s.size<=grownCap w (n+s.size) old e/\grownCap w (n+s.size) old e<=maxLen/\(Builtin.zeroCells (Value.int .u8 0).cells (grownCap w (n+s.size) old e - (n+s.size))).toList.length=(grownCap w (n+s.size) old e - (n+s.size)) * 1:=λold=>
    ⟨grownCap_ge w (n+s.size) old e,grownCap_le_maxLen w (n+s.size) old e h63,by simp[size_zeroCells,show(Value.int IntKind.u8 0).cells.size=1 from rfl]⟩
  rcases hown.2 with⟨rfl,rfl⟩|⟨g,cap,cur,rfl,_,hg,hnc,hcm,hcs,htake⟩
  · have hxs:xs = []:=vat (by simpa using hown.1)
    subst hxs
    by_cases hm:s.size=0
    · refine ⟨.slice none 0 0,w,?_,.inl ⟨rfl,rfl,hm⟩⟩
      simp[Builtin.append_,run_underlying ht,run_underlying hu,sizeOf,typeInfo,hi,Builtin.lenOf,Builtin.firstCells,hm]
    · have hr:=run_append_nil_string (P:=P) w t u ty e i (.int .u8 0) ht hu hi hz s (by omega) (by omega) (by rw [hby]; omega)
      obtain⟨g1,g2,g3⟩:=hgrow 0
      rw[vaI]at g1 g2 g3
      refine⟨_,_,hr,.inr (.inr ⟨_,(Builtin.zeroCells (Value.int .u8 0).cells (grownCap w s.size 0 e - s.size)).toList,by rw[vaI];exact g1,g2,by rw[vaI];exact g3,by rw[vaI],?_⟩)⟩
      congr 2
      apply vbO;simp[Lib.strCells]
  · by_cases hroom:n + s.size ≤ cap
    · have hfit:n + s.size ≤ cur.size:=by rw [hcs,vbT]; exact hroom
      have hr:=Lib.run_append_room_string (P:=P) w t u ty e i ht hu hi hsize g n cap cur hg s hroom hfit
      refine⟨_,_,hr,.inr (.inl ⟨g,cap,cur,rfl,hg,hcs,hcm,htake,hroom,rfl,?_⟩)⟩
      rw[vbT,Lib.strCells_length]
    · have holds:∀ (j:Nat) u,xs[j]? = some u→w.cell? ((⟨g,0,none⟩:Addr).add j) = some u:=hown.cells (g:=g) rfl
      have hr:=Lib.run_append_grow_string (P:=P) w t u ty e i (.int .u8 0) ht hu hi hz ⟨g,0,none⟩ n cap xs (by rw[hsize];exact hown.1) holds s (by omega) (by omega) (by rw[hby];exact growslice_fits (by omega) (by omega))
      obtain⟨g1,g2,g3⟩:=hgrow cap
      refine⟨_,_,hr,.inr (.inr ⟨_,(Builtin.zeroCells (Value.int .u8 0).cells (grownCap w (n+s.size) cap e - (n+s.size))).toList,g1,g2,g3,rfl,?_⟩)⟩
      congr 2
      apply vbO;simp
theorem PN(h:SR P E Γ bs ow w a st){t u ty e:TypeId}{es:List (List PVal)}{s:List UInt8}{p:PVal}{v x:Value}(ht:P.underlying t=some (.slice e))(hv:VR Γ bs w (.slice es) v)(hx:VR Γ bs w (.str s) x)
  (ho:fR P Γ w v e) (hfree:∀b,v.ownBlock=some b->ow b=none/\(E.T b\/E.w.heap.size<=b)) (hp:FC P t u es s=some p):
  ∃v' w' Γ',(Builtin.append_ #[t,u] ty #[v,x]).run P w=.ok v' w'/\SR P E Γ' bs ow w' a st/\Γ.Le w Γ' w'/\VR Γ' bs w' p v'/\fR P Γ' w' v' e/\
   ∀b,v'.ownBlock=some b->ow b=none/\(E.T b\/E.w.heap.size<=b):=by
 unfold FC at hp
 rw[ht]at hp
 cases hu:P.underlying u with
 |none=>rw[hu]at hp;cases hp
 |some ud=>
 rw[hu]at hp
 cases ud with
 | string =>
  simp only at hp
  split at hp
  case isFalse=>cases hp
  rename_i hh
  obtain⟨hlen,hby,hc1,hzl,hes1⟩:=hh
  cases hp
  cases hx
  obtain⟨i,hi,hz⟩:=vbm.1 (Ys hzl)
  have hisz:i.size=1:=by rw[<-hc1];simp[Program.cellsOf,hi]
  have hiby:i.bytes=1:=by rw[<-hby];simp[Program.bytesOf,hi]
  obtain⟨n,xs,hown,hgh⟩:=ho
  have hesn:es.length=n:=by
   rcases hown.2 with⟨rfl,rfl⟩|⟨g,cap,cur,rfl,_,hg,hnc,hcm,hcs,htake⟩
   ·cases hv;rfl
   ·cases hv<;>rfl
  have hss:(ByteArray.mk s.toArray).size=s.length:=by simp[ByteArray.size]
  have hown1:w.ownsRow 0 e 1 v n xs:=by rw[<-hc1];exact hown
  obtain⟨v',w',hrun,hcase⟩:=MY (ty:=ty) ht hu hi hz hisz hiby hown1 (ByteArray.mk s.toArray) (by rw[hss];unfold maxLen;unfold bo at hlen;omega) (by rw[hss];unfold bo at hlen;omega)
  rw[hss]at hcase
  have hnl:(Lib.strCells (ByteArray.mk s.toArray)).length=(G8 s).length * P.cellsOf e:=by rw[Lib.strCells_length,hss,KY,hc1,vbT]
  obtain⟨Γ',q⟩:=KU (ns:=G8 s) h hv (by omega) (λx hx=>by rw[hc1];exact hes1 x hx) (λx hx=>by
    obtain⟨c,_,rfl⟩:=vag.1 hx
    rw[hc1];rfl) hown hgh hfree hnl (λi x k q hx hq=>by
    unfold G8 at hx
    rw[vav]at hx
    obtain⟨c,hc,rfl⟩:=vaJ.1 hx
    have hk:k=0:=by have:=aq hq;simp at this;exact this
    subst hk
    simp at hq;subst hq
    refine⟨.int .u8 c.toNat,?_,.int _ _⟩
    rw[hc1,vbT,Nat.add_zero,Lib.strCells,vav]
    simp[hc]) (by rw[hc1,KY];exact hcase)
  exact⟨v',w',Γ',hrun,q⟩
 |_=>simp at hp
end
section
variable{P:Program}{E:lh}{Γ:aP}{bs:be}{ow:Nat->Option iL}{w:World}{a:Array Value}{st:aB}
theorem Ui(a b:List UInt8):((ByteArray.mk a.toArray)==(ByteArray.mk b.toArray))=(a==b):=by
 show(a.toArray==b.toArray)=_
 simp
theorem Mc{kd:TypeDesc}{k x:PVal}{vk vx:Value}{t:Bool}(hk:VR Γ bs w k vk)(hx:VR Γ bs w x vx)(hkd:mC kd k=true)(h:PW k x=some t):Instr.sameNow kd vk vx=some t:=by
 unfold PW at h
 split at h
 ·cases h;cases hk;cases hx
  cases kd<;>simp[mC]at hkd
  simp only[Instr.sameNow,Ui]
 ·split at h
  ·rename_i hkk;subst hkk
   cases h;cases hk;cases hx
   cases kd<;>simp[mC]at hkd
   simp[Instr.sameNow]
  ·cases h
 ·cases h
theorem sN{kd:TypeDesc}{k:PVal}{vk:Value}(hk:VR Γ bs w k vk)(hkd:mC kd k=true):∀(es:List (PVal×PVal)) (ents:List MapEntry) (i:Nat) {r:Option (Nat×PVal)},es.length=ents.length->
  (∀(j:Nat) kx u x,es[j]? =some (kx,u)->ents[j]? =some x->VR Γ bs w kx x.key/\VR Γ bs w u x.val)->AK k es i=some r->
  match r with
  |none=>Instr.findNow kd vk ents i=some none
  |some (j,u)=>∃v x,Instr.findNow kd vk ents i=some (some (j,v))/\VR Γ bs w u v/\i<=j/\ents[j - i]? =some x/\x.val=v/\Instr.sameNow kd vk x.key=some true/\j - i<es.length
 |[],[],i,r,_,_,h=>by simp only[AK,vax]at h;subst h;rfl
 |[],_::_,_,_,hl,_,_=>by simp at hl
 |_::_,[],_,_,hl,_,_=>by simp at hl
 | (kx,u) :: es,x :: ents,i,r,hl,hv,h => by
  obtain⟨h1,h2⟩:=hv 0 kx u x rfl rfl
  simp only[AK]at h
  split at h
  ·rename_i hq
   cases h
   have:=Mc hk h1 hkd hq
   exact⟨x.val,x,by simp[Instr.findNow,this],h2,var _,by simp,rfl,this,by simp⟩
  ·rename_i hq
   have hs:=Mc hk h1 hkd hq
   have ih:=sN hk hkd es ents (i+1) (by simpa using hl) (λj kx u x hj hx=>hv (j+1) kx u x (by simpa using hj) (by simpa using hx)) h
   cases r with
   |none=>simpa[Instr.findNow,hs]using ih
   |some ju=>
    obtain⟨j,u'⟩:=ju
    obtain⟨v,x',k1,k2,k3,k4,k5,k6,k7⟩:=ih
    refine⟨v,x',by simpa[Instr.findNow,hs]using k1,k2,by omega,?_,k5,k6,by simp;omega⟩
    rw[show j - i=(j - (i+1))+1 from by omega];simpa using k4
  ·cases h
theorem FV{kt:TypeId}{kd:TypeDesc}{k:PVal}{vk:Value}(hkt:P.underlying kt=some kd)(hkd:mC kd k=true)(hk:VR Γ bs w k vk)(em:Bool):(Instr.checkKey em 10000 kt vk).run P w=.ok () w:=by
 show(Instr.checkKey em (9999+1) kt vk).run P w=_
 rw[Instr.checkKey]
 cases kd<;>simp[mC]at hkd<;>cases k<;>simp at hkd<;>cases hk<;>simp[run_underlying hkt]
theorem J1.modify{ents:Array MapEntry}{clock j:Nat}{k v:Value}(h:J1 ents clock):J1 (ents.modify j λe=>{e with key:=k,val:=v}) clock:=by
 have hm:(ents.modify j λe=>{e with key:=k,val:=v}).toList.map (·.born)=ents.toList.map (·.born):=by
  refine vbf λi=>?_
  simp only[vav,va2,vbZ]
  by_cases hi:j=i
  ·subst hi
   rw[vah rfl]
   cases ents[j]? <;>rfl
  ·rw[van hi]
 refine⟨by rw[hm];exact h.1,λx hx=>?_⟩
 have:x.born∈(ents.modify j λe=>{e with key:=k,val:=v}).toList.map (·.born):=vag.2 ⟨x,hx,rfl⟩
 rw[hm]at this
 obtain⟨y,hy,he⟩:=vag.1 this
 rw[<-he];exact h.2 y hy
theorem J1.push{ents:Array MapEntry}{clock:Nat}{k v:Value}(h:J1 ents clock):J1 (ents.push {key:=k,val:=v,born:=clock}) (clock+1):=by
 refine⟨?_,λx hx=>?_⟩
 ·rw[vcC,va5,vcb]
  refine⟨h.1,by simp,λa ha b hb=>?_⟩
  obtain⟨y,hy,rfl⟩:=vag.1 ha
  simp at hb
  subst hb
  have:=h.2 y hy
  omega
 ·rw[vcC]at hx
  rcases vaw.1 hx with hx|hx
  ·have:=h.2 x hx;omega
  ·simp at hx;subst hx;simp
theorem nX{b:Nat}{ents:Array MapEntry}{clock:Nat}(h:w.heap[b]? =some (.map ents clock)):(getObj b).run P w=.ok (.map ents clock) w:=by simp[getObj,Sem.run,h]
theorem P5{t:TypeId}{z:PVal}(h:HM P t=some z):∃v,(zeroValue t).run P w=.ok v w/\VR Γ bs w z v:=by
 unfold HM at h
 simp only[vaJ,vbm]at h
 obtain⟨v,⟨i,hi,hz⟩,rfl⟩:=h
 exact⟨v,by simp[zeroValue,run_typeInfo w hi,hz],.absV v⟩
theorem Re(h:SR P E Γ bs ow w a st){t:TypeId}{m k p:PVal}{vm vk:Value}{ok:Bool}(hm:VR Γ bs w m vm)(hk:VR Γ bs w k vk)(hp:uR P t m k ok st.boxes=some p):∃v,(Instr.lookup t vm vk ok).run P w=.ok v w/\VR Γ bs w p v:=by
 unfold uR at hp
 split at hp
 ·rename_i kt e i ht
  split at hp
  ·rename_i es kd hB hkt
   split at hp
   ·rename_i hkd
    cases hm with
    | mapr i b hi =>
     obtain⟨_,_,ents,clock,h1,h2,h3,_⟩:=h.bx i b _ hi hB
     have hch:=FV (P:=P) (w:=w) hkt hkd hk ents.toList.isEmpty
     have hch':(Instr.checkKey ents.isEmpty 10000 kt vk).run P w=.ok () w:=by rw[show ents.isEmpty=ents.toList.isEmpty from by simp];exact hch
     split at hp
     ·rename_i j u zs hf
      cases hp
      obtain⟨v,x,k1,k2,_⟩:=sN hk hkd es ents.toList 0 (by simp[h2]) (λj kx u x hj hx=>h3 j kx u x hj (by simpa using hx)) hf
      refine⟨if ok then .tuple #[v,.bool true]else v,?_,?_⟩
      ·simp[Instr.lookup,run_underlying ht,nX h1,hch',Instr.findKey,run_underlying hkt,k1]
      ·cases ok
       ·exact k2
       ·refine .tuple _ _ rfl λq p' v' hq hv'=>?_
        match q,hq,hv' with
        |0,hq,hv'=>simp at hq hv';subst hq;subst hv';exact k2
        |1,hq,hv'=>simp at hq hv';subst hq;subst hv';exact .bool _
        |q+2,hq,_=>simp at hq
     ·rename_i z hf hz
      cases hp
      obtain⟨z',hr,hvz⟩:=P5 (Γ:=Γ) (bs:=bs) (w:=w) hz
      have hfn:=sN hk hkd es ents.toList 0 (by simp[h2]) (λj kx u x hj hx=>h3 j kx u x hj (by simpa using hx)) hf
      refine⟨if ok then .tuple #[z',.bool false]else z',?_,?_⟩
      ·simp only at hfn
       simp[Instr.lookup,run_underlying ht,nX h1,hch',Instr.findKey,run_underlying hkt,hfn,hr]
      ·cases ok
       ·exact hvz
       ·refine .tuple _ _ rfl λq p' v' hq hv'=>?_
        match q,hq,hv' with
        |0,hq,hv'=>simp at hq hv';subst hq;subst hv';exact hvz
        |1,hq,hv'=>simp at hq hv';subst hq;subst hv';exact .bool _
        |q+2,hq,_=>simp at hq
     ·cases hp
   ·cases hp
  ·cases hp
 ·cases hp
theorem RA{kd:TypeDesc}{vk x:Value}(h:Instr.sameNow kd vk x=some true):Instr.sameBits 10000 x vk=true:=by
 unfold Instr.sameNow at h
 split at h
 ·split at h
  ·rename_i hk
   subst hk
   simp only[vax,vaP]at h
   subst h
   simp[Instr.sameBits]
  ·cases h
 ·rename_i p q
  have h':(p.data==q.data)=true:=vbb h
  show(q.data==p.data)=true
  rw[vaP]at h' ⊢
  exact h'.symm
 ·simp only[vax,vaP]at h
  subst h
  simp[Instr.sameBits]
 ·cases h
theorem L0(h:SR P E Γ bs ow w a st){t:TypeId}{m k u:PVal}{vm vk vu:Value}{H:List aA}(hm:VR Γ bs w m vm)(hk:VR Γ bs w k vk)(hu:VR Γ bs w u vu)(hp:gG P t m k u st.boxes=some H):∃w',(Instr.mapUpdate t vm vk vu).run P w=.ok () w'/\SR P E Γ bs ow w' a {st with boxes:=H}/\Γ.Le w Γ w':=by
 unfold gG at hp
 split at hp
 ·rename_i kt e i ht
  split at hp
  ·rename_i es kd hB hkt
   split at hp
   ·rename_i hkd
    cases hm with
    | mapr i b hi =>
     obtain⟨hgb,hlt,ents,clock,h1,h2,h3,h4⟩:=h.bx i b _ hi hB
     have hch:=FV (P:=P) (w:=w) hkt hkd hk false
     have hset:∀o,(setObj b o).run P w=.ok () {w with heap:=w.heap.setIfInBounds b o}:=by
      intro o;simp[setObj,Sem.run,h1]
     have hheap:∀o,({w with heap:=w.heap.setIfInBounds b o}:World).heap[b]? =some o:=by
      intro o;simp[hlt]
     have hother:∀o b',b'≠b->({w with heap:=w.heap.setIfInBounds b o}:World).heap[b']? =w.heap[b']?:=by
      intro o b' hb';exact vaV (λe=>hb' e.symm)
     have hle:∀o,Γ.Le w Γ ({w with heap:=w.heap.setIfInBounds b o}:World):=λo b' m hb' _=>
      ⟨m,hb',var _,λo' _=>bZ (hother o b' (λe=>by subst e;rw[hgb]at hb';cases hb')) o'⟩
     have hbox:∀{o:Obj} {B:aA},BR Γ bs ({w with heap:=w.heap.setIfInBounds b o}:World) B b->(∀cs own,B≠.cells cs own)->
       SR P E Γ bs ow ({w with heap:=w.heap.setIfInBounds b o}:World) a {st with boxes:=st.boxes.set i B}:=λ{o B} hB hne=>
      h.box_write hi rfl rfl rfl (by simp) (hother o) hB (λb' L hL _=>hL) h.on (λcs own he=>absurd he (hne cs own))
     split at hp
     ·rename_i j u0 hf
      cases hp
      obtain⟨v,x,k1,k2,k3,k4,k5,k6,k7⟩:=sN hk hkd es ents.toList 0 (by simp[h2]) (λj kx u x hj hx=>h3 j kx u x hj (by simpa using hx)) hf
      simp only[Nat.sub_zero,va2]at k4 k7
      have hsame:=RA k6
      refine⟨{w with heap:=w.heap.setIfInBounds b (.map (ents.modify j λe=>{e with key:=vk,val:=vu}) clock)},?_,hbox ⟨_,clock,hheap _,by simp[h2],λq kx ux y hq hy=>?_,h4.modify⟩ (by simp),hle _⟩
      ·simp[Instr.mapUpdate,run_underlying ht,nX h1,hch,Instr.findKey,run_underlying hkt,k1,k4,Instr.keyThatStays,hsame,hset]
      ·rw[vbZ]at hy
       by_cases hqj:q=j
       ·subst hqj
        rw[vae k7]at hq
        simp[k4]at hy
        cases hq;subst hy
        exact⟨hk.mono (hle _) (.refl _),hu.mono (hle _) (.refl _)⟩
       ·rw[vai (λe=>hqj e.symm)]at hq
        rw[van (λe=>hqj e.symm)]at hy
        exact⟨(h3 q kx ux y hq hy).1.mono (hle _) (.refl _),(h3 q kx ux y hq hy).2.mono (hle _) (.refl _)⟩
     ·rename_i hf
      cases hp
      have hfn:=sN hk hkd es ents.toList 0 (by simp[h2]) (λj kx u x hj hx=>h3 j kx u x hj (by simpa using hx)) hf
      simp only at hfn
      refine⟨{w with heap:=w.heap.setIfInBounds b (.map (ents.push {key:=vk,val:=vu,born:=clock}) (clock+1))},?_,hbox ⟨_,_,hheap _,by simp[h2],λq kx ux y hq hy=>?_,h4.push⟩ (by simp),hle _⟩
      ·simp[Instr.mapUpdate,run_underlying ht,nX h1,hch,Instr.findKey,run_underlying hkt,hfn,hset]
      ·rw[vbS]at hy
       by_cases hql:q=ents.size
       ·subst hql
        rw[vaf (by omega),<-h2,vbp]at hq
        simp at hq hy
        obtain⟨rfl,rfl⟩:=hq
        subst hy
        exact⟨hk.mono (hle _) (.refl _),hu.mono (hle _) (.refl _)⟩
       ·rw[van hql]at hy
        have hlt2:q<es.length:=by rw[<-h2];exact(vaj.1 hy).1
        rw[vac hlt2]at hq
        exact⟨(h3 q kx ux y hq hy).1.mono (hle _) (.refl _),(h3 q kx ux y hq hy).2.mono (hle _) (.refl _)⟩
     ·cases hp
   ·cases hp
  ·cases hp
 ·cases hp
end
section
variable{P:Program}{E:lh}{Γ:aP}{bs:be}{ow:Nat->Option iL}{w:World}{a:Array Value}{st:aB}
def gi(d:Nat)(f:Nat×Nat->Nat×Nat)(own:List ((Nat×Nat)×TypeId)):List ((Nat×Nat)×TypeId):=(bu d own).map λx=>(f x.1,x.2)
def Rp(d:Nat)(f:Nat×Nat->Nat×Nat)(ow:Nat->Option iL):Nat->Option iL:=λb=>
 match ow b with
 |some (.tmp t k)=>if t=d then none else some (.tmp (f (t,k)).1 (f (t,k)).2)
 |x=>x
theorem SR.setRen(h:SR P E Γ bs ow w a st){d:Nat}{p:PVal}{v:Value}(hv:VR Γ bs w p v)(f:Nat×Nat->Nat×Nat)(hd:d<a.size)
  (hf:∀t k e,((t,k),e)∈st.own->t≠d->f (t,k)=(t,k)\/∃k',f (t,k)=(d,k')/\∀u v',a[t]? =some u->jU u k=some v'->fR P Γ w v' e->jU v k'=some v'):
  SR P E Γ bs (Rp d f ow) w (a.setIfInBounds d v) {st with tmps:=st.tmps.set d p,own:=gi d f st.own}:=by
 have hs:=h.set (d:=d) (p:=p) hv
 exact{hs with
  on:=λb L hL=>by
   unfold Rp at hL
   split at hL
   ·rename_i t k hb
    exact h.on b _ hb
   ·exact h.on b L hL
  ot:=λt' k' e he=>by
   simp only[gi,vag]at he
   obtain⟨⟨⟨t,k⟩,e0⟩,hx,he⟩:=he
   simp only[Prod.mk.injEq]at he
   obtain⟨he,rfl⟩:=he
   obtain⟨hx,htd⟩:=cE hx
   obtain⟨u,v',h1,h2,h3,h4⟩:=h.ot t k e0 hx
   have how:∀b,v'.ownBlock=some b->Rp d f ow b=some (.tmp t' k'):=λb hb=>by
    have:=h4 b hb
    simp only[Rp,this]
    rw[van htd,he]
   rcases hf t k e0 hx htd with hk|⟨k2,hk,hp⟩
   ·rw[hk]at he;cases he
    exact⟨u,v',by rw[vaV (λe=>htd e.symm)];exact h1,h2,h3,how⟩
   ·rw[hk]at he;cases he
    exact⟨v,v',by simp[hd],hp u v' h1 h2 h3,h3,how⟩
  ob:=λi j e cs own b hB hj hb=>by
   obtain⟨v',h1,h3,h4⟩:=h.ob i j e cs own b hB hj hb
   exact⟨v',h1,h3,λb' hb'=>by have:=h4 b' hb';simp only[Rp,this]⟩}
theorem SR.freeB(h:SR P E Γ bs ow w a st){i j:Nat}{cs:List PVal}{own:List (Nat×TypeId)}(hB:st.boxes[i]? =some (.cells cs own)):SR P E Γ bs (λb=>if ow b=some (.box i j)then none else ow b) w a {st with boxes:=st.boxes.set i (.cells cs (own.filter λx=>x.1 !=j))}:=by
 have hilt:i<bs.length:=by rw[h.bl];exact aq hB
 cases hb:bs[i]'hilt with
 | none =>
  have hi:bs[i]? =some none:=by rw[vab hilt,hb]
  have hbox:∀{k:Nat} {B:aA},k≠i->(st.boxes.set i (.cells cs (own.filter λx=>x.1 !=j)))[k]? =some B->st.boxes[k]? =some B:=by
   intro k B hk hB'
   rwa[vai (λe=>hk e.symm)]at hB'
  have hne:∀{k b:Nat},bs[k]? =some (some b)->k≠i:=λhk e=>by subst e;rw[hi]at hk;cases hk
  exact{h with
   bl:=by simp[h.bl]
   bx:=λk b B hk hB'=>h.bx k b B hk (hbox (hne hk) hB')
   on:=λb L hL=>by
    split at hL
    ·cases hL
    ·exact h.on b L hL
   ot:=λt k e he=>by
    obtain⟨u,v,h1,h2,h3,h4⟩:=h.ot t k e he
    exact⟨u,v,h1,h2,h3,λb hb'=>by rw[van (by rw[h4 b hb'];intro hx;cases hx)];exact h4 b hb'⟩
   ob:=λk q e cs' own' b hB' hj hk=>by
    obtain⟨v,h1,h3,h4⟩:=h.ob k q e cs' own' b (hbox (hne hk) hB') hj hk
    exact⟨v,h1,h3,λb' hb'=>by rw[van (by rw[h4 b' hb'];intro hx;cases hx;exact hne hk rfl)];exact h4 b' hb'⟩}
 | some b =>
  have hi:bs[i]? =some (some b):=by rw[vab hilt,hb]
  refine h.box_write hi rfl rfl rfl rfl (λ_ _=>rfl) ?_ (λb' L hL hne=>?_) (λb' L hL=>?_) (λcs' own' he q e hq=>?_)
  ·obtain⟨_,_,c,t,h1,h2,h3⟩:=h.bx i b _ hi hB
   exact⟨c,t,h1,h2,h3⟩
  ·rw[van (by rw[hL];intro hx;cases hx;exact hne j rfl)];exact hL
  ·split at hL
   ·cases hL
   ·exact h.on b' L hL
  ·cases he
   obtain⟨hq,hqj⟩:=bK hq
   obtain⟨v,h1,h3,h4⟩:=h.ob i q e cs own b hB hq hi
   refine⟨v,h1,h3,λb' hb'=>?_⟩
   rw[van (by rw[h4 b' hb'];intro hx;cases hx;simp at hqj)]
   exact h4 b' hb'
theorem SR.addOwnB(h:SR P E Γ bs ow w a st){i b j:Nat}{e:TypeId}{v:Value}{cs:List PVal}{own:List (Nat×TypeId)}(hi:bs[i]? =some (some b))(hB:st.boxes[i]? =some (.cells cs own))
  (hv:w.cell? ⟨b,j,none⟩=some v) (ho:fR P Γ w v e) (hf:∀b',v.ownBlock=some b'->ow b'=none/\(E.T b'\/E.w.heap.size<=b')):
  SR P E Γ bs (λb'=>if v.ownBlock=some b' then some (.box i j)else ow b') w a {st with boxes:=st.boxes.set i (.cells cs ((j,e)::own))}:=by
 refine h.box_write hi rfl rfl rfl rfl (λ_ _=>rfl) ?_ (λb' L hL hne=>?_) (λb' L hL=>?_) (λcs' own' he q e' hq=>?_)
 ·obtain⟨_,_,c,t,h1,h2,h3⟩:=h.bx i b _ hi hB
  exact⟨c,t,h1,h2,h3⟩
 ·rw[van (λhx=>by have:=(hf b' hx).1;rw[this]at hL;cases hL)];exact hL
 ·by_cases hx:v.ownBlock=some b'
  ·exact⟨ho.lt hx,(hf b' hx).2⟩
  ·rw[van hx]at hL;exact h.on b' L hL
 ·cases he
  rcases vaB.1 hq with hq|hq
  ·cases hq
   exact⟨v,hv,ho,λb' hb'=>by rw[vah hb']⟩
  ·obtain⟨v',h1,h3,h4⟩:=h.ob i q e' cs own b hB hq hi
   refine⟨v',h1,h3,λb' hb'=>?_⟩
   rw[van (λhx=>by have:=(hf b' hx).1;rw[h4 b' hb']at this;cases this)]
   exact h4 b' hb'
theorem SR.moveOwn(h:SR P E Γ bs ow w a st){i b t k off:Nat}{e:TypeId}{u v:Value}{cs:List PVal}{own:List (Nat×TypeId)}(hi:bs[i]? =some (some b))(hB:st.boxes[i]? =some (.cells cs own))
  (hm:((t,k),e)∈st.own) (hu:a[t]? =some u) (hp:jU u k=some v) (hc:w.cell? ⟨b,off,none⟩=some v):
  ∃ow',SR P E Γ bs ow' w a {st with own:=st.own.filter λx=>x.1 !=(t,k),boxes:=st.boxes.set i (.cells cs ((off,e)::own))}:=by
 obtain⟨u',v',h1,h2,h3,h4⟩:=h.ot t k e hm
 rw[hu]at h1
 cases h1
 rw[hp]at h2
 cases h2
 exact⟨_,(h.freeT t k).addOwnB (i:=i) (b:=b) (j:=off) (e:=e) (v:=v) hi hB hc h3 (λb' hb'=>⟨by simp[h4 b' hb'],(h.on b' _ (h4 b' hb')).2⟩)⟩
theorem SR.moveOwns{i b t off:Nat}{u:Value}{cs:List PVal}(hi:bs[i]? =some (some b))(hu:a[t]? =some u):∀(L:List (Nat×TypeId)) {ow:Nat->Option iL} {st:aB} {own:List (Nat×TypeId)},SR P E Γ bs ow w a st->st.boxes[i]? =some (.cells cs own)->
  (∀x∈L,((t,x.1),x.2)∈st.own)->(L.map (·.1)).Nodup->(∀x∈L,∃v,jU u x.1=some v/\w.cell? ⟨b,off+x.1,none⟩=some v)->
  ∃ow',SR P E Γ bs ow' w a ⟨st.tmps,st.boxes.set i (.cells cs ((L.map λx=>(off+x.1,x.2)).reverse++own)),st.own.filter λx=>!L.any λy=>x.1==(t,y.1)⟩
 | [],ow,st,own,h,hB,_,_,_ => by
  refine⟨ow,?_⟩
  have e1:st.boxes.set i (.cells cs ((([]:List (Nat×TypeId)).map λx=>(off+x.1,x.2)).reverse++own))=st.boxes:=by
   apply vbf
   intro j
   by_cases hj:i=j
   ·subst hj
    rw[vae (aq hB),hB]
    rfl
   ·rw[vai hj]
  have e2:(st.own.filter λx=>!([]:List (Nat×TypeId)).any λy=>x.1==(t,y.1))=st.own:=by
   apply vcn.2
   intro x _
   rfl
  rw[e1,e2]
  exact h
 | x :: L,ow,st,own,h,hB,hm,hn,hc => by
  rw[vaz,vbu]at hn
  obtain⟨v,hv1,hv2⟩:=hc x (by simp)
  obtain⟨ow1,h1⟩:=h.moveOwn hi hB (hm x (by simp)) hu hv1 hv2
  obtain⟨ow2,h2⟩:=SR.moveOwns hi hu L h1 (vae (aq hB)) (λy hy=>by
   refine va1.2 ⟨hm y (by simp[hy]),?_⟩
   simp only[bne_iff_ne,ne_eq,Prod.mk.injEq,vcj]
   exact λe=>hn.1 (vag.2 ⟨y,hy,e⟩)) hn.2 (λy hy=>hc y (by simp[hy]))
  refine⟨ow2,?_⟩
  simp only[vbR,vc5]at h2
  have e1:((x::L).map λx=>(off+x.1,x.2)).reverse++own=(L.map λx=>(off+x.1,x.2)).reverse++(off+x.1,x.2)::own:=by simp
  have e2:(st.own.filter λz=>!(x::L).any λy=>z.1==(t,y.1))=st.own.filter λz=>(!L.any λy=>z.1==(t,y.1))&&(z.1 !=(t,x.1)):=by
   congr 1
   funext z
   rw[List.any_cons]
   cases(L.any λy=>z.1==(t,y.1))<;>cases hz:(z.1==(t,x.1))<;>simp[bne,hz]
  rw[e1,e2]
  exact h2
end
def oT(P:Program)(op:Op)(id:Nat)(v:Operand->PVal)(H:List aA):Option (PVal×List aA):=
 match op with
 |.move x=>some (v x,H)
 |.assign x=>some (v x,H)
 |.pick c x y=>match v c with
  |.bool true=>some (v x,H)
  |.bool false=>some (v y,H)
  |_=>none
 |.alloc t=>(eD P t).map λzs=>(.bptr id 0,H.set id (.cells zs (IB P t)))
 |.box _ x=>(BQ (v x)).map λcs=>(.bptr id 0,H.set id (.cells cs []))
 |.makeMap _ none=>some (.mapr id,H.set id (.map []))
 |.build t parts=>(dh P t (parts.toList.map λx=>(x.1,v x.2))).map λp=>(p,H)
 |.buildSlice t len parts=>(eV P t len (parts.toList.map λx=>(x.1,v x.2))).map λp=>(p,H)
 |.load t x=>(jx P t (v x) H).map λp=>(p,H)
 |.store t x y=>(di P t (v x) (v y) H).map λH'=>(.val undef,H')
 |.nilCheck x=>match v x with
  |.eptr cs=>some (.eptr cs,H)
  |.bptr i off=>some (.bptr i off,H)
  |.func (.func f) first cap=>some (.func (.func f) first cap,H)
  |_=>none
 |.binOp op T x y _=>(LO P op T (v x) (v y)).map λp=>(p,H)
 |.unOp op _ x=>(qcF op (v x)).map λp=>(p,H)
 |.convert s d x=>(Iv P s d (v x)).map λp=>(p,H)
 |.makeFunc fn first cap=>some (.func fn (first.toList.map v) (cap.toList.map v),H)
 |.slice t x lo hi none=>(AO P t (v x) (lo.map v) (hi.map v) none).map λp=>(p,H)
 |.fieldAddr s x f=>(bv P s (v x) f).map λp=>(p,H)
 |.field t x f=>(PU P t (v x) f).map λp=>(p,H)
 |.indexAddr t x i=>(iq P t (v x) (v i)).map λp=>(p,H)
 |.index t x i=>(yk P t (v x) (v i)).map λp=>(p,H)
 |.lookup t m k ok=>(uR P t (v m) (v k) ok H).map λp=>(p,H)
 |.mapUpdate t m k x=>(gG P t (v m) (v k) (v x) H).map λH'=>(.val undef,H')
 |.extract t i=>(nS (v t) i).map λp=>(p,H)
 |.call {callee:=.builtin .len,args:=⟨[x]⟩,argTypes:=⟨[t]⟩}=>(AL P t (v x) H).map λp=>(p,H)
 |.call {callee:=.builtin .max,args:=⟨x::r⟩,..}=>(Iw TU (v x) (r.map v)).map λp=>(p,H)
 |.call {callee:=.builtin .min,args:=⟨x::r⟩,..}=>(Iw TV (v x) (r.map v)).map λp=>(p,H)
 |_=>none
def aE:Op->Bool
 |.alloc _|.box .. |.makeMap .. =>true
 |_=>false
section
variable{P:Program}{E:lh}{Γ:aP}{bs:be}{ow:Nat->Option iL}{w:World}{a:Array Value}{st:aB}
def RN(P:Program)(E:lh)(Γ:aP)(bs:be)(ow:Nat->Option iL)(w:World)(a:Array Value)(st:aB)(id:Nat)(mk:Bool)(s:Sem Next)(p:PVal)(H:List aA):Prop:=
 ∃r v w' Γ' bs',s.run P w=.ok r w'/\(r=.value v\/(r=.skip/\v=undef))/\SR P E Γ' bs' ow w' a {st with boxes:=H}/\VR Γ' bs' w' p v/\
  Γ.Le w Γ' w'/\(bs'=bs\/(mk=true/\bs'=bs.set id (some w.heap.size)))/\bs.Sub bs'
theorem RN.quiet(h:SR P E Γ bs ow w a st){id:Nat}{mk:Bool}{s:Sem Next}{p:PVal}(hs:∃v,s.run P w=.ok (.value v) w/\VR Γ bs w p v):RN P E Γ bs ow w a st id mk s p st.boxes:=by
 obtain⟨v,h1,h2⟩:=hs
 exact⟨_,v,w,Γ,bs,h1,.inl rfl,h,h2,.refl _ _,.inl rfl,.refl _⟩
theorem ef{α β:Type}{f:α->β}{x:Option α}{y:β}(h:x.map f=some y):∃z,x=some z/\f z=y:=by simpa using h
theorem wU{ρ:Operand->Value}{v:Operand->PVal}(hρ:∀x,VR Γ bs w (v x) (ρ x))(parts:List (Nat×Operand)):(parts.map λx=>(x.1,v x.2)).length=(parts.map λx=>(x.1,ρ x.2)).length/\
  ∀(j:Nat) p u,(parts.map λx=>(x.1,v x.2))[j]? =some p->(parts.map λx=>(x.1,ρ x.2))[j]? =some u->p.1=u.1/\VR Γ bs w p.2 u.2:=by
 refine⟨by simp,λj p u hp hu=>?_⟩
 simp only[vav]at hp hu
 cases hx:parts[j]? with
 |none=>simp[hx]at hp
 |some x=>
  simp only[hx,vak,vax]at hp hu
  subst hp;subst hu
  exact⟨rfl,hρ _⟩
theorem yg{ρ:Operand->Value}{v:Operand->PVal}(hρ:∀x,VR Γ bs w (v x) (ρ x))(l:List Operand)(j:Nat)(p:PVal)(u:Value)(hp:(l.map v)[j]? =some p)(hu:(l.map ρ)[j]? =some u):VR Γ bs w p u:=by
 simp only[vav]at hp hu
 cases hx:l[j]? with
 |none=>simp[hx]at hp
 |some x=>
  simp only[hx,vak,vax]at hp hu
  subst hp;subst hu
  exact hρ _
theorem N6(h:SR P E Γ bs ow w a st)(ds:List Deferred){o:Oper}{id:Nat}{p:PVal}{H:List aA}(hid:aE o.op=true->bs[id]? =some none)
  (hp:oT P o.op id (opv E.GE st.tmps) st.boxes=some (p,H)):RN P E Γ bs ow w a st id (aE o.op) (execOp (Act.mk a ds).eval o) p H:=by
 have hρ:∀x,VR Γ bs w (opv E.GE st.tmps x) ((Act.mk a ds).eval x):=λx=>h.opv ds x
 unfold oT at hp
 split at hp
 case h_1 x ho=>cases hp;exact .quiet h ⟨_,by simp[execOp,ho],hρ x⟩
 case h_2 x ho=>cases hp;exact .quiet h ⟨_,by simp[execOp,ho],hρ x⟩
 case h_3 c x y ho=>
  have hc:=hρ c
  split at hp
  ·rename_i hb;rw[hb]at hc;cases hp
   generalize hv:(Act.mk a ds).eval c=vc at hc
   cases hc
   exact .quiet h ⟨_,by simp[execOp,ho,hv,asBool],hρ x⟩
  ·rename_i hb;rw[hb]at hc;cases hp
   generalize hv:(Act.mk a ds).eval c=vc at hc
   cases hc
   exact .quiet h ⟨_,by simp[execOp,ho,hv,asBool],hρ y⟩
  ·cases hp
 case h_4 t ho=>
  obtain⟨zs,hz,he⟩:=ef hp
  cases he
  obtain⟨v,w',h1,h2,h3,h4,h5⟩:=LN h (hid (by simp[ho,aE])) hz
  exact⟨_,v,w',Γ,_,by simp[execOp,ho,h1],.inl rfl,h2,h3,h5,.inr ⟨by simp[ho,aE],rfl⟩,h4⟩
 case h_5 t x ho=>
  obtain⟨cs,hc,he⟩:=ef hp
  cases he
  obtain⟨v,w',h1,h2,h3,h4,h5⟩:=Ra (t:=t) h (hid (by simp[ho,aE])) (hρ x) hc
  exact⟨_,v,w',Γ,_,by simp[execOp,ho,h1],.inl rfl,h2,h3,h5,.inr ⟨by simp[ho,aE],rfl⟩,h4⟩
 case h_6 t ho=>
  cases hp
  obtain⟨v,w',h1,h2,h3,h4,h5⟩:=PY (t:=t) h (hid (by simp[ho,aE]))
  exact⟨_,v,w',Γ,_,by simp[execOp,ho,h1],.inl rfl,h2,h3,h5,.inr ⟨by simp[ho,aE],rfl⟩,h4⟩
 case h_7 t parts ho=>
  obtain⟨q,hq,he⟩:=ef hp
  cases he
  obtain⟨k1,k2⟩:=wU hρ parts.toList
  obtain⟨v,h1,h2⟩:=yi k1 k2 hq
  refine .quiet h ⟨v,?_,h2⟩
  have:(parts.map λx=>(x.1,(Act.mk a ds).eval x.2))=(parts.toList.map λx=>(x.1,(Act.mk a ds).eval x.2)).toArray:=by apply vbO;simp
  simp only[execOp,ho]
  rw[this]
  simp[h1]
 case h_8 t len parts ho=>
  obtain⟨q,hq,he⟩:=ef hp
  cases he
  obtain⟨k1,k2⟩:=wU hρ parts.toList
  obtain⟨v,w',Γ',h1,h2,h3,h4,_,_⟩:=yY h k1 k2 hq
  refine⟨_,v,w',Γ',bs,?_,.inl rfl,h2,h4,h3,.inl rfl,.refl _⟩
  have:(parts.map λx=>(x.1,(Act.mk a ds).eval x.2))=(parts.toList.map λx=>(x.1,(Act.mk a ds).eval x.2)).toArray:=by apply vbO;simp
  simp only[execOp,ho]
  rw[this]
  simp[h1]
 case h_9 t x ho=>
  obtain⟨q,hq,he⟩:=ef hp
  cases he
  obtain⟨v,h1,h2⟩:=BW h (hρ x) hq
  exact .quiet h ⟨v,by simp[execOp,ho,h1],h2⟩
 case h_10 t x y ho=>
  obtain⟨q,hq,he⟩:=ef hp
  cases he
  obtain⟨w',h1,h2,h3⟩:=L6 h (hρ x) (hρ y) hq
  exact⟨.skip,undef,w',Γ,bs,by simp[execOp,ho,h1],.inr ⟨rfl,rfl⟩,h2,.val _,h3,.inl rfl,.refl _⟩
 case h_11 x ho=>
  have hx:=hρ x
  split at hp
  ·rename_i cs hc;rw[hc]at hx;cases hp
   generalize hv:(Act.mk a ds).eval x=vx at hx
   refine .quiet h ⟨vx,?_,hx⟩
   cases hx<;>simp[execOp,ho,hv]
  ·rename_i i off hc;rw[hc]at hx;cases hp
   generalize hv:(Act.mk a ds).eval x=vx at hx
   refine .quiet h ⟨vx,?_,hx⟩
   cases hx;simp[execOp,ho,hv]
  ·rename_i f first cap hc;rw[hc]at hx;cases hp
   generalize hv:(Act.mk a ds).eval x=vx at hx
   refine .quiet h ⟨vx,?_,hx⟩
   cases hx;simp[execOp,ho,hv]
  ·cases hp
 case h_12 op T x y yT ho=>
  obtain⟨q,hq,he⟩:=ef hp
  cases he
  obtain⟨v,h1,h2⟩:=W3 (P:=P) (hρ x) (hρ y) x y hq
  refine .quiet h ⟨v,?_,h2⟩
  simp only[execOp,ho,Sem.run_bind]at h1 ⊢
  rw[h1];rfl
 case h_13 op T x ho=>
  obtain⟨q,hq,he⟩:=ef hp
  cases he
  obtain⟨v,h1,h2⟩:=YP (P:=P) (hρ x) hq
  exact .quiet h ⟨v,by simp[execOp,ho,h1],h2⟩
 case h_14 s d x ho=>
  obtain⟨q,hq,he⟩:=ef hp
  cases he
  obtain⟨v,h1,h2⟩:=UQ (P:=P) (hρ x) hq
  exact .quiet h ⟨v,by simp[execOp,ho,h1],h2⟩
 case h_15 fn first cap ho=>
  cases hp
  refine .quiet h ⟨.func fn (first.map (Act.mk a ds).eval) (cap.map (Act.mk a ds).eval),by simp[execOp,ho,Instr.makeFunc],.func fn _ _ _ _ (by simp) (by simp) (λi p v hp hv=>?_) (λi p v hp hv=>?_)⟩
  ·exact yg hρ first.toList i p v hp (by simpa using hv)
  ·exact yg hρ cap.toList i p v hp (by simpa using hv)
 case h_16 t x lo hi ho=>
  obtain⟨q,hq,he⟩:=ef hp
  cases he
  obtain⟨v,h1,h2⟩:=SM (P:=P) (hρ x) (lo:=lo.map (opv E.GE st.tmps)) (hi:=hi.map (opv E.GE st.tmps)) (vlo:=lo.map (Act.mk a ds).eval) (vhi:=hi.map (Act.mk a ds).eval)
   (λp hp=>by cases lo<;>simp at hp;subst hp;exact⟨_,rfl,hρ _⟩) (λhn=>by cases lo<;>simp at hn ⊢) (λp hp=>by cases hi<;>simp at hp;subst hp;exact⟨_,rfl,hρ _⟩) (λhn=>by cases hi<;>simp at hn ⊢) hq
  exact .quiet h ⟨v,by simp[execOp,ho,h1],h2⟩
 case h_17 s x f ho=>
  obtain⟨q,hq,he⟩:=ef hp
  cases he
  obtain⟨v,h1,h2⟩:=AJ (P:=P) (hρ x) hq
  exact .quiet h ⟨v,by simp[execOp,ho,h1],h2⟩
 case h_18 t x f ho=>
  obtain⟨q,hq,he⟩:=ef hp
  cases he
  obtain⟨v,h1,h2⟩:=SG (P:=P) (hρ x) hq
  exact .quiet h ⟨v,by simp[execOp,ho,h1],h2⟩
 case h_19 t x i ho=>
  obtain⟨q,hq,he⟩:=ef hp
  cases he
  obtain⟨v,h1,h2⟩:=LW (P:=P) (hρ x) (hρ i) hq
  exact .quiet h ⟨v,by simp[execOp,ho,h1],h2⟩
 case h_20 t x i ho=>
  obtain⟨q,hq,he⟩:=ef hp
  cases he
  obtain⟨v,h1,h2⟩:=SH (P:=P) (hρ x) (hρ i) hq
  exact .quiet h ⟨v,by simp[execOp,ho,h1],h2⟩
 case h_21 t m k ok ho=>
  obtain⟨q,hq,he⟩:=ef hp
  cases he
  obtain⟨v,h1,h2⟩:=Re h (hρ m) (hρ k) hq
  exact .quiet h ⟨v,by simp[execOp,ho,h1],h2⟩
 case h_22 t m k x ho=>
  obtain⟨q,hq,he⟩:=ef hp
  cases he
  obtain⟨w',h1,h2,h3⟩:=L0 h (hρ m) (hρ k) (hρ x) hq
  exact⟨.skip,undef,w',Γ,bs,by simp[execOp,ho,h1],.inr ⟨rfl,rfl⟩,h2,.val _,h3,.inl rfl,.refl _⟩
 case h_23 t i ho=>
  obtain⟨q,hq,he⟩:=ef hp
  cases he
  obtain⟨v,h1,h2⟩:=FF (P:=P) (hρ t) hq
  exact .quiet h ⟨v,by simp[execOp,ho,h1],h2⟩
 case h_24 x t ho=>
  obtain⟨q,hq,he⟩:=ef hp
  cases he
  obtain⟨v,h1,h2⟩:=Xd (ty:=o.type) h (hρ x) hq
  exact .quiet h ⟨v,by simp[execOp,ho,resolve,invoke,builtin,h1],h2⟩
 case h_25 x r tys ho=>
  obtain⟨q,hq,he⟩:=ef hp
  cases he
  obtain⟨v,h1,h2⟩:=HJ (P:=P) UW (r.map (opv E.GE st.tmps)) (r.map (Act.mk a ds).eval) _ _ (by simp) (hρ x) (yg hρ r) hq
  exact .quiet h ⟨v,by simp[execOp,ho,resolve,invoke,builtin,Builtin.max_,h1],h2⟩
 case h_26 x r tys ho=>
  obtain⟨q,hq,he⟩:=ef hp
  cases he
  obtain⟨v,h1,h2⟩:=HJ (P:=P) UX (r.map (opv E.GE st.tmps)) (r.map (Act.mk a ds).eval) _ _ (by simp) (hρ x) (yg hρ r) hq
  exact .quiet h ⟨v,by simp[execOp,ho,resolve,invoke,builtin,Builtin.min_,h1],h2⟩
 case h_27=>cases hp
end
def aN(bs:be)(ow:Nat->Option iL)(b:Nat):Prop:=(∃i:Nat,bs[i]? =some (some b))\/ow b≠none
def C(P:Program)(GE:List (Nat×List PVal))(f:FuncId)(args:List PVal)(oa:List ((Nat×Nat)×TypeId))(H:List aA)(r:PVal)(ro:List (Nat×TypeId))(H':List aA):Prop:=
 (∀vs w,(callFunc f vs).run P w=.ok (.enter f vs) w)/\
 ∀(Γ:aP) (bs:be) (ow:Nat->Option iL) (w:World) (vs:Array Value),
  SR P ⟨GE,Γ,w,aN bs ow⟩ Γ bs ow w vs ⟨args,H,oa⟩->
  Calls P f vs w λe w'=>∃v Γ' ow',e=.returned v/\SR P ⟨GE,Γ,w,aN bs ow⟩ Γ' bs ow' w' #[v] ⟨[r],H',ro.map λx=>((0,x.1),x.2)⟩
section
variable{P:Program}{E:lh}{Γ:aP}{bs:be}{ow:Nat->Option iL}{w:World}{a:Array Value}{st:aB}
theorem Zz.refl(GE:List (Nat×List PVal))(Γ:aP)(w:World)(T:Nat->Prop):Zz ⟨GE,Γ,w,T⟩ Γ w:=
 ⟨rfl,rfl,rfl,var _,var _,λ_ _ _=>⟨rfl,rfl⟩,.refl _ _⟩
def LF(d:Nat)(owC ow:Nat->Option iL):Nat->Option iL:=λb=>
 match owC b with
 |some (.tmp _ k)=>some (.tmp d k)
 |_=>ow b
theorem SR.setResult(h:SR P E Γ bs ow w a st){d:Nat}{r:PVal}{v:Value}(hd:d<a.size)(hv:VR Γ bs w r v){owC:Nat->Option iL}{ro:List (Nat×TypeId)}
  (hro:∀k e,(k,e)∈ro->∃v',jU v k=some v'/\fR P Γ w v' e/\∀b,v'.ownBlock=some b->owC b=some (.tmp 0 k))
  (hfree:∀b t k,owC b=some (.tmp t k)->ow b=none/\b<w.heap.size/\(E.T b\/E.w.heap.size<=b)):
  SR P E Γ bs (LF d owC ow) w (a.setIfInBounds d v) {st with tmps:=st.tmps.set d r,own:=(ro.map λx=>((d,x.1),x.2))++bu d st.own}:=by
 have hs:=h.set (d:=d) (p:=r) hv
 have hkeep:∀b L,ow b=some L->LF d owC ow b=some L:=λb L hL=>by
  unfold LF
  split
  ·rename_i t k hb;rw[(hfree b _ _ hb).1]at hL;cases hL
  ·exact hL
 exact{hs with
  on:=λb L hL=>by
   unfold LF at hL
   split at hL
   ·rename_i t k hb;exact(hfree b _ _ hb).2
   ·exact h.on b L hL
  ot:=λt k e he=>by
   rcases vaw.1 he with he|he
   ·simp only[vag,Prod.mk.injEq]at he
    obtain⟨⟨k',e'⟩,hm,⟨rfl,rfl⟩,rfl⟩:=he
    obtain⟨v',h1,h2,h3⟩:=hro k' e' hm
    refine⟨v,v',by simp[hd],h1,h2,λb hb=>?_⟩
    have:=h3 b hb
    simp[LF,this]
   ·obtain⟨u,v',h1,h2,h3,h4⟩:=hs.ot t k e he
    exact⟨u,v',h1,h2,h3,λb hb=>hkeep b _ (h4 b hb)⟩
  ob:=λi j e cs own b hB hj hb=>by
   obtain⟨v',h1,h3,h4⟩:=h.ob i j e cs own b hB hj hb
   exact⟨v',h1,h3,λb' hb'=>hkeep b' _ (h4 b' hb')⟩}
theorem Uj(h:SR P E Γ bs ow w a st){g:FuncId}{args:List PVal}{r:PVal}{ro:List (Nat×TypeId)}{vs:Array Value}{d:Nat}(hd:d<a.size)(hC:C P E.GE g args [] [] r ro [])
  (hl:vs.size=args.length) (hv:∀(i:Nat) p v,args[i]? =some p->vs[i]? =some v->VR Γ bs w p v) (hcl:gZ 0 args):
  Calls P g vs w λe w'=>∃v Γ' ow',e=.returned v/\SR P E Γ' bs ow' w' (a.setIfInBounds d v) {st with tmps:=st.tmps.set d r,own:=(ro.map λx=>((d,x.1),x.2))++bu d st.own}/\Γ.Le w Γ' w':=by
 have hpre:SR P ⟨E.GE,Γ,w,aN [] λ_=>none⟩ Γ [] (λ_=>none) w vs ⟨args,[],[]⟩:={
  wi:=h.wi
  sz:=hl
  tm:=λt p v hp hv'=>(hv t p v hp hv').restrict (n:=0) (kr hcl hp) (λi b hi _=>absurd hi (vaS _))
  bl:=rfl
  bx:=λi b B hb=>by simp at hb
  inj:=λi j b hb=>by simp at hb
  bn:=λi b hb=>by simp at hb
  on:=λb L hL=>by cases hL
  ot:=λt k e he=>by simp at he
  ob:=λi j e cs own b hB=>by simp at hB
  gl:=λg cs hg=>(h.gl g cs hg).restrict (n:=0) (by simp only[PVal.cl];exact h.gc g cs hg) (λi b hi _=>absurd hi (vaS _))
  gc:=h.gc
  gx:=λg cs hg=>by
   obtain⟨k1,_,_,k4⟩:=h.gnow hg
   exact⟨k1,λhT=>hT.elim (λhx=>by obtain⟨i,hi⟩:=hx;simp at hi) (λhx=>hx rfl),k4⟩
  step:=.refl _ _ _ _}
 refine(hC.2 Γ [] (λ_=>none) w vs hpre).mono λe w' he=>?_
 obtain⟨v,Γ',owC,rfl,hS⟩:=he
 have hT:∀b,¬aN [] (λ_=>none) b:=λb hb=>by
  rcases hb with⟨i,hi⟩|hb
  ·simp at hi
  ·exact hb rfl
 have hle:Γ.Le w Γ' w':=hS.step.le
 have hw:=h.world (λ_=>False) hle hS.wi hS.step.os hS.step.tape hS.step.output hS.step.size (λb hb _=>hS.step.keep b hb (hT b)) (λ_ hx=>hx.elim) (λ_ _ _ hx=>hx) (λ_ _ _ hx=>hx) hS.step.drawn
 have hr:VR Γ' bs w' r v:=(hS.tm 0 r v rfl rfl).mono (.refl _ _) (λi b hb=>by simp at hb)
 refine⟨v,Γ',LF d owC ow,rfl,hw.setResult hd hr (λk e hm=>?_) (λb t k hb=>?_),hle⟩
 ·obtain⟨u,v',h1,h2,h3,h4⟩:=hS.ot 0 k e (vag.2 ⟨(k,e),hm,rfl⟩)
  simp at h1;subst h1
  exact⟨v',h2,h3,h4⟩
 ·obtain⟨k1,k2⟩:=hS.on b _ hb
  have hge:w.heap.size<=b:=k2.resolve_left (hT b)
  refine⟨?_,k1,.inr (vaH h.step.size hge)⟩
  cases hL:ow b with
  |none=>rfl
  |some L=>have:=(h.on b L hL).1;omega
end
inductive tQ(ρ:List Nat):PVal->PVal->Prop where
 |refl (p:PVal) (h:p.cl 0):tQ ρ p p
 |bptr (i j off:Nat) (h:ρ[i]? =some j):tQ ρ (.bptr j off) (.bptr i off)
 |mapr (i j:Nat) (h:ρ[i]? =some j):tQ ρ (.mapr j) (.mapr i)
 |nptr (i j:Nat) (T:TypeId) (h:ρ[i]? =some j):tQ ρ (.nptr j T) (.nptr i T)
 |bsl (i j off n:Nat) (h:ρ[i]? =some j):tQ ρ (.bsl j off n) (.bsl i off n)
 | func (fn:Fn) (f c f' c':List PVal) (hl:f.length = f'.length) (hl':c.length = c'.length)
   (h:∀(i:Nat) p q,f[i]? =some p->f'[i]? =some q->tQ ρ p q) (h':∀(i:Nat) p q,c[i]? =some p->c'[i]? =some q->tQ ρ p q):tQ ρ (.func fn f c) (.func fn f' c')
 |agg (f f':List PVal) (hl:f.length=f'.length) (h:∀(i:Nat) p q,f[i]? =some p->f'[i]? =some q->tQ ρ p q):tQ ρ (.agg f) (.agg f')
def gh(ρ:List Nat):aA->aA->Prop
 |.cells cs own,.cells cs' own'=>own=own'/\cs.length=cs'.length/\∀(i:Nat) p q,cs[i]? =some p->cs'[i]? =some q->tQ ρ p q
 |.map es,.map es'=>es.length=es'.length/\∀(i:Nat) k u k' u',es[i]? =some (k,u)->es'[i]? =some (k',u')->tQ ρ k k'/\tQ ρ u u'
 |.dead,.dead=>True
 |_,_=>False
section
variable{P:Program}{E:lh}{Γ:aP}{bs bsC:be}{ow:Nat->Option iL}{w:World}{a:Array Value}{st:aB}{ρ:List Nat}
theorem tQ.to{p q:PVal}(hr:tQ ρ p q)(hb:∀(i j:Nat),ρ[i]? =some j->bsC[i]? =bs[j]?):∀{v:Value},VR Γ bs w p v->VR Γ bsC w q v:=by
 induction hr with
 |refl p h=>intro v hv;exact hv.restrict (n:=0) h λi b hi _=>absurd hi (vaS _)
 |bptr i j off h=>intro v hv;cases hv with|bptr _ _ b h'=>exact .bptr _ _ _ ((hb i j h).trans h')
 |mapr i j h=>intro v hv;cases hv with|mapr _ b h'=>exact .mapr _ _ ((hb i j h).trans h')
 |nptr i j T h=>intro v hv;cases hv with|nptrN _ _=>exact .nptrN _ _|nptr _ b _ h'=>exact .nptr _ _ _ ((hb i j h).trans h')
 |bsl i j off n h=>intro v hv;cases hv with|bsl _ _ _ x cap hcap hnil hx=>exact .bsl _ _ _ x cap hcap hnil (hx.imp_right λ⟨b,h1,h2⟩=>⟨b,h1,(hb i j h).trans h2⟩)
 | func fn f c f' c' hl hl' _ _ ih ih' =>
  intro v hv
  cases hv with
  | func fn f c fs cs k k' h h' =>
   refine .func fn f' c' fs cs (by omega) (by omega) (λi p v hp hv=>?_) (λi p v hp hv=>?_)
   ·have hi:=aq hp
    have:=vab (l:=f) (i:=i) (by omega)
    exact ih i _ p this hp (h i _ v this hv)
   ·have hi:=aq hp
    have:=vab (l:=c) (i:=i) (by omega)
    exact ih' i _ p this hp (h' i _ v this hv)
 | agg f f' hl _ ih =>
  intro v hv
  cases hv with
  |agg f fs k h=>
   refine .agg f' fs (by omega) (λi p v hp hv=>?_)
   have hi:=aq hp
   have:=vab (l:=f) (i:=i) (by omega)
   exact ih i _ p this hp (h i _ v this hv)
theorem tQ.from{p q:PVal}(hr:tQ ρ p q)(hb:∀(i j:Nat),ρ[i]? =some j->bsC[i]? =bs[j]?):∀{v:Value},VR Γ bsC w q v->VR Γ bs w p v:=by
 induction hr with
 |refl p h=>intro v hv;exact hv.restrict (n:=0) h λi b hi _=>absurd hi (vaS _)
 |bptr i j off h=>intro v hv;cases hv with|bptr _ _ b h'=>exact .bptr _ _ _ ((hb i j h).symm.trans h')
 |mapr i j h=>intro v hv;cases hv with|mapr _ b h'=>exact .mapr _ _ ((hb i j h).symm.trans h')
 |nptr i j T h=>intro v hv;cases hv with|nptrN _ _=>exact .nptrN _ _|nptr _ b _ h'=>exact .nptr _ _ _ ((hb i j h).symm.trans h')
 |bsl i j off n h=>intro v hv;cases hv with|bsl _ _ _ x cap hcap hnil hx=>exact .bsl _ _ _ x cap hcap hnil (hx.imp_right λ⟨b,h1,h2⟩=>⟨b,h1,(hb i j h).symm.trans h2⟩)
 | func fn f c f' c' hl hl' _ _ ih ih' =>
  intro v hv
  cases hv with
  | func fn f' c' fs cs k k' h h' =>
   refine .func fn f c fs cs (by omega) (by omega) (λi p v hp hv=>?_) (λi p v hp hv=>?_)
   ·have hi:=aq hp
    have:=vab (l:=f') (i:=i) (by omega)
    exact ih i p _ hp this (h i _ v this hv)
   ·have hi:=aq hp
    have:=vab (l:=c') (i:=i) (by omega)
    exact ih' i p _ hp this (h' i _ v this hv)
 | agg f f' hl _ ih =>
  intro v hv
  cases hv with
  |agg f' fs k h=>
   refine .agg f fs (by omega) (λi p v hp hv=>?_)
   have hi:=aq hp
   have:=vab (l:=f') (i:=i) (by omega)
   exact ih i p _ hp this (h i _ v this hv)
theorem tQ.nptr_to{p:PVal}{i:Nat}{T:TypeId}(h:tQ ρ p (.nptr i T)):∃j,p=.nptr j T:=by
 cases h with
 |refl _ _=>exact⟨i,rfl⟩
 |nptr _ j _ _=>exact⟨j,rfl⟩
theorem tQ.nptr_from{q:PVal}{i:Nat}{T:TypeId}(h:tQ ρ (.nptr i T) q):∃j,q=.nptr j T:=by
 cases h with
 |refl _ _=>exact⟨i,rfl⟩
 |nptr j _ _ _=>exact⟨j,rfl⟩
theorem gh.to{B B':aA}{b:Nat}(hr:gh ρ B B')(hb:∀(i j:Nat),ρ[i]? =some j->bsC[i]? =bs[j]?)(h:BR Γ bs w B b):BR Γ bsC w B' b:=by
 cases B<;>cases B'<;>simp only[gh]at hr
 ·rename_i cs own cs' own'
  obtain⟨_,hl,hr⟩:=hr
  obtain⟨c,t,h1,h2,h3,h4⟩:=h
  refine⟨c,t,h1,by omega,λj p v hp hv=>?_,λj i T hj=>?_⟩
  ·have hj:=aq hp
   have:=vab (l:=cs) (i:=j) (by omega)
   exact(hr j _ p this hp).to hb (h3 j _ v this hv)
  ·have hlt:=aq hj
   have hg:=vab (l:=cs) (i:=j) (by omega)
   obtain⟨i',hi'⟩:=(hr j _ _ hg hj).nptr_to
   rw[hi']at hg
   have:=h4 j i' T hg
   exact⟨this.1,by omega⟩
 ·rename_i es es'
  obtain⟨hl,hr⟩:=hr
  obtain⟨c,t,h1,h2,h3,h4⟩:=h
  refine⟨c,t,h1,by omega,λj k u x hp hv=>?_,h4⟩
  have hj:=aq hp
  have:=vab (l:=es) (i:=j) (by omega)
  obtain⟨r1,r2⟩:=hr j _ _ k u this hp
  obtain⟨q1,q2⟩:=h3 j _ _ x this hv
  exact⟨r1.to hb q1,r2.to hb q2⟩
 ·trivial
theorem gh.from{B B':aA}{b:Nat}(hr:gh ρ B B')(hb:∀(i j:Nat),ρ[i]? =some j->bsC[i]? =bs[j]?)(h:BR Γ bsC w B' b):BR Γ bs w B b:=by
 cases B<;>cases B'<;>simp only[gh]at hr
 ·rename_i cs own cs' own'
  obtain⟨_,hl,hr⟩:=hr
  obtain⟨c,t,h1,h2,h3,h4⟩:=h
  refine⟨c,t,h1,by omega,λj p v hp hv=>?_,λj i T hj=>?_⟩
  ·have hj:=aq hp
   have:=vab (l:=cs') (i:=j) (by omega)
   exact(hr j p _ hp this).from hb (h3 j _ v this hv)
  ·have hlt:=aq hj
   have hg:=vab (l:=cs') (i:=j) (by omega)
   obtain⟨i',hi'⟩:=(hr j _ _ hj hg).nptr_from
   rw[hi']at hg
   have:=h4 j i' T hg
   exact⟨this.1,by omega⟩
 ·rename_i es es'
  obtain⟨hl,hr⟩:=hr
  obtain⟨c,t,h1,h2,h3,h4⟩:=h
  refine⟨c,t,h1,by omega,λj k u x hp hv=>?_,h4⟩
  have hj:=aq hp
  have:=vab (l:=es') (i:=j) (by omega)
  obtain⟨r1,r2⟩:=hr j k u _ _ hp this
  obtain⟨q1,q2⟩:=h3 j _ _ x this hv
  exact⟨r1.from hb q1,r2.from hb q2⟩
 ·trivial
structure zr(ρ:List Nat)(H:List aA)(Hc:List aA):Prop where
 len:Hc.length=ρ.length
 box:∀(i j:Nat),ρ[i]? =some j->∃B Bc,H[j]? =some B/\Hc[i]? =some Bc/\gh ρ B Bc
def gz(ρ:List Nat)(Γ:aP)(ow:Nat->Option iL):Nat->Option iL:=λb=>
 match ow b with
 |some (.box j k)=>if(Γ b).isSome/\j∈ρ then some (.box (ρ.idxOf j) k)else none
 |_=>none
def wv(ρ:List Nat)(d:Nat)(owC ow:Nat->Option iL):Nat->Option iL:=λb=>
 match owC b with
 |some (.box i k)=>some (.box (ρ.getD i 0) k)
 |some (.tmp _ k)=>some (.tmp d k)
 |none=>match ow b with
  |some (.box j k)=>if j∈ρ then none else some (.box j k)
  |x=>x
theorem rT{ρ:List Nat}(hn:ρ.Nodup){i j:Nat}(h:ρ[i]? =some j):ρ.idxOf j=i:=by
 have hi:=aq h
 have hj:ρ[i]=j:=by rw[vab hi]at h;exact vbb h
 subst hj
 exact hn.idxOf_getElem i hi
theorem Sa(h:SR P E Γ bs ow w a st){g:FuncId}{args argsC:List PVal}{r rc:PVal}{ro:List (Nat×TypeId)}{Hc Hc' H':List aA}{vs:Array Value}{d:Nat}(hd:d<a.size)
  (hn:ρ.Nodup) (hC:C P E.GE g argsC [] Hc rc ro Hc') (hH:zr ρ st.boxes Hc) (hH':zr ρ H' Hc') (hlen:H'.length=st.boxes.length) (hsame:∀j:Nat,j∉ρ->H'[j]? =st.boxes[j]?)
  (hr:tQ ρ r rc) (hal:args.length=argsC.length) (ha:∀(i:Nat) p q,args[i]? =some p->argsC[i]? =some q->tQ ρ p q)
  (hl:vs.size=args.length) (hv:∀(i:Nat) p v,args[i]? =some p->vs[i]? =some v->VR Γ bs w p v):
  Calls P g vs w λe w'=>∃v Γ' ow',e=.returned v/\SR P E Γ' bs ow' w' (a.setIfInBounds d v) {st with tmps:=st.tmps.set d r,boxes:=H',own:=(ro.map λx=>((d,x.1),x.2))++bu d st.own}/\Γ.Le w Γ' w':=by
 let bsC:be:=ρ.map λj=>(bs[j]?).getD none
 have hjlt:∀{i j:Nat},ρ[i]? =some j->j<st.boxes.length:=λ{i j} hij=>by
  obtain⟨B,_,hB,_⟩:=hH.box i j hij;exact aq hB
 have hbb:∀(i j:Nat),ρ[i]? =some j->bsC[i]? =bs[j]?:=by
  intro i j hij
  have hj:j<bs.length:=by rw[h.bl];exact hjlt hij
  simp[bsC,hij,vab hj]
 have hbc:∀{i b:Nat},bsC[i]? =some (some b)->∃j,ρ[i]? =some j/\bs[j]? =some (some b):=by
  intro i b hib
  have hi:i<ρ.length:=by have:=aq hib;simpa[bsC]using this
  have hij:ρ[i]? =some ρ[i]:=vab hi
  exact⟨_,hij,(hbb i _ hij).symm.trans hib⟩
 have hcow:∀{b L},gz ρ Γ ow b=some L->∃j k,ow b=some (.box j k)/\(Γ b).isSome/\j∈ρ/\L=.box (ρ.idxOf j) k:=by
  intro b L hL
  unfold gz at hL
  split at hL
  ·rename_i j k hb
   split at hL
   ·rename_i hc;cases hL;exact⟨j,k,hb,hc.1,hc.2,rfl⟩
   ·cases hL
  ·cases hL
 have hpre:SR P ⟨E.GE,Γ,w,aN bsC (gz ρ Γ ow)⟩ Γ bsC (gz ρ Γ ow) w vs ⟨argsC,Hc,[]⟩:={
  wi:=h.wi
  sz:=by simpa[hal]using hl
  tm:=λt q v hq hv'=>by
   have ht:=aq hq
   have hp:=vab (l:=args) (i:=t) (by rw[hal];exact ht)
   exact(ha t _ q hp hq).to hbb (hv t _ v hp hv')
  bl:=by simp[bsC,hH.len]
  bx:=λi b Bc hib hBc=>by
   obtain⟨j,hij,hjb⟩:=hbc hib
   obtain⟨B,Bc',hB,hBc',hx⟩:=hH.box i j hij
   rw[hBc]at hBc';cases hBc'
   obtain⟨k1,k2,k3⟩:=h.bx j b B hjb hB
   exact⟨k1,k2,hx.to hbb k3⟩
  inj:=λi j b hi hj=>by
   obtain⟨x,hx,hxb⟩:=hbc hi
   obtain⟨y,hy,hyb⟩:=hbc hj
   have:=h.inj x y b hxb hyb
   subst this
   rw[<-rT hn hx,rT hn hy]
  bn:=λi b hb=>.inl (.inl ⟨i,hb⟩)
  on:=λb L hL=>by
   obtain⟨j,k,hb,_⟩:=hcow hL
   exact⟨(h.on b _ hb).1,.inl (.inr (by rw[hL];simp))⟩
  ot:=λt k e he=>by simp at he
  ob:=λi k e cs own b hB hk hb=>by
   obtain⟨j,hij,hjb⟩:=hbc hb
   obtain⟨B,Bc',hB',hBc',hx⟩:=hH.box i j hij
   rw[hB]at hBc';cases hBc'
   cases B with
   |cells cs' own'=>
    obtain⟨rfl,_,_⟩:=hx
    obtain⟨v,k1,k2,k3⟩:=h.ob j k e cs' own' b hB' hk hjb
    refine⟨v,k1,k2,λb' hb'=>?_⟩
    have hg:(Γ b').isSome:=by obtain⟨n,xs,_,o2⟩:=k2;rw[o2 b' hb'];rfl
    simp only[gz,k3 b' hb']
    rw[vah ⟨hg,vaA hij⟩,rT hn hij]
   |map es=>simp[gh]at hx
   |dead=>simp[gh]at hx
  gl:=λg cs hg=>(h.gl g cs hg).restrict (n:=0) (by simp only[PVal.cl];exact h.gc g cs hg) (λi b hi _=>absurd hi (vaS _))
  gc:=h.gc
  gx:=λg cs hg=>by
   obtain⟨k1,k2,k3,k4⟩:=h.gnow hg
   refine⟨k1,λhT=>?_,k4⟩
   rcases hT with⟨i,hi⟩|hT
   ·obtain⟨j,_,hjb⟩:=hbc hi
    exact k2 j g hjb rfl
   ·cases hL:gz ρ Γ ow g with
    |none=>exact hT hL
    |some L=>
     obtain⟨j,k,hk',_⟩:=hcow hL
     rw[k3]at hk';cases hk'
  step:=.refl _ _ _ _}
 refine(hC.2 Γ bsC _ w vs hpre).mono λe w' he=>?_
 obtain⟨v,Γ',owC,rfl,hS⟩:=he
 have hle:Γ.Le w Γ' w':=hS.step.le
 have hTE:∀b,aN bsC (gz ρ Γ ow) b->E.T b\/E.w.heap.size<=b:=by
  intro b hb
  rcases hb with⟨i,hi⟩|hb
  ·obtain⟨j,_,hjb⟩:=hbc hi
   exact h.bn j b hjb
  ·cases hL:gz ρ Γ ow b with
   |none=>exact absurd hL hb
   |some L=>
    obtain⟨j,k,hk,_⟩:=hcow hL
    exact(h.on b _ hk).2
 have hkeep:∀b,b<w.heap.size->¬aN bsC (gz ρ Γ ow) b->w'.heap[b]? =w.heap[b]?/\Γ' b=Γ b:=λb hb hT=>hS.step.keep b hb hT
 have hnotT_own:∀{b L},ow b=some L->(Γ b).isSome->(∀j k,L=.box j k->j∉ρ)->¬aN bsC (gz ρ Γ ow) b:=by
  intro b L hL hg hne hT
  rcases hT with⟨i,hi⟩|hT
  ·obtain⟨j,hij,hjb⟩:=hbc hi
   obtain⟨B,_,hB,_⟩:=hH.box i j hij
   rw[(h.bx j b B hjb hB).1]at hg;cases hg
  ·cases hL':gz ρ Γ ow b with
   |none=>exact hT hL'
   |some L'=>
    obtain⟨j,k,hk,_,hj,_⟩:=hcow hL'
    rw[hL]at hk;cases hk
    exact hne j k rfl hj
 have hnotT_box:∀{j b:Nat},bs[j]? =some (some b)->j∉ρ->¬aN bsC (gz ρ Γ ow) b:=by
  intro j b hjb hj hT
  rcases hT with⟨i,hi⟩|hT
  ·obtain⟨j',hij,hjb'⟩:=hbc hi
   have:=h.inj _ _ _ hjb hjb'
   subst this
   exact hj (vaA hij)
  ·cases hL':gz ρ Γ ow b with
   |none=>exact hT hL'
   |some L'=>
    obtain⟨j',k,hk,hg,_⟩:=hcow hL'
    have hjl:j<st.boxes.length:=by rw[<-h.bl];exact aq hjb
    rw[(h.bx j b _ hjb (vab hjl)).1]at hg;cases hg
 have hold:∀{b L},ow b=some L->(Γ b).isSome->(∀j k,L=.box j k->j∉ρ)->wv ρ d owC ow b=some L:=by
  intro b L hL hg hne
  have hT:=hnotT_own hL hg hne
  have hnone:owC b=none:=by
   cases hx:owC b with
   |none=>rfl
   | some L' =>
    obtain⟨_,k2⟩:=hS.on b L' hx
    rcases k2 with k2|k2
    ·exact absurd k2 hT
    ·have:=(h.on b L hL).1
     exact absurd k2 (vcD.2 this)
  unfold wv
  rw[hnone]
  simp only[hL]
  cases L with
  |tmp t k=>rfl
  |box j k=>simp only;rw[van (hne j k rfl)]
 have howned:∀{v:Value} {e:TypeId} {b:Nat},fR P Γ w v e->v.ownBlock=some b->(Γ b).isSome:=by
  intro v e b ho hb
  obtain⟨n,xs,_,o2⟩:=ho
  rw[o2 b hb];rfl
 have hrv:VR Γ' bs w' r v:=hr.from hbb (hS.tm 0 rc v rfl rfl)
 refine⟨v,Γ',wv ρ d owC ow,rfl,?_,hle⟩
 exact{
  wi:=hS.wi
  sz:=by simp[h.sz]
  tm:=λt q u hq hu=>by
   simp only[vbc]at hq
   rw[vbt]at hu
   by_cases hdt:d=t
   ·subst hdt
    simp only[if_true]at hq hu
    split at hu
    ·split at hq
     ·cases hu;cases hq;exact hrv
     ·cases hq
    ·rename_i hnd;exact absurd hd hnd
   ·simp only[hdt,if_false]at hq hu
    exact(h.tm t q u hq hu).mono hle (.refl _)
  bl:=by simp[h.bl,hlen]
  bx:=λj b B hjb hB=>by
   by_cases hj:j∈ρ
   ·obtain⟨i,hij⟩:=vbi.1 hj
    obtain⟨B',Bc,hB',hBc,hx⟩:=hH'.box i j hij
    rw[hB]at hB';cases hB'
    obtain⟨k1,k2,k3⟩:=hS.bx i b Bc ((hbb i j hij).trans hjb) hBc
    exact⟨k1,k2,hx.from hbb k3⟩
   ·have hB0:st.boxes[j]? =some B:=(hsame j hj).symm.trans hB
    obtain⟨k1,k2,k3⟩:=h.bx j b B hjb hB0
    obtain⟨q1,q2⟩:=hkeep b k2 (hnotT_box hjb hj)
    exact⟨q2.trans k1,vaM k2 hS.step.size,k3.mono hle (.refl _) q1⟩
  inj:=h.inj
  bn:=h.bn
  on:=λb L hL=>by
   unfold wv at hL
   split at hL
   ·rename_i i k hb
    obtain⟨k1,k2⟩:=hS.on b _ hb
    exact⟨k1,k2.elim (hTE b) (λhx=>.inr (vaH h.step.size hx))⟩
   ·rename_i t k hb
    obtain⟨k1,k2⟩:=hS.on b _ hb
    exact⟨k1,k2.elim (hTE b) (λhx=>.inr (vaH h.step.size hx))⟩
   ·have hsz:=hS.step.size
    split at hL
    ·rename_i j k hb
     exact⟨vaM (h.on b _ hb).1 hsz,(h.on b _ hb).2⟩
    ·exact⟨vaM (h.on b _ hL).1 hsz,(h.on b _ hL).2⟩
  ot:=λt k e he=>by
   rcases vaw.1 he with he|he
   ·simp only[vag,Prod.mk.injEq]at he
    obtain⟨⟨k',e'⟩,hm,⟨rfl,rfl⟩,rfl⟩:=he
    obtain⟨u,v',h1,h2,h3,h4⟩:=hS.ot 0 k' e' (vag.2 ⟨(k',e'),hm,rfl⟩)
    simp at h1;subst h1
    refine⟨v,v',by simp[hd],h2,h3,λb hb=>?_⟩
    simp only[wv,h4 b hb]
   ·obtain⟨he,htd⟩:=cE he
    obtain⟨u,v',h1,h2,h3,h4⟩:=h.ot t k e he
    have hq:∀b,v'.ownBlock=some b->¬aN bsC (gz ρ Γ ow) b:=λb hb=>hnotT_own (h4 b hb) (howned h3 hb) (λj k hx=>by cases hx)
    exact⟨u,v',by rw[vaV (λe=>htd e.symm)];exact h1,h2,h3.same λb hb=>hkeep b (h3.lt hb) (hq b hb),λb hb=>hold (h4 b hb) (howned h3 hb) (λj k hx=>by cases hx)⟩
  ob:=λj k e cs own b hB hk hjb=>by
   by_cases hj:j∈ρ
   ·obtain⟨i,hij⟩:=vbi.1 hj
    obtain⟨B',Bc,hB',hBc,hx⟩:=hH'.box i j hij
    rw[hB]at hB';cases hB'
    cases Bc with
    |cells cs' own'=>
     obtain⟨rfl,_,_⟩:=hx
     obtain⟨v',k1,k2,k3⟩:=hS.ob i k e cs' own b hBc hk ((hbb i j hij).trans hjb)
     refine⟨v',k1,k2,λb' hb'=>?_⟩
     have hgd:ρ.getD i 0=j:=by rw[vaq,hij];rfl
     simp only[wv,k3 b' hb',hgd]
    |map es=>simp[gh]at hx
    |dead=>simp[gh]at hx
   ·have hB0:st.boxes[j]? =some (.cells cs own):=(hsame j hj).symm.trans hB
    obtain⟨v',k1,k2,k3⟩:=h.ob j k e cs own b hB0 hk hjb
    obtain⟨_,hlt,_⟩:=h.bx j b _ hjb hB0
    have hne:∀j' k',iL.box j k=.box j' k'->j'∉ρ:=λj' k' hx=>by cases hx;exact hj
    exact⟨v',(bZ (hkeep b hlt (hnotT_box hjb hj)).1 k).trans k1,k2.same λb' hb'=>hkeep b' (k2.lt hb') (hnotT_own (k3 b' hb') (howned k2 hb') hne),λb' hb'=>hold (k3 b' hb') (howned k2 hb') hne⟩
  gl:=λg cs hg=>(h.gl g cs hg).mono hle (.refl _)
  gc:=h.gc
  gx:=h.gx
  step:={
   os:=hS.step.os.trans h.step.os
   tape:=hS.step.tape.trans h.step.tape
   output:=hS.step.output.trans h.step.output
   size:=vaH h.step.size hS.step.size
   drawn:=vaH h.step.drawn hS.step.drawn
   keep:=λb hb hT=>by
    have hlt:b<w.heap.size:=vaM hb h.step.size
    have hnT:¬aN bsC (gz ρ Γ ow) b:=λhx=>(hTE b hx).elim hT (λhx=>absurd hx (vcD.2 hb))
    obtain⟨k1,k2⟩:=h.step.keep b hb hT
    obtain⟨q1,q2⟩:=hkeep b hlt hnT
    exact⟨q1.trans k1,q2.trans k2⟩
   le:=h.step.le.trans hle}}
end
end Go.Proofs.YtkdahfeiedaahaaGreatDoor
