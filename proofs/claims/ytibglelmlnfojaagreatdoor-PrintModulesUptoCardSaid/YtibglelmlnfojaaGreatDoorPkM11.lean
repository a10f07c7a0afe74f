/- PROVED: a part of the proof. Conditions: none. -/
import Derived.Test.YtibglelmlnfojaaGreatDoorPkM10
import Derived.Shelf.Strings.OnBuilder
set_option linter.unusedSimpArgs false set_option linter.defProp false
set_option linter.unusedVariables false
noncomputable section
namespace Go.Proofs.YtibglelmlnfojaaGreatDoor
open Go Go.Shelf Go.RowKit Go.Proofs.Tryz
open Option renaming some→O,none→N
open Go renaming TypeId→G,Value→D,Program→I,Oper→M,World→J,Code→W
open Bool renaming true→T,false→Z
open Decidable renaming decide→Y
open Go.Proofs.YtibglelmlnfojaaGreatDoor renaming PVal→U
set_option linter.unusedVariables false
section
variable{P:I}{ρ:Ren}
set_option maxHeartbeats 1000000 in
set_option maxRecDepth 100000 in
def qlN(L:Lays.n240 P ρ)(b:Nat)(w:J)(a0:G)(n:Nat)(j:TypeInfo)(i:P.info? (ρ.t 72)=O j)(d:j.size≠0)(x:0<n)(a:liesAt P P.depth a0 (n / P.cellsOf a0) 0 (ρ.t 72) 1=T)
  (h0:w.cell? ⟨b,0,N⟩=O (.pointer N)) (c:w.shape? b=O (a0,n)) (t:w.frozen? ⟨b,0,N⟩=Z):
  Calls P (ρ.f 240) #[.pointer (O ⟨b,0,N⟩)] w λe H=>e=.returned (.tuple #[])/\H=w.setCell ⟨b,0,N⟩ (.pointer (O ⟨b,0,N⟩)):=by
 have mixed:=L.mixed
 have z:=L.t72;have s:=L.a72;have S:=L.z72;have F:=L.v72;have B:=run_underlying L.t72
 have y:=L.t70;have r:=L.a70;have R:=L.z70;have E:=L.v70;have A:=run_underlying L.t70
 have t9:=L.t9;have a9:=L.a9;have z9:=L.z9;have v9:=L.v9;have u9:=run_underlying L.t9
 have t4:=L.t4;have X:=L.a4;have z4:=L.z4;have v4:=L.v4;have u4:=run_underlying L.t4
 have m:=L.t164;have h:=L.a164;have q:=L.z164;have p:=L.v164;have o:=run_underlying L.t164
 go_enter L.f240,Body.n240_ntmps ρ
 go_wp2
 rw[Lib.run_to_unsafe w ⟨b,0,N⟩ L.t70 L.t164 i d c x]
 simp only[Result.andThen]
 rw[Oper.upon_value]
 go_wp2
 rw[run_callFunc_extern L.f276 (by kernel_rfl) (by kernel_rfl) (by kernel_rfl) (e:=Extern.AbiNoEscape.same) (by kernel_rfl)]
 rw[Lib.run_noEscape]
 simp only[Result.andThen]
 rw[Oper.upon_value]
 go_wp2
 rw[Lib.run_from_unsafe w ⟨b,0,N⟩ L.t164 L.t70 i c a]
 simp only[Result.andThen]
 rw[Oper.upon_value]
 go_wp2
 go_end0
 exact⟨rfl,rfl⟩
structure Sl(g:Nat)(w w':World):Prop where
 os:w'.os=w.os
 tape:w'.tape=w.tape
 output:w'.output=w.output
 size:w.heap.size<=w'.heap.size
 keep:∀b,b<w.heap.size->b≠g->w'.heap[b]? =w.heap[b]?
 here:∀c t fr,w.heap[g]? =some (.cells c t fr)->∃fr',w'.heap[g]? =some (.cells c t fr')
def Sl.drew(g:Nat)(w:J):Sl g w w.drew:=⟨rfl,rfl,rfl,m7 _,λ_ _ _=>rfl,λc t fr h=>⟨fr,h⟩⟩
def Sl.alloc(g:Nat)(w:J)(o:Obj):Sl g w (w.drew.alloc o):=⟨rfl,rfl,rfl,by show w.heap.size<=(w.heap.push o).size;simp,λb d _=>Lib.alloc_old w.drew o b d,λc t fr h=>by
 have a:g<w.heap.size:=(vao.1 h).1;exact⟨fr,(Lib.alloc_old w.drew o g a).trans h⟩⟩
def Sl.freeze(g:Nat)(w:J)(n:Nat):Sl g w (w.drew.freeze ⟨g,0,N⟩ n):=by
 unfold World.freeze;split;.exact .drew g w
 .refine⟨rfl,rfl,rfl,by show w.heap.size<=(w.heap.modify g _).size;simp,λb _ d=>?_,λc t fr h=>?_⟩;.show(w.heap.modify g _)[b]? =_;rw[vbA,hG (Ne.symm d)]
  .show ∃a,(w.heap.modify g _)[g]? =_;rw[vbA,hU rfl,h];exact⟨_,rfl⟩
set_option maxHeartbeats 1000000 in
set_option maxRecDepth 100000 in
def qnD(L:Lays.n169 P ρ)(X:Builder.Extra P ρ)(b g a:Nat)(l:V UInt8)(c:Array D)(w:J)(m:l≠[])(n:l.length<=a)(d:a<=maxLen)(z:w.cell? ⟨b,1,N⟩=O (.slice (O ⟨g,0,N⟩) l.length a))
  (H:w.heap[g]? =O (.cells c (ρ.t 5) (0,0))) (F:c.size=a) (E:∀(j:Nat)(x:UInt8),l[j]? =O x->w.cell? ⟨g,j,N⟩=O (.int .u8 x.toNat)):
  Calls P (ρ.f 169) #[.pointer (O ⟨b,0,N⟩)] w λe w'=>e=.returned (.string ⟨l.toArray⟩)/\Sl g w w':=by
 have R:l.length≠0:=by simpa using m
 have c1:w.drew.cell? ⟨b,1,N⟩=O (.slice (O ⟨g,0,N⟩) l.length a):=z
 have A:(Builtin.unsafeSliceData_ #[(ρ.t 37)] (ρ.t 127) #[.slice (O ⟨g,0,N⟩) l.length a]).run P w.drew=.ok (.pointer (O ⟨g,0,N⟩)) w.drew:=
  Lib.run_unsafeSliceData_row _ _ _ _ _ _ (by omega)
 have B:(Builtin.unsafeString_ #[(ρ.t 127),(ρ.t 3)] (ρ.t 9) #[.pointer (O ⟨g,0,N⟩),.int .i64 l.length]).run P w.drew=.ok (.string ⟨l.toArray⟩) (w.drew.freeze ⟨g,0,N⟩ l.length):=by refine Lib.run_unsafeString_row w.drew (ρ.t 127) (ρ.t 3) (ρ.t 9) (ρ.t 5) L.t127 X.cellsByte g c.size (by have h:w.drew.heap[g]? =O (.cells c (ρ.t 5) (0,0)):=H;simp[World.shape?,h]) l m (by omega) (by unfold maxLen at d;omega) ?_;intro j x S;have:=E j x S;rw[Lib.add_plain];rw[ve];exact this
 have mixed:=L.mixed
 have a2:=L.t72;have y:=L.a72;have ar:=L.z72;have ad:=L.v72;have a7:=run_underlying L.t72
 have a1:=L.t70;have t:=L.a70;have ao:=L.z70;have ab:=L.v70;have a6:=run_underlying L.t70
 have a0:=L.t37;have s:=L.a37;have an:=L.z37;have a8:=L.v37;have a4:=run_underlying L.t37
 have o:=L.t127;have i:=L.a127;have r:=L.z127;have q:=L.v127;have p:=run_underlying L.t127
 have t3:=L.t3;have a3:=L.a3;have z3:=L.z3;have v3:=L.v3;have u3:=run_underlying L.t3
 have t9:=L.t9;have a9:=L.a9;have z9:=L.z9;have v9:=L.v9;have u9:=run_underlying L.t9
 have t5:=X.t5;have a5:=X.a5;have z5:=X.z5;have v5:=X.v5;have u5:=run_underlying X.t5
 go_enter L.f169,Body.n169_ntmps ρ
 go_wp2
 go_region_o
 all_goals (go_wp2;go_ret;exact⟨rfl,.freeze g w _⟩)
set_option maxHeartbeats 2000000 in
set_option maxRecDepth 100000 in
def qba(L:Lays.n169 P ρ)(X:Builder.Extra P ρ)(b g:Nat)(v q:D)(w ab:J)(B:∃c a,v=.slice c 0 a)(A:∃h,q=.pointer h)(t:w.cell? ⟨b,1,N⟩=O v)(h2:ab.cell? ⟨b,1,N⟩=O v)(x:Sl g w ab)
  (y:(Builtin.unsafeSliceData_ #[(ρ.t 37)] (ρ.t 127) #[v]).run P w.drew=.ok q ab):
  Calls P (ρ.f 169) #[.pointer (O ⟨b,0,N⟩)] w λe w'=>e=.returned (.string ⟨#[]⟩)/\Sl g w w':=by
 obtain⟨c,a,rfl⟩:=B
 obtain⟨h,rfl⟩:=A
 have z:=Any.unsafeString_none L X
 have c1:w.drew.cell? ⟨b,1,N⟩=O (.slice c 0 a):=t
 have mixed:=L.mixed
 have H:=L.t72;have s:=L.a72;have a8:=L.z72;have a4:=L.v72;have a0:=run_underlying L.t72
 have F:=L.t70;have r:=L.a70;have a7:=L.z70;have a2:=L.v70;have S:=run_underlying L.t70
 have E:=L.t37;have p:=L.a37;have a6:=L.z37;have a1:=L.v37;have R:=run_underlying L.t37
 have i:=L.t127;have d:=L.a127;have o:=L.z127;have n:=L.v127;have m:=run_underlying L.t127
 have t3:=L.t3;have a3:=L.a3;have z3:=L.z3;have v3:=L.v3;have u3:=run_underlying L.t3
 have t9:=L.t9;have a9:=L.a9;have z9:=L.z9;have v9:=L.v9;have u9:=run_underlying L.t9
 have t5:=X.t5;have a5:=X.a5;have z5:=X.z5;have v5:=X.v5;have u5:=run_underlying X.t5
 go_enter L.f169,Body.n169_ntmps ρ
 go_wp2
 go_region_o
 all_goals (go_wp2;go_ret;exact⟨rfl,x⟩)
end
def qoo:Lays.n240 Pg Tryz.lays156_ren:={Tryz.lays156 with}
abbrev tB:G:=76
abbrev tC:G:=5
def Th(a:V Int)(b:K):Q Unit:=O ()
def QW(a:V Int)(b:K):Q ae:=j6 a
abbrev bx(l:V Int)(x:K)(own:V (Nat×G)):aJ:=.cells [.nptr 0 tB,sl (cI .u8) l,.bool x] own
def qsa{E:BP}{Γ:ca}{e:cF}{X:Nat->Q rI}{w:J}{m:Array D}{l:List Int}{x:K}(h:SR Pg E Γ e X w m ⟨[.bptr 0 0],[bx l x [(1,tC)]],[]⟩):∃b c v,m=#[.pointer (O ⟨b,0,N⟩)]/\e=[O b]/\Γ b=N/\b<w.heap.size/\w.heap[b]? =O (.cells c tB (0,0))/\c.size=3/\
   (c[0]? =O (.pointer N)\/c[0]? =O (.pointer (O ⟨b,0,N⟩)))/\c[1]? =O v/\VR Γ e w (sl (cI .u8) l) v/\kZ Pg Γ w v tC/\∀L,v.ownBlock=O L->X L=O (.box 0 1):=by
 have n:m.size=1:=h.sz
 have o:=h.tm 0 _ m[0] rfl (by simp[n])
 generalize hu:m[0]=u at o
 have H:m=#[u]:=by
  refine Array.ext (by simp[n]) λi hi B=>?_;have:i=0:=by simp at B;omega
  subst this;simpa using hu
 cases o with
 | bptr _ _ b hb =>
  have s:e.length=1:=h.bl
  have A:e=[O b]:=by match e,s,hb with|[y],_,hb=>simp at hb;rw[hb]
  let⟨hg,F,c,t,P,R,a,d⟩:=h.bx 0 b _ hb rfl
  obtain⟨rfl,r⟩:=d 0 0 tB rfl
  have r:c.size=3:=r
  let⟨v,S,k2,k3⟩:=h.ob 0 1 tC _ _ b rfl (by simp) hb
  have p:c[1]? =O v:=by rw[cell_of_row w b 1 c _ _ P]at S;exact S
  have q:c[0]? =O c[0]:=by simp[r]
  have v0:=a 0 _ c[0] rfl q
  generalize c[0]=z at v0 q
  refine⟨b,c,v,H,A,hg,F,P,r,?_,p,a 1 _ v rfl p,k2,k3⟩
  cases v0 with
  |nptrN _ _=>exact .inl q
  |nptr _ b2 _ hb2=>
   rw[hb]at hb2
   cases hb2
   exact .inr q
def qwe:liesAt Pg Pg.depth tB (3 / Pg.cellsOf tB) 0 (Tryz.lays156_ren.t 72) 1=true:=by kernel_rfl
def qdn{S:List Int}{X:K}{r:Unit}(h:Th S X=O r):C Pg GE 124 [.bptr 0 0] [] [bx S X [(1,tC)]] (.tuple []) [] [bx S X [(1,tC)]]:=by
 refine⟨call124,λΓ bs H w vs P=>?_⟩;obtain⟨b,c,v,rfl,rfl,hg,a7,R,hn,h0,h1,hv,ho,a4⟩:=qsa P;have fin:∀{w'},SR Pg ⟨GE,Γ,w,cG [O b] H⟩ Γ [O b] H w' #[.pointer (O ⟨b,0,N⟩)] ⟨[.bptr 0 0],[bx S X [(1,tC)]],[]⟩->SR Pg ⟨GE,Γ,w,cG [O b] H⟩ Γ [O b] H w' #[.tuple #[]] ⟨[.tuple []],[bx S X [(1,tC)]],[]⟩:=λh=>{h with
  sz:=rfl
  tm:=λt p v E hv=>by cases t with|zero=>simp at E hv;subst E;subst hv;exact .tuple [] #[] rfl (λi p v E _=>by simp at E)|succ t=>simp at E
  ot:=λt k e he=>by simp at he}
 have x:∀j,w.cell? ⟨b,j,N⟩=c[j]?:=λj=>cell_of_row w b j c _ _ R;rcases h0 with h0|h0
 .let⟨jj,A,a2⟩:=vaF.1 (show(Pg.info? (Tryz.lays156_ren.t 72)).map (·.size)=O 2 by kernel_rfl);refine(qlN qoo b w tB 3 jj A (by rw[a2];decide) (by omega) qwe ((x 0).trans h0) (by simp[World.shape?,R,hn]) (by simp[World.frozen?,R])).mono λe w' he=>?_;obtain⟨rfl,rfl⟩:=he;have y:(w.setCell ⟨b,0,N⟩ (.pointer (O ⟨b,0,N⟩))).heap[b]? =O (.cells (c.setIfInBounds 0 (.pointer (O ⟨b,0,N⟩))) tB (0,0)):=by show(w.heap.modify b _)[b]? =_;rw[vbA,hU rfl,R];rfl
  have a:∀d,d≠b->(w.setCell ⟨b,0,N⟩ (.pointer (O ⟨b,0,N⟩))).heap[d]? =w.heap[d]?:=λd q=>by show(w.heap.modify b _)[d]? =_;rw[vbA,hG (Ne.symm q)]
  have a0:∀{d n},Γ d=O n->d≠b:=λhb e=>by subst e;rw[hg]at hb;cases hb
  have a3:Γ.Le w Γ (w.setCell ⟨b,0,N⟩ (.pointer (O ⟨b,0,N⟩))):=λd m q _=>⟨m,q,m7 _,λo _=>dQ (a d (a0 q)) o⟩
  refine⟨_,Γ,H,rfl,fin ?_⟩;have hW:=P.box_write (i:=0) (b:=b) rfl (w':=w.setCell ⟨b,0,N⟩ (.pointer (O ⟨b,0,N⟩))) (B:=bx S X [(1,tC)]) (ow':=H) rfl rfl rfl (by simp[World.setCell]) a ?_ (λd L hL _=>hL) P.on ?_;.exact hW
  .refine⟨_,tB,y,by simp[hn],λj p u E hu=>?_,λj i a8 A=>?_⟩
   .rw[vbu]at hu;by_cases A:0=j;.subst A;rw[hU rfl,hU (by omega)]at hu;cases hu;cases E;exact .nptr 0 b tB rfl
    .rw[hG A]at hu;let⟨_,_,c',t',s,_,z,_⟩:=P.bx 0 b _ rfl rfl;rw[R]at s;cases s;exact(z j p u E hu).mono a3 (.refl _)
   .rw[Array.size_setIfInBounds];let⟨_,_,c',t',s,_,_,F⟩:=P.bx 0 b _ rfl rfl;rw[R]at s;cases s;exact F j i a8 A
  .intro a6 a5 a1 j e A;cases a1;simp only[vbS,Prod.mk.injEq]at A;obtain⟨rfl,rfl⟩:=A;refine⟨v,?_,ho.same λd q=>⟨a d ?_,rfl⟩,a4⟩;.rw[cell_of_row _ b 1 _ _ _ y,vbu,hG (by omega)];exact h1
   .let⟨n,xs,o1,o2⟩:=ho;exact a0 (o2 d q)
 .refine(Any.Builder_copyCheck_used qoo {sizeBuilder:=by kernel_rfl,liesBuilder:=by kernel_rfl} b w ((x 0).trans h0)).mono λe w' he=>?_;obtain⟨rfl,rfl⟩:=he;exact⟨_,Γ,H,rfl,fin P⟩
def qf2:Builder.Extra Pg Tryz.lays169_ren:={sizeBuilder:=by kernel_rfl,liesBuilder:=by kernel_rfl,t5:=by kernel_rfl,a5:=λw=>by kernel_rfl,z5:=λw=>by kernel_rfl,v5:=λw=>by kernel_rfl,infoByte:=by kernel_rfl,cellsByte:=by kernel_rfl,sizeByte:=by kernel_rfl,neB5:=by decide}
def qd7:∀{l:List Int}{r:ae},j6 l=O r->r.length=l.length/\∀(j:Nat)(x:UInt8),r[j]? =O x->l[j]? =O (x.toNat:Int)
 |[],r,h=>by cases h;exact⟨rfl,λj x a=>by simp at a⟩
 | n :: l,r,h => by
  simp only[j6]at h;split at h
  .rename_i e;cases b:j6 l with
   |none=>rw[b]at h;cases h
   | some q =>rw[b]at h;cases h;let⟨c,d⟩:=qd7 b;refine⟨by simp[c],λj x a=>?_⟩;cases j with|zero=>simp at a ⊢;subst a;rw[vc3];omega|succ j=>exact d j x (by simpa using a)
  .cases h
def QX{Γ:ca}{b g:Nat}{H:Nat->Q rI}{w w':J}{l:List Int}{x:K}{own:List (Nat×G)}{r:ae}(h:SR Pg ⟨GE,Γ,w,cG [O b] H⟩ Γ [O b] H w #[.pointer (O ⟨b,0,N⟩)] ⟨[.bptr 0 0],[bx l x own],[]⟩)(A:Sl g w w')(X:g≠b)(s:H g≠N\/w.heap.size<=g):SR Pg ⟨GE,Γ,w,cG [O b] H⟩ Γ [O b] (λ_=>N) w' #[.string ⟨r.toArray⟩] ⟨[.str r],[bx l x []],[]⟩:=by
 have hD:SR Pg ⟨GE,Γ,w,cG [O b] H⟩ Γ [O b] (λ_=>N) w #[.pointer (O ⟨b,0,N⟩)] ⟨[.bptr 0 0],[bx l x []],[]⟩:={h with
  bx:=λi a B d z=>by cases i with|zero=>simp at z;subst z;exact h.bx 0 a (bx l x own) d rfl|succ i=>simp at z
  on:=λb L R=>by cases R
  ot:=λt k e S=>by simp at S
  ob:=λi j e cs a0 a z hj d=>by
   cases i with
   |zero=>simp at z;obtain⟨_,rfl⟩:=z;cases hj
   |succ i=>simp at z}
 have q:∀a n,Γ a=O n->∃c t fr m,w.heap[a]? =O (.cells c t fr)/\w'.heap[a]? =O (.cells c t m)/\n<=c.size:=λa n d=>by
  let⟨c,t,fr,y,E⟩:=h.wi a n d;by_cases e:a=g;.subst e;let⟨m,P⟩:=A.here c t fr y;exact⟨c,t,fr,m,y,P,E⟩
  .exact⟨c,t,fr,fr,y,(A.keep a (vao.1 y).1 e).trans y,E⟩
 have hW:=hD.world (Γ':=Γ) (w':=w') (λa=>a=g) (λa n d _=>⟨n,d,m7 _,λo _=>by
   let⟨c,t,fr,m,y,E,_⟩:=q a n d;simp[World.cell?,y,E]⟩) (λa n d=>by
   let⟨c,t,fr,m,y,E,P⟩:=q a n d;exact⟨c,t,m,E,P⟩) A.os A.tape A.output A.size (λa d F=>⟨A.keep a d F,rfl⟩) (λa F=>by
   subst F;rcases s with s|s;.exact .inl (.inr s)
   .exact .inr s) (λi a d F=>by
   cases i with
   |zero=>simp at d;exact X (by rw[<-F,d])
   |succ i=>simp at d) (λa L R=>by cases R)
 exact{hW with
  sz:=rfl
  tm:=λt p v hp hv=>by cases t with|zero=>simp at hp hv;subst hp;subst hv;exact .str r|succ t=>simp at hp
  ot:=λt k e S=>by simp at S}
def UM{p:List Int}{x1:K}{r:ae}(h:QW p x1=O r):C Pg GE 54 [.bptr 0 0] [] [bx p x1 [(1,tC)]] (.str r) [] [bx p x1 []]:=by
  refine⟨call54,λΓ bs ow w vs B=>?_⟩;obtain⟨b,c,v,rfl,rfl,hg,a0,hc,hn,h0,q,R,ho,a3⟩:=qsa B;have d:∀j,w.cell? ⟨b,j,N⟩=c[j]?:=λj=>cell_of_row w b j c _ _ hc;let⟨o,F⟩:=qd7 (show j6 p=O r from h);have e1:Pg.cellsOf tC=1:=by kernel_rfl
  let⟨n,xs,⟨a2,L⟩,P⟩:=ho;rw[e1]at a2 L P;unfold sl at R;generalize m:p.map (cI .u8)=es at R;rcases L with⟨rfl,rfl⟩|⟨g,cap,cur,rfl,_,hgh,hnc,hcm,hcs,htk⟩
  . have hx:p = []:=by
      cases R with
      |sliceNil=>simpa using m
    subst hx
    have hr:r=[]:=vaw (by simpa using o)
    subst hr
    refine(qba Tryz.lays169 qf2 b w.heap.size (.slice N 0 0) (.pointer N) w w.drew ⟨_,_,rfl⟩ ⟨_,rfl⟩ ((d 1).trans q) ((d 1).trans q) (.drew _ w) rfl).mono λe w' i=>?_
    obtain⟨rfl,s⟩:=i
    exact⟨_,Γ,λ_=>N,rfl,QX (r:=[]) B s (by omega) (.inr (m7 _))⟩
  . have t:g ≠ b:=fun e => by
      have:=P g rfl
      rw[e,hg]at this
      cases this
    have y:ow g≠N:=by rw[a3 g rfl];simp
    have H:p.length=n:=by
      cases R with
      | sliceE a cap => have:p = []:=by simpa using m
                        simp[this]
      |slice _ _ _ _ _ _ _ _ _ _ _ _ _ _=>rw[<-m];simp
    by_cases hz:r=[]
    . subst hz
      have a1:n=0:=by rw[<-H,<-o];rfl
      subst a1
      by_cases E:cap=0
      . subst E
        refine(qba Tryz.lays169 qf2 b g (.slice (O ⟨g,0,N⟩) 0 0) (.pointer (O ⟨w.drew.heap.size,0,N⟩)) w (w.drew.alloc (.view ⟨g,0,N⟩ tC)) ⟨_,_,rfl⟩ ⟨_,rfl⟩ ((d 1).trans q) ?_ (.alloc g w _) ?_).mono λe w' i=>?_
        . rw [dQ (Lib.alloc_old w.drew _ b a0) 1]
          exact(d 1).trans q
        .exact Lib.run_unsafeSliceData_zero w.drew _ _ tC (Tryz.lays169).t127 ⟨g,0,N⟩ 0 (tC,cur.size) (by have X:w.drew.heap[g]? =O (.cells cur tC (0,0)):=hgh;simp[World.shape?,X])
        . obtain ⟨rfl,s⟩:=i
          exact⟨_,Γ,λ_=>N,rfl,QX (r:=[]) B s t (.inl y)⟩
      . refine (qba Tryz.lays169 qf2 b g (.slice (O ⟨g,0,N⟩) 0 cap) (.pointer (O ⟨g,0,N⟩)) w w.drew ⟨_,_,rfl⟩ ⟨_,rfl⟩ ((d 1).trans q) ((d 1).trans q) (.drew g w) (Lib.run_unsafeSliceData_row _ _ _ _ _ _ E)).mono fun e w' i => ?_
        obtain⟨rfl,s⟩:=i
        exact⟨_,Γ,λ_=>N,rfl,QX (r:=[]) B s t (.inl y)⟩
    . have a4:r.length = n:=o.trans H
      have S:∀(j:Nat)(x:UInt8),r[j]? =O x->w.cell? ⟨g,j,N⟩=O (.int .u8 x.toNat):=λj x hx=>by
        have A:=F j x hx;cases R with
        | sliceE a cap =>
          have:p=[]:=by simpa using m
          rw[this]at A;cases A
        | slice _ _ _ _ n' sz vals q0 q1 q2 q3 q4 q5 q6 =>
          have i:es[j]? =O [.int .u8 (x.toNat:Int)]:=by rw[<-m,t8,A];rfl
          have a5:sz=1:=(q4 j _ i).symm;subst a5;have k1:=q5 j _ 0 _ i rfl;have k2:=q6 j _ 0 _ i rfl;rw[show(0:Nat)+j * 1+0=j by omega]at k1;rw[k1];generalize vals j 0=z at k2;cases k2;rfl
      subst a4
      refine(qnD Tryz.lays169 qf2 b g cap r cur w hz hnc hcm ((d 1).trans q) hgh (by omega) S).mono λe w' i=>?_
      obtain⟨rfl,s⟩:=i
      exact⟨_,Γ,λ_=>N,rfl,QX B s t (.inl y)⟩
def qel(l:V ae)(s:ae):Q ae:=if l.length<=1073741824/\(Lib.join l s).length<=1073741824 then O (Lib.join l s)else N
def qf3:Builder.Extra Pg Tryz.lays156_ren:={sizeBuilder:=by kernel_rfl,liesBuilder:=by kernel_rfl,t5:=by kernel_rfl,a5:=λw=>by kernel_rfl,z5:=λw=>by kernel_rfl,v5:=λw=>by kernel_rfl,infoByte:=by kernel_rfl,cellsByte:=by kernel_rfl,sizeByte:=by kernel_rfl,neB5:=by decide}
def qlE.of_below{w w':J}(h:Below w.heap.size w w'):qlE w w':=⟨h.os,h.tape,h.output,h.size,m7 _,λb a=>h.block b a⟩
def qh8{l:List ae}{s r:ae}(h:qel l s=O r):CC Pg GE 187 [sl cS l,.str s] (.str r) []:=by
 unfold qel at h;split at h;case isFalse=>cases h
 rename_i hl;cases h;refine⟨aI (dn qi4 l)<|aI md md,call187,λΓ bs ow w P A=>?_⟩;have L:P.size=2:=A.sz;have S:=A.tm 0 _ P[0] rfl (by simp[L]);have X:=A.tm 1 _ P[1] rfl (by simp[L]);generalize hu:P[0]=u at S;generalize a3:P[1]=u1 at X;have a4:P=#[u,u1]:=by
  refine Array.ext (by simp[L]) λi hi a2=>?_;have:i=0\/i=1:=by simp at a2;omega
  rcases this with rfl|rfl;.simpa using hu
  .simpa using a3
 subst a4;cases X;have hJ:Calls Pg 187 #[u,.string ⟨s.toArray⟩] w λe w'=>e=.returned (.string ⟨(Lib.join l s).toArray⟩)/\qlE w w':=by
  unfold sl at S;generalize q:l.map cS=es at S;cases S with
  |sliceNil=>
   have:l=[]:=by simpa using q
   subst this;exact(Any.strings_Join_none Tryz.lays156 qf3 N 0 _ w).mono λe w' d=>⟨d.1,d.2▸.of_below (Below.refl _ _)⟩
  |sliceE a cap=>
   have:l=[]:=by simpa using q
   subst this;exact(Any.strings_Join_none Tryz.lays156 qf3 (O a) cap _ w).mono λe w' d=>⟨d.1,d.2▸.of_below (Below.refl _ _)⟩
  | slice _ b off cap n sz vals q0 q1 q2 q3 q4 q5 q6 =>
   have hm:(l.map λs:ae=>(⟨s.toArray⟩:ByteArray)).map (·.data.toList)=l:=by rw[vb2];simp[Function.comp_def]
   have E:es.length=(l.map λs:ae=>(⟨s.toArray⟩:ByteArray)).length:=by rw[<-q];simp
   have a0:l≠[]->b<w.heap.size:=λ_=>by let⟨c,t,fr,k1,_⟩:=A.wi b n q2;exact(vao.1 k1).1
   by_cases R:l=[]
   .subst R;simp at q;subst q;exact(Any.strings_Join_none Tryz.lays156 qf3 _ cap _ w).mono λe w' d=>⟨d.1,d.2▸.of_below (Below.refl _ _)⟩
   have hJ:=Any.strings_Join Tryz.lays156 qf3 b off cap (l.map λs:ae=>(⟨s.toArray⟩:ByteArray)) ⟨s.toArray⟩ w (λj x F=>?_) (a0 R) (by simp;omega) (by rw[<-E];exact q1) (by rw[hm];simp only[];omega);.rw[hm]at hJ;rw[E];exact hJ.mono λe w' d=>⟨d.1,.of_below d.2⟩
   .rw[t8]at F;obtain⟨y,hy,rfl⟩:=vaF.1 F;have d:es[j]? =O [.str y]:=by rw[<-q,t8,hy];rfl
    have hz:sz=1:=(q4 j _ d).symm;subst hz;have k1:=q5 j _ 0 _ d rfl;have k2:=q6 j _ 0 _ d rfl;rw[show off+j * 1+0=off+j by omega]at k1;rw[k1];generalize vals j 0=z at k2;cases k2;rfl
 refine hJ.mono λe w' d=>?_;obtain⟨rfl,B⟩:=d;have a1:bs.length=0:=A.bl;obtain rfl:bs=[]:=vaw a1
 have hW:=A.world (Γ':=Γ) (w':=w') (λ_=>False) (λb m H _=>⟨m,H,m7 _,λo _=>dQ (B.keep b (A.lt_of_ghost H)) o⟩)
  (λb m H=>by
   let⟨c,t,fr,X,h2⟩:=A.wi b m H;exact⟨c,t,fr,(B.keep b (A.lt_of_ghost H)).trans X,h2⟩) B.os B.tape B.output B.size (λb H _=>⟨B.keep b H,rfl⟩) (λ_ F=>F.elim) (λ_ _ _ F=>F) (λ_ _ _ F=>F) B.drawn
 refine⟨_,Γ,ow,rfl,{hW with
  sz:=rfl
  tm:=λt p v hp hv=>by cases t with|zero=>simp at hp hv;subst hp;subst hv;exact .str _|succ t=>simp at hp
  ot:=λt k e d=>by simp at d}⟩
open Go Go.Proofs.Tryz
set_option linter.defProp false
set_option maxRecDepth 100000
abbrev iX:=(am->am->Q K)
abbrev pI(R:iX):Prop:=∀(a b:am),OV 131 [.agg (al a),.agg (al b)] (R a b) (λr=>.bool r) []
noncomputable def qs9:W:=f136.body.getD .skip
def quU:ZF Pg [15] 136 f136 qs9:=zf call136 func136 rfl mixed
section
variable(c d:waA)(b a:Int)
def xW:aF:=aM 26 [(0,sl cS c),(1,sl cS d),(12,.i6 b),(13,.i6 a)] [] []
def Ie(o:Unit⊕(Unit)):Exit:=match o with|(.inl _)=>.ret|(.inr _)=>.exit 0
def If(o:Unit⊕(Unit)):aF:=match o with|(.inl o)=>aM 26 [(4,.bool Z)] [] []|(.inr o)=>aM 26 [] [] []
def jf:Q (Int⊕(Unit⊕(Unit))):=if Y (a<b)then (bY c a).bind λe=>(bY d a).bind λh=>if(!(e==h))then O (.inr (.inl ())) else O (.inl (cz (a+1))) else O (.inr (.inr ()))
def CA:Q (Unit⊕(Unit)):=loop (λ(e:Int)=>jf c d b e) a
def R9:OL 0 (cA qs9 119) (jf c d b a) (λ(n:Int)=>xW c d b n) Ie If (xW c d b a):=quU.l<|tF (tb λi e=>tb λm h=>qc1 [0,0,3,7,0,0,48,112,255]<|tv (dX.ia e)<|tv (dz ZC (.str i) [])<|tv (dX.ia h)<|tv (dz ZC (.str m) [])<|tF tE<|tE)<|tE
def Gg:OK 0 (.loop (cA qs9 119)) (CA c d b a) Ie If (xW c d b a):=Bz λ_=>R9 _ _ _ _
end
def xT(b c:waA):Q K:=if((b.length:Int)!=(c.length:Int))then O Z else (CA b c (b.length:Int) 0).bind λa=>match a with|(.inl a)=>O Z|(.inr a)=>O T
def NE{a c:waA}:OV 136 [sl cS a,sl cS c] (xT a c) (λr=>.bool r) []:=quU.v<|bz (dX.ln a)<|bz (dX.ln c)<|tF tE<|bz (dX.ln a)<|t2 (λd b=>bJ (Gg a c (a.length:Int) 0 _ b)<|tE) λd b=>bJ (Gg a c (a.length:Int) 0 _ b)<|tE
abbrev vU:=(ah->ah->Q K)
abbrev G4(R:vU):Prop:=∀(a b:ah),OV 128 [.agg (ag a),.agg (ag b)] (R a b) (λr=>.bool r) []
noncomputable def qth:W:=f191.body.getD .skip
def qva:ZF Pg [17] 191 f191 qth:=zf call191 func191 rfl mixed
section
variable(d:vU)(v c:pi)(b a:Int)
def Ch:aF:=aM 30 [(0,sl ag v),(1,sl ag c),(2,.func (.func 128) [] []),(14,.i6 b),(15,.i6 a)] [] []
def NA(o:Unit⊕(Unit)):Exit:=match o with|(.inl _)=>.ret|(.inr _)=>.exit 0
def NB(o:Unit⊕(Unit)):aF:=match o with|(.inl o)=>aM 30 [(6,.bool Z)] [] []|(.inr o)=>aM 30 [] [] []
def oI:Q (Int⊕(Unit⊕(Unit))):=if Y (a<b)then (bY v a).bind λh=>(bY c a).bind λi=>(d h i).bind λe=>if(!e)then O (.inr (.inl ())) else O (.inl (cz (a+1))) else O (.inr (.inr ()))
def IZ:Q (Unit⊕(Unit)):=loop (λ(e:Int)=>oI d v c b e) a
def VH(m:G4 d):OL 0 (cA qth 119) (oI d v c b a) (λ(p:Int)=>Ch v c b p) NA NB (Ch v c b a):=qva.l<|tF (tb λn h=>tb λo i=>tb λq e=>qc1 [0,0,0,6,14,0,0,96,224,511,1023]<|tv (dN.ia h)<|tv (bA n)<|tv (dN.ia i)<|tv (bA o)<|bQ (m _ _ _ e)<|tF tE<|tE)<|tE
def Kc(e:G4 d):OK 0 (.loop (cA qth 119)) (IZ d v c b a) NA NB (Ch v c b a):=Bz λ_=>VH _ _ _ _ _ e
end
def L7(d:vU)(a c:pi):Q K:=if((a.length:Int)!=(c.length:Int))then O Z else (IZ d a c (a.length:Int) 0).bind λb=>match b with|(.inl b)=>O Z|(.inr b)=>O T
def qdV(e:vU)(d:G4 e){a c:pi}:OV 191 [sl ag a,sl ag c,.func (.func 128) [] []] (L7 e a c) (λr=>.bool r) []:=qva.v<|bz (dN.ln a)<|bz (dN.ln c)<|tF tE<|bz (dN.ln a)<|t2 (λh b=>bJ (Kc e a c (a.length:Int) 0 d _ b)<|tE) λh b=>bJ (Kc e a c (a.length:Int) 0 d _ b)<|tE
noncomputable def qyH:W:=f128.body.getD .skip
def qxw:ZF Pg [] 128 f128 qyH:=zf call128 func128 rfl mixed
def HW(c:vU)(a b:ah):Q K:=if (a.Op == b.Op) = T then if(a.Name==b.Name)then if(a.N==b.N)then (L7 c a.Kids b.Kids).bind λd=>O d else O Z else O Z else O Z
def qdU(h:vU)(p:G4 h){a b:ah}:OV 128 [.agg (ag a),.agg (ag b)] (HW h a b) (λr=>.bool r) []:=qxw.v<|
 te (dU a)<|te (dU b)<|have c:=λ{X s t} (r:PV _ X s t)=>tw (aE a)<|tw (aE b)<|r;tf (λm=>have d:=λ{X s t} (r:PV _ X s t)=>c<|tg 6 m<|tw (bK a)<|tw (bK b)<|r;tf (λn=>have e:=λ{X s t} (r:PV _ X s t)=>d<|tg 13 n<|tw (bj a)<|tw (bj b)<|r;tf (λo=>tb λq i=>e<|tg 20 o<|tw (aA a)<|tw (aA b)<|bQ (qdV h p _ i)<|tE) λo=>e<|tg 20 o<|tE) λn=>d<|tg 13 n<|tE) λm=>c<|tg 6 m<|tE
def Qs:((ah×ah)->Q K)->(ah×ah)->Q K:=λ(rec:(ah×ah)->Q K) (x:ah×ah)=>HW (λa b=>rec (a,b)) x.1 x.2
def Kb(a b:ah):Q K:=rT Qs (a,b)
def L6{a c:ah}:OV 128 [.agg (ag a),.agg (ag c)] (Kb a c) (λr=>.bool r) []:=HU λ_ h=>d7 (F:=Qs) (M:=λ(x:ah×ah) (r:K)=>CC Pg GE 128 [.agg (ag x.1),.agg (ag x.2)] (.bool r) []) (λrec b x r h=>qdU _ (λa c=>HU λr h=>b (a,c) r h) _ h) h
noncomputable def qti:W:=f192.body.getD .skip
def qvb:ZF Pg [19] 192 f192 qti:=zf call192 func192 rfl mixed
section
variable(d b:pi)(c a:Int)
def kJ:aF:=aM 32 [(1,sl ag d),(2,.func (.func 128) [] []),(15,sl ag b),(16,.i6 c),(17,.i6 a)] [] []
def zh(o:Unit⊕(Unit)):Exit:=match o with|(.inl _)=>.ret|(.inr _)=>.exit 0
def pD(o:Unit⊕(Unit)):aF:=match o with|(.inl o)=>aM 32 [(6,.bool Z)] [] []|(.inr o)=>aM 32 [] [] []
instance qDP:KS 0 (kJ d b c a):=ks 0 rfl
instance qDH{o:Unit⊕(Unit)}:KS 0 (pD o):=match o with|(.inl o)=>ks 0 rfl|(.inr o)=>ks 0 rfl
def fD:Q (Int⊕(Unit⊕(Unit))):=if Y (a<c)then (bY b a).bind λh=>(bY d a).bind λi=>(Kb h i).bind λe=>if(!e)then O (.inr (.inl ())) else O (.inl (cz (a+1))) else O (.inr (.inr ()))
def tA:Q (Unit⊕(Unit)):=loop (λ(e:Int)=>fD d b c e) a
def KA:OL 0 (cA qti 119) (fD d b c a) (λ(o:Int)=>kJ d b c o) zh pD (kJ d b c a):=qvb.lx<|tF (tb λm h=>tb λn i=>tb λp e=>tv (dN.ia h)<|tv (bA m)<|tx TP<|tx (gP m)<|tv (dN.ia i)<|tv (bA n)<|tx TP<|tx (gP n)<|tv (eJ m [])<|tv (eJ n [])<|bQ (L6 _ e)<|tF tE<|tE)<|tE
def xU:OK 0 (.loop (cA qti 119)) (tA d b c a) zh pD (kJ d b c a):=Bz λ_=>KA _ _ _ _
end
def rY(b c:pi):Q K:=if((b.length:Int)!=(c.length:Int))then O Z else (tA c b (b.length:Int) 0).bind λa=>match a with|(.inl a)=>O Z|(.inr a)=>O T
def R8{a c:pi}:OV 192 [sl ag a,sl ag c,.func (.func 128) [] []] (rY a c) (λr=>.bool r) []:=qvb.v<|bz (dN.ln a)<|bz (dN.ln c)<|tF tE<|bz (dN.ln a)<|t2 (λd b=>bJ (xU c a (a.length:Int) 0 _ b)<|tE) λd b=>bJ (xU c a (a.length:Int) 0 _ b)<|tE
noncomputable def qs6:W:=f130.body.getD .skip
def quR:ZF Pg [19] 130 f130 qs6:=zf call130 func130 rfl mixed
section
variable(e:iX)(d b:oy)(c a:Int)
def fo:aF:=aM 32 [(1,sl al d),(2,.func (.func 131) [] []),(15,sl al b),(16,.i6 c),(17,.i6 a)] [] []
def nd(o:Unit⊕(Unit)):Exit:=match o with|(.inl _)=>.ret|(.inr _)=>.exit 0
def io(o:Unit⊕(Unit)):aF:=match o with|(.inl o)=>aM 32 [(6,.bool Z)] [] []|(.inr o)=>aM 32 [] [] []
instance vy:KS 0 (fo d b c a):=ks 0 rfl
instance vl{o:Unit⊕(Unit)}:KS 0 (io o):=match o with|(.inl o)=>ks 0 rfl|(.inr o)=>ks 0 rfl
def dD:Q (Int⊕(Unit⊕(Unit))):=if Y (a<c)then (bY b a).bind λi=>(bY d a).bind λm=>(e i m).bind λh=>if(!h)then O (.inr (.inl ())) else O (.inl (cz (a+1))) else O (.inr (.inr ()))
def jr:Q (Unit⊕(Unit)):=loop (λ(h:Int)=>dD e d b c h) a
def xV(n:pI e):OL 0 (cA qs6 119) (dD e d b c a) (λ(q:Int)=>fo d b c q) nd io (fo d b c a):=quR.lx<|tF (tb λo i=>tb λp m=>tb λr h=>tv (cQ.ia i)<|tv (cc o)<|tx RZ<|tx (ij o)<|tv (cQ.ia m)<|tv (cc p)<|tx RZ<|tx (ij p)<|tv (eK o [])<|tv (eK p [])<|bQ (n _ _ _ h)<|tF tE<|tE)<|tE
def me(h:pI e):OK 0 (.loop (cA qs6 119)) (jr e d b c a) nd io (fo d b c a):=Bz λ_=>xV _ _ _ _ _ h
end
def fu(d:iX)(b c:oy):Q K:=if((b.length:Int)!=(c.length:Int))then O Z else (jr d c b (b.length:Int) 0).bind λa=>match a with|(.inl a)=>O Z|(.inr a)=>O T
def oV(e:iX)(c:pI e){a d:oy}:OV 130 [sl al a,sl al d,.func (.func 131) [] []] (fu e a d) (λr=>.bool r) []:=quR.v<|bz (cQ.ln a)<|bz (cQ.ln d)<|tF tE<|bz (cQ.ln a)<|t2 (λh b=>bJ (me e d a (a.length:Int) 0 c _ b)<|tE) λh b=>bJ (me e d a (a.length:Int) 0 c _ b)<|tE
noncomputable def qyI:W:=f131.body.getD .skip
def qxy:ZF Pg [] 131 f131 qyI:=zf call131 func131 rfl mixed
def qf(e:iX)(a b:am):Q K:=if (a.Op == b.Op) = T then if (a.Name == b.Name) = T then (xT a.Names b.Names).bind λh=>if h then (Kb a.Pred b.Pred).bind λi=>if i then (rY a.Preds b.Preds).bind λc=>if c then (fu e a.Args b.Args).bind λd=>O d else O Z else O Z else O Z else O Z else O Z
def Sg(p:iX)(z:pI p){a b:am}:OV 131 [.agg (al a),.agg (al b)] (qf p a b) (λr=>.bool r) []:=qxy.v<|
 te (eM a)<|te (eM b)<|have m:=λ{X H L} (r:PV _ X H L)=>tw (aB a)<|tw (aB b)<|r;tf (λt=>have n:=λ{X H L} (r:PV _ X H L)=>m<|tg 6 t<|tw (cm a)<|tw (cm b)<|r;tf (λw=>tb λE q=>have o:=λ{X H L} (r:PV _ X H L)=>n<|tg 13 w<|tw (bh a)<|tw (bh b)<|bQ (NE _ q)<|r;tf (λx=>tb λF s=>have c:=λ{X H L} (r:PV _ X H L)=>o<|tg 20 x<|tw (cP a)<|tw (cP b)<|bQ (L6 _ s)<|r;tf (λy=>tb λA h=>have d:=λ{X H L} (r:PV _ X H L)=>c<|tg 27 y<|tw (bF a)<|tw (bF b)<|bQ (R8 _ h)<|r;tf (λe=>tb λB i=>d<|tg 34 e<|tw (aN a)<|tw (aN b)<|bQ (oV p z _ i)<|tE) λe=>d<|tg 34 e<|tE) λy=>c<|tg 27 y<|tE) λx=>o<|tg 20 x<|tE) λw=>n<|tg 13 w<|tE) λt=>m<|tg 6 t<|tE
def yk:((am×am)->Q K)->(am×am)->Q K:=λ(rec:(am×am)->Q K) (x:am×am)=>qf (λa b=>rec (a,b)) x.1 x.2
def jv(a b:am):Q K:=rT yk (a,b)
def vJ{a c:am}:OV 131 [.agg (al a),.agg (al c)] (jv a c) (λr=>.bool r) []:=HU λ_ h=>d7 (F:=yk) (M:=λ(x:am×am) (r:K)=>CC Pg GE 131 [.agg (al x.1),.agg (al x.2)] (.bool r) []) (λrec b x r h=>Sg _ (λa c=>HU λr h=>b (a,c) r h) _ h) h
abbrev HC:=(aj->Q Int)
abbrev Ot(R:HC):Prop:=∀(e:aj),OV 25 [.agg (ak e)] (R e) (λr=>.i6 r) []
noncomputable def qAL:W:=f62.body.getD .skip
def qAq:ZF Pg [16,25] 62 f62 qAL:=zf call62 func62 rfl mixed
section
variable(e:aj)(a:waD)(i:Int)
def MW:aF:=aM 26 [(1,.eptr (ak e)),(3,sl ak a),(4,.i6 i)] [.dead] [((3,0),36)]
def Y6(o:waD):aF:=aM 26 [(3,sl ak o)] [.dead] [((3,0),36)]
def ji:Q ((waD×Int)⊕(waD)):=if Y (i<(e.Alts.length:Int))then (bY e.Alts i).bind λc=>(app a ([c.Body]:V aj)).bind λb=>O (.inl (b,cz (i+1))) else O (.inr a)
def Ai:Q waD:=loop (λ(b:waD×Int)=>ji e b.1 b.2) (a,i)
def Ul:OL 0 (cA qAL 119) (ji e a i) (λ(h:waD×Int)=>MW e h.1 h.2) (λ_=>.exit 0) Y6 (MW e a i):=qAq.l<|
 tw (ay e)<|bz (fT.ln e.Alts)<|tF (tb λd c=>tb λm b=>tw (ay e)<|tv (fT.ia c)<|tw (vp d)<|tv (dO.mk' (v:=yq) pf ([d.Body]:V aj) 1 (by kernel_rfl))<|tv (dO.ap b)<|tE)<|tE
def WC:=nu (s:=(a,i)) λb=>Ul e b.1 b.2
end
def zp(e:aj):Q waD:=(app ([]:V aj) e.Kids).bind λa=>(Ai e a 0).bind λb=>O b
def IH{e:aj}:OV 62 [.agg (ak e)] (zp e) (λr=>sl ak r) [(0,36)]:=qAq.v<|
 tb λc a=>tb λd b=>te (cd e)<|tv (dO.mk' (v:=yq) pf ([]:V aj) 0 (by kernel_rfl))<|tw (au e)<|tv (dO.ap a)<|bJ (WC e c 0 _ b)<|tE
noncomputable def qAE:W:=f25.body.getD .skip
def qAj:ZF Pg [21] 25 f25 qAE:=zf call25 func25 rfl mixed
section
variable(a:HC)(v:waD)(n i:Int)
def O8:aF:=aM 22 [(3,.i6 n),(4,sl ak v),(5,.i6 i)] [.dead] [((4,0),36)]
def qaQ(o:Int):aF:=aM 22 [(3,.i6 o)] [.dead] []
def j1:Q ((Int×Int)⊕(Int)):=if Y (i<(v.length:Int))then (bY v i).bind λc=>(a c).bind λb=>O (.inl (cz (n+b),cz (i+1))) else O (.inr n)
def Lc:Q Int:=loop (λ(b:Int×Int)=>j1 a v b.1 b.2) (n,i)
def WA(b:Ot a):OL 0 (cA qAE 247) (j1 a v n i) (λ(e:Int×Int)=>O8 v e.1 e.2) (λ_=>.exit 0) qaQ (O8 v n i):=qAj.l<|bz (dO.ln v)<|tF (tb λh d=>tb λm c=>tv (dO.ia d)<|tv (aK h)<|bQ (b _ _ c)<|tE)<|tE
def Y3(b:Ot a):=nu (s:=(n,i)) λc=>WA a v c.1 c.2 b
end
def Hk(a:HC)(e:aj):Q Int:=(zp e).bind λc=>(Lc a c 1 0).bind λb=>O b
def qdf(a:HC)(b:Ot a){e:aj}:OV 25 [.agg (ak e)] (Hk a e) (λr=>.i6 r) []:=qAj.v<|tb λh d=>tb λi c=>te (cd e)<|tv (aK e)<|bQ (IH _ d)<|bJ (Y3 a h 1 0 b _ c)<|tE
def O7:(aj->Q Int)->(aj)->Q Int:=λ(rec:aj->Q Int) (x:aj)=>Hk (λe=>rec e) x
def QQ(e:aj):Q Int:=rT O7 e
def Uk{e:aj}:OV 25 [.agg (ak e)] (QQ e) (λr=>.i6 r) []:=HU λ_ h=>d7 (F:=O7) (M:=λ(x:aj) (r:Int)=>CC Pg GE 25 [.agg (ak x)] (.i6 r) []) (λrec a x r h=>qdf _ (λe=>HU λr h=>a e r h) _ h) h
abbrev mO:=(aj->Q K)
abbrev mG(R:mO):Prop:=∀(e:aj),OV 26 [.agg (ak e)] (R e) (λr=>.bool r) []
abbrev uT:=(am->Int->Q K)
abbrev BQ(R:uT):Prop:=∀(t:am)(a:Int),OV 6 [.agg (al t),.i6 a] (R t a) (λr=>.bool r) []
abbrev Hz:=(ah->Q Int)
abbrev On(R:Hz):Prop:=∀(p:ah),OV 21 [.agg (ag p)] (R p) (λr=>.i6 r) []
noncomputable def qAD:W:=f21.body.getD .skip
def qAi:ZF Pg [18] 21 f21 qAD:=zf call21 func21 rfl mixed
section
variable(a:Hz)(c:pi)(d n b:Int)
def EP:aF:=aM 19 [(3,.i6 n),(7,sl ag c),(8,.i6 d),(9,.i6 b)] [.dead] []
def OR(o:Int):aF:=aM 19 [(3,.i6 o)] [.dead] []
instance qFA:KS 0 (EP c d n b):=ks 1 rfl
instance qFx{o:Int}:KS 0 (OR o):=ks 1 rfl
def wG:Q ((Int×Int)⊕(Int)):=if Y (b<d)then (bY c b).bind λh=>(a h).bind λe=>O (.inl (cz (n+e),cz (b+1))) else O (.inr n)
def Ue:Q Int:=loop (λ(e:Int×Int)=>wG a c d e.1 e.2) (n,b)
def Ww(e:On a):OL 0 (cA qAD 119) (wG a c d n b) (λ(o:Int×Int)=>EP c d o.1 o.2) (λ_=>.exit 0) OR (EP c d n b):=qAi.lx<|tF (tb λm i=>tb λp h=>tv (dN.ia i)<|tv (bA m)<|tx TP<|tx (gP m)<|tv (eJ m [])<|bQ (e _ _ h)<|tE)<|tE
def YU(e:On a):=nu (s:=(n,b)) λh=>Ww a c d h.1 h.2 e
end
def He(a:Hz)(p:ah):Q Int:=(Ue a p.Kids (p.Kids.length:Int) 1 0).bind λb=>O b
def qda(a:Hz)(b:On a){p:ah}:OV 21 [.agg (ag p)] (He a p) (λr=>.i6 r) []:=qAi.v<|tb λd c=>te (dU p)<|tw (aA p)<|bz (dN.ln p.Kids)<|bJ (YU a p.Kids (p.Kids.length:Int) 1 0 b _ c)<|tE
def Hf:(ah->Q Int)->(ah)->Q Int:=λ(rec:ah->Q Int) (x:ah)=>He (λp=>rec p) x
def vQ(p:ah):Q Int:=rT Hf p
def K6{p:ah}:OV 21 [.agg (ag p)] (vQ p) (λr=>.i6 r) []:=HU λ_ h=>d7 (F:=Hf) (M:=λ(x:ah) (r:Int)=>CC Pg GE 21 [.agg (ag x)] (.i6 r) []) (λrec a x r h=>qda _ (λp=>HU λr h=>a p r h) _ h) h
noncomputable def b6:W:=Tryz.f6.body.getD .skip
def Z6:ZF Pg [] 6 Tryz.f6 b6:=zf call6 func6 rfl mixed
section
variable(a:Int)(t:am)
def rQ:Q K:=if(a==0)then O T else if Y ((t.Args.length:Int)>8)then O T else if Y ((t.Names.length:Int)>8)then O T else if Y ((t.Preds.length:Int)>8)then O T else (vQ t.Pred).bind λb=>O (Y (b>100))
def RJ:OU 0 (cA b6 12) (rQ a t) .normal (λo=>[(34,.bool o)]) (aM 59 [(1,.i6 a),(2,.eptr (al t))] [.dead] []):=Z6.j<|
 tf (λh=>tg 3 h<|tE) λh=>have b:=λ{X q s} (r:PV _ X q s)=>tg 3 h<|tw (aN t)<|bz (cQ.ln t.Args)<|r;tf (λi=>b<|tg 9 i<|tE) λi=>have c:=λ{X q s} (r:PV _ X q s)=>b<|tg 9 i<|tw (bh t)<|bz (dX.ln t.Names)<|r;tf (λm=>c<|tg 15 m<|tE) λm=>have d:=λ{X q s} (r:PV _ X q s)=>c<|tg 15 m<|tw (bF t)<|bz (dN.ln t.Preds)<|r;tf (λn=>d<|tg 21 n<|tE) λn=>tb λp e=>d<|tg 21 n<|tw (cP t)<|bQ (K6 _ e)<|tE
end
section
variable(a:Int)(t:am)(c:pi)(d b:Int)
def nS:aF:=aM 59 [(1,.i6 a),(2,.eptr (al t)),(36,sl ag c),(37,.i6 d),(38,.i6 b)] [.dead] []
def Fj(o:Unit⊕(Unit)):Exit:=match o with|(.inl _)=>.ret|(.inr _)=>.exit 0
def vj(o:Unit⊕(Unit)):aF:=match o with|(.inl o)=>aM 59 [(4,.bool Z)] [.dead] []|(.inr o)=>aM 59 [(1,.i6 a),(2,.eptr (al t))] [.dead] []
instance qEA:KS 0 (nS a t c d b):=ks 1 rfl
instance qEy{o:Unit⊕(Unit)}:KS 0 (vj a t o):=match o with|(.inl o)=>ks 1 rfl|(.inr o)=>ks 1 rfl
def Fi:Q (Int⊕(Unit⊕(Unit))):=if Y (b<d)then (bY c b).bind λh=>(vQ h).bind λe=>if Y (e>100)then O (.inr (.inl ())) else O (.inl (cz (b+1))) else O (.inr (.inr ()))
def zv:Q (Unit⊕(Unit)):=loop (λ(e:Int)=>Fi c d e) b
def PW:OL 0 (cA b6 119) (Fi c d b) (λ(n:Int)=>nS a t c d n) Fj (vj a t) (nS a t c d b):=Z6.lx<|tF (tb λe i=>tb λm h=>tv (dN.ia i)<|tv (bA e)<|tx TP<|tx (gP e)<|tv (eJ e [])<|bQ (K6 _ h)<|tF tE<|tE)<|tE
def Da:OK 0 (.loop (cA b6 119)) (zv c d b) Fj (vj a t) (nS a t c d b):=Bz λ_=>PW _ _ _ _ _
end
section
variable(e:uT)(a:Int)(c:oy)(d b:Int)
def nU:aF:=aM 59 [(1,.i6 a),(47,sl al c),(48,.i6 d),(49,.i6 b)] [.dead] []
def Fl(o:Unit⊕(Unit)):Exit:=match o with|(.inl _)=>.ret|(.inr _)=>.exit 2
def vo(o:Unit⊕(Unit)):aF:=match o with|(.inl o)=>aM 59 [(4,.bool Z)] [.dead] []|(.inr o)=>aM 59 [] [.dead] []
instance qEB:KS 0 (nU a c d b):=ks 1 rfl
instance qEz{o:Unit⊕(Unit)}:KS 0 (vo o):=match o with|(.inl o)=>ks 1 rfl|(.inr o)=>ks 1 rfl
def Fk:Q (Int⊕(Unit⊕(Unit))):=if Y (b<d)then (bY c b).bind λi=>(e i (cz (a - 1))).bind λh=>if(!h)then O (.inr (.inl ())) else O (.inl (cz (b+1))) else O (.inr (.inr ()))
def zw:Q (Unit⊕(Unit)):=loop (λ(h:Int)=>Fk e a c d h) b
def PX(n:BQ e):OL 0 (cA b6 247) (Fk e a c d b) (λ(p:Int)=>nU a c d p) Fl vo (nU a c d b):=Z6.lx<|tF (tb λh m=>tb λo i=>tv (cQ.ia m)<|tv (cc h)<|tx RZ<|tx (ij h)<|tv (eK h [])<|bQ (n _ _ _ i)<|tF tE<|tE)<|tE
def Db(h:BQ e):OK 0 (.loop (cA b6 247)) (zw e a c d b) Fl vo (nU a c d b):=Bz λ_=>PX _ _ _ _ _ h
end
def uV(d:uT)(t:am)(a:Int):Q K:=(rQ a t).bind λe=>if e then O Z else (zv t.Preds (t.Preds.length:Int) 0).bind λb=>match b with|(.inl b)=>O Z| (.inr b) =>(zw d a t.Args (t.Args.length:Int) 0).bind λc=>match c with|(.inl c)=>O Z|(.inr c)=>O T
def UH(d:uT)(e:BQ d){t:am}{a:Int}:OV 6 [.agg (al t),.i6 a] (uV d t a) (λr=>.bool r) []:=Z6.v<|tb λn h=>te (eM t)<|ey 1<|bJ (RJ a t _ h)<|tF tE<|tw (bF t)<|bz (dN.ln t.Preds)<|t2 (λi b=>bJ (Da a t t.Preds (t.Preds.length:Int) 0 _ b)<|tE) λi b=>bJ (Da a t t.Preds (t.Preds.length:Int) 0 _ b)<|tw (aN t)<|bz (cQ.ln t.Args)<|t2 (λm c=>bJ (Db d a t.Args (t.Args.length:Int) 0 e _ c)<|tE) λm c=>bJ (Db d a t.Args (t.Args.length:Int) 0 e _ c)<|tE
def B7:((am×Int)->Q K)->(am×Int)->Q K:=λ(rec:(am×Int)->Q K) (x:am×Int)=>uV (λt a=>rec (t,a)) x.1 x.2
def ug(t:am)(a:Int):Q K:=rT B7 (t,a)
def zx{t:am}{a:Int}:OV 6 [.agg (al t),.i6 a] (ug t a) (λr=>.bool r) []:=HU λ_ h=>d7 (F:=B7) (M:=λ(x:am×Int) (r:K)=>CC Pg GE 6 [.agg (al x.1),.i6 x.2] (.bool r) []) (λrec b x r h=>UH _ (λt a=>HU λr h=>b (t,a) r h) _ h) h
noncomputable def qp9:W:=f26.body.getD .skip
def qus:ZF Pg [] 26 f26 qp9:=zf call26 func26 rfl mixed
section
variable(e:aj)
def pS:Q K:=if Y ((e.Types.length:Int)>8)then O T else O (Y ((e.Params.length:Int)>8))
def PY:OU 0 (cA qp9 12) (pS e) .normal (λo=>[(20,.bool o)]) (aM 67 [(1,.eptr (ak e))] [.dead] []):=qus.j<|
 have a:=λ{X c d} (r:PV _ X c d)=>tw (aw e)<|bz (cQ.ln e.Types)<|r;tf (λb=>a<|tg 5 b<|tE) λb=>a<|tg 5 b<|tw (aO e)<|bz (kl.ln e.Params)<|tE
end
section
variable(e:aj)(b:oy)(c a:Int)
def mm:aF:=aM 67 [(1,.eptr (ak e)),(22,sl al b),(23,.i6 c),(24,.i6 a)] [.dead] []
def De(o:Unit⊕(Unit)):Exit:=match o with|(.inl _)=>.ret|(.inr _)=>.exit 0
def sU(o:Unit⊕(Unit)):aF:=match o with|(.inl o)=>aM 67 [(2,.bool Z)] [.dead] []|(.inr o)=>aM 67 [(1,.eptr (ak e))] [.dead] []
instance qEu:KS 0 (mm e b c a):=ks 1 rfl
instance qEk{o:Unit⊕(Unit)}:KS 0 (sU e o):=match o with|(.inl o)=>ks 1 rfl|(.inr o)=>ks 1 rfl
def Dc:Q (Int⊕(Unit⊕(Unit))):=if Y (a<c)then (bY b a).bind λh=>(ug h 4).bind λd=>if(!d)then O (.inr (.inl ())) else O (.inl (cz (a+1))) else O (.inr (.inr ()))
def xc:Q (Unit⊕(Unit)):=loop (λ(d:Int)=>Dc b c d) a
def N2:OL 0 (cA qp9 119) (Dc b c a) (λ(m:Int)=>mm e b c m) De (sU e) (mm e b c a):=qus.lx<|tF (tb λi h=>tb λn d=>tv (cQ.ia h)<|tv (cc i)<|tx RZ<|tx (ij i)<|tv (eK i [])<|bQ (zx _ d)<|tF tE<|tE)<|tE
def Bj:OK 0 (.loop (cA qp9 119)) (xc b c a) De (sU e) (mm e b c a):=Bz λ_=>N2 _ _ _ _
end
section
variable(e:aj)(b:waF)(c a:Int)
def mn:aF:=aM 67 [(1,.eptr (ak e)),(33,sl bk b),(34,.i6 c),(35,.i6 a)] [.dead] []
def Dg(o:Unit⊕(Unit)):Exit:=match o with|(.inl _)=>.ret|(.inr _)=>.exit 2
def sV(o:Unit⊕(Unit)):aF:=match o with|(.inl o)=>aM 67 [(2,.bool Z)] [.dead] []|(.inr o)=>aM 67 [(1,.eptr (ak e))] [.dead] []
instance qEv:KS 0 (mn e b c a):=ks 1 rfl
instance qEl{o:Unit⊕(Unit)}:KS 0 (sV e o):=match o with|(.inl o)=>ks 1 rfl|(.inr o)=>ks 1 rfl
def Df:Q (Int⊕(Unit⊕(Unit))):=if Y (a<c)then (bY b a).bind λh=>(ug h.Type_ 4).bind λd=>if(!d)then O (.inr (.inl ())) else O (.inl (cz (a+1))) else O (.inr (.inr ()))
def xd:Q (Unit⊕(Unit)):=loop (λ(d:Int)=>Df b c d) a
def N3:OL 0 (cA qp9 247) (Df b c a) (λ(n:Int)=>mn e b c n) Dg (sV e) (mn e b c a):=qus.lx<|tF (tb λd i=>tb λm h=>tv (kl.ia i)<|tv (ED d)<|tx qeN<|tx (zI d)<|tv (eK d.Type_ [])<|bQ (zx _ h)<|tF tE<|tE)<|tE
def Bk:OK 0 (.loop (cA qp9 247)) (xd b c a) Dg (sV e) (mn e b c a):=Bz λ_=>N3 _ _ _ _
end
section
variable(d:mO)(e:aj)(b:waD)(c a:Int)
def mo:aF:=aM 67 [(1,.eptr (ak e)),(45,sl ak b),(46,.i6 c),(47,.i6 a)] [.dead] []
def Di(o:Unit⊕(Unit)):Exit:=match o with|(.inl _)=>.ret|(.inr _)=>.exit 4
def sW(o:Unit⊕(Unit)):aF:=match o with|(.inl o)=>aM 67 [(2,.bool Z)] [.dead] []|(.inr o)=>aM 67 [(1,.eptr (ak e))] [.dead] []
instance qEw:KS 0 (mo e b c a):=ks 1 rfl
instance qEm{o:Unit⊕(Unit)}:KS 0 (sW e o):=match o with|(.inl o)=>ks 1 rfl|(.inr o)=>ks 1 rfl
def Dh:Q (Int⊕(Unit⊕(Unit))):=if Y (a<c)then (bY b a).bind λi=>(d i).bind λh=>if(!h)then O (.inr (.inl ())) else O (.inl (cz (a+1))) else O (.inr (.inr ()))
def xe:Q (Unit⊕(Unit)):=loop (λ(h:Int)=>Dh d b c h) a
def N4(n:mG d):OL 0 (cA qp9 503) (Dh d b c a) (λ(p:Int)=>mo e b c p) Di (sW e) (mo e b c a):=qus.lx<|tF (tb λh m=>tb λo i=>tv (dO.ia m)<|tv (aK h)<|tx ZB<|tx (wc h)<|tv (ga h [])<|bQ (n _ _ i)<|tF tE<|tE)<|tE
def Bl(h:mG d):OK 0 (.loop (cA qp9 503)) (xe d b c a) Di (sW e) (mo e b c a):=Bz λ_=>N4 _ _ _ _ _ h
end
section
variable(d:mO)(b:IO)(c a:Int)
def mq:aF:=aM 67 [(56,sl bL b),(57,.i6 c),(58,.i6 a)] [.dead] []
def Dk(o:Unit⊕(Unit)):Exit:=match o with|(.inl _)=>.ret|(.inr _)=>.exit 6
def sX(o:Unit⊕(Unit)):aF:=match o with|(.inl o)=>aM 67 [(2,.bool Z)] [.dead] []|(.inr o)=>aM 67 [] [.dead] []
instance qEx:KS 0 (mq b c a):=ks 1 rfl
instance qEn{o:Unit⊕(Unit)}:KS 0 (sX o):=match o with|(.inl o)=>ks 1 rfl|(.inr o)=>ks 1 rfl
def Dj:Q (Int⊕(Unit⊕(Unit))):=if Y (a<c)then (bY b a).bind λh=>(d h.Body).bind λe=>if(!e)then O (.inr (.inl ())) else O (.inl (cz (a+1))) else O (.inr (.inr ()))
def xf:Q (Unit⊕(Unit)):=loop (λ(e:Int)=>Dj d b c e) a
def N5(m:mG d):OL 0 (cA qp9 1015) (Dj d b c a) (λ(o:Int)=>mq b c o) Dk sX (mq b c a):=qus.lx<|tF (tb λe i=>tb λn h=>tv (fT.ia i)<|tv (rV e)<|tx SV<|tx (oH e)<|tv (ga e.Body [])<|bQ (m _ _ h)<|tF tE<|tE)<|tE
def Bm(e:mG d):OK 0 (.loop (cA qp9 1015)) (xf d b c a) Dk sX (mq b c a):=Bz λ_=>N5 _ _ _ _ e
end
def rR(d:mO)(e:aj):Q K:=(pS e).bind λi=>if i then O Z else (xc e.Types (e.Types.length:Int) 0).bind λh=>match h with|(.inl h)=>O Z| (.inr h) =>(xd e.Params (e.Params.length:Int) 0).bind λa=>match a with|(.inl a)=>O Z| (.inr a) =>(xe d e.Kids (e.Kids.length:Int) 0).bind λb=>match b with|(.inl b)=>O Z| (.inr b) =>(xf d e.Alts (e.Alts.length:Int) 0).bind λc=>match c with|(.inl c)=>O Z|(.inr c)=>O T
def Te(b:mO)(a:mG b){e:aj}:OV 26 [.agg (ak e)] (rR b e) (λr=>.bool r) []:=qus.v<|tb λs m=>te (cd e)<|ey 1<|bJ (PY e _ m)<|tF tE<|tw (aw e)<|bz (cQ.ln e.Types)<|t2 (λq i=>bJ (Bj e e.Types (e.Types.length:Int) 0 _ i)<|tE) λq i=>bJ (Bj e e.Types (e.Types.length:Int) 0 _ i)<|tw (aO e)<|bz (kl.ln e.Params)<|t2 (λn c=>bJ (Bk e e.Params (e.Params.length:Int) 0 _ c)<|tE) λn c=>bJ (Bk e e.Params (e.Params.length:Int) 0 _ c)<|tw (au e)<|bz (dO.ln e.Kids)<|t2 (λo d=>bJ (Bl b e e.Kids (e.Kids.length:Int) 0 a _ d)<|tE) λo d=>bJ (Bl b e e.Kids (e.Kids.length:Int) 0 a _ d)<|tw (ay e)<|bz (fT.ln e.Alts)<|t2 (λp h=>bJ (Bm b e.Alts (e.Alts.length:Int) 0 a _ h)<|tE) λp h=>bJ (Bm b e.Alts (e.Alts.length:Int) 0 a _ h)<|tE
def zy:(aj->Q K)->(aj)->Q K:=λ(rec:aj->Q K) (x:aj)=>rR (λe=>rec e) x
def Fm(e:aj):Q K:=rT zy e
def UI{e:aj}:OV 26 [.agg (ak e)] (Fm e) (λr=>.bool r) []:=HU λ_ h=>d7 (F:=zy) (M:=λ(x:aj) (r:K)=>CC Pg GE 26 [.agg (ak x)] (.bool r) []) (λrec a x r h=>Te _ (λe=>HU λr h=>a e r h) _ h) h
noncomputable def b9:W:=Tryz.f9.body.getD .skip
def Z9:ZF Pg [] 9 Tryz.f9 b9:=zf call9 func9 rfl mixed
def QT(e:aj):Q K:=(QQ e).bind λa=>if Y (a<=200)then (Fm e).bind λb=>O b else O Z
def qfw{e:aj}:OV 9 [.agg (ak e)] (QT e) (λr=>.bool r) []:=Z9.v<|
 tb λh b=>te (cd e)<|have a:=λ{X m n} (r:PV _ X m n)=>tv (aK e)<|bQ (Uk _ b)<|r;tf (λd=>tb λi c=>a<|tg 4 d<|tv (aK e)<|bQ (UI _ c)<|tE) λd=>a<|tg 4 d<|tE
noncomputable def qBZ:W:=f14.body.getD .skip
def qBp:ZF Pg [] 14 f14 qBZ:=zf call14 func14 rfl mixed
def xb(d:d5):Q K:=(QT d.Body).bind λa=>if a then (ug d.Sig.Type_ 5).bind λb=>if b then if Y ((d.Params.length:Int)<=10)then if Y ((d.Sig.Bounds.length:Int)<=5)then O (Y ((d.Sig.Metric.length:Int)<=8)) else O Z else O Z else O Z else O Z
def Ni{d:d5}:OV 14 [.agg (aV d)] (xb d) (λr=>.bool r) []:=qBp.v<|
 tb λq h=>te (Re d)<|have b:=λ{X t w} (r:PV _ X t w)=>tw (i7 d)<|bQ (qfw _ h)<|r;tf (λm=>tb λs i=>have c:=λ{X t w} (r:PV _ X t w)=>b<|tg 4 m<|tv (LP d)<|tv (Zi d)<|tv (qdE d)<|bQ (zx _ i)<|r;tf (λn=>have e:=λ{X t w} (r:PV _ X t w)=>c<|tg 10 n<|tw (pX d)<|bz (dX.ln d.Params)<|r;tf (λo=>have a:=λ{X t w} (r:PV _ X t w)=>e<|tg 16 o<|tv (LP d)<|tv (Zh d)<|tv (qdD d)<|bz (qpP.ln d.Sig.Bounds)<|r;tf (λp=>a<|tg 23 p<|tv (LP d)<|tv (Zj d)<|tv (qdF d)<|bz (dN.ln d.Sig.Metric)<|tE) λp=>a<|tg 23 p<|tE) λo=>e<|tg 16 o<|tE) λn=>c<|tg 10 n<|tE) λm=>b<|tg 4 m<|tE
noncomputable def qw3:W:=f13.body.getD .skip
def qxx:ZF Pg [19] 13 f13 qw3:=zf call13 func13 rfl mixed
section
variable(m:dt)(b:V cW)(c:Int)(v:waH)(a:Int)
def qC:aF:=aM 67 [(1,.eptr (bo m)),(3,sl aV v),(13,sl aX b),(14,.i6 c),(15,.i6 a)] [.dead] [((3,0),58)]
def Bg(o:waH):aF:=aM 67 [(1,.eptr (bo m)),(3,sl aV o)] [.dead] [((3,0),58)]
instance qEb:KS 0 (qC m b c v a):=ks 1 rfl
instance qDU{o:waH}:KS 0 (Bg m o):=ks 1 rfl
def f8:Q ((waH×Int)⊕(waH)):=if Y (a<c)then (bY b a).bind λe=>(app v e.Defs).bind λd=>O (.inl (d,cz (a+1))) else O (.inr v)
def Fg:Q waH:=loop (λ(d:waH×Int)=>f8 b c d.1 d.2) (v,a)
def LI:OL 0 (cA qw3 119) (f8 b c v a) (λ(i:waH×Int)=>qC m b c i.1 i.2) (λ_=>.exit 0) (Bg m) (qC m b c v a):=qxx.lx<|tF (tb λh e=>tb λn d=>tv (qj3.ia e)<|tv (LW h)<|tx qtW<|tx (IY h)<|ts<|tv (R6.ap d)<|tE)<|tE
def N1:=nu (s:=(v,a)) λd=>LI m b c d.1 d.2
end
section
variable(m:dt)(v:waH)(b a:Int)
def lj:aF:=aM 67 [(1,.eptr (bo m)),(3,sl aV v),(24,sl aV v),(25,.i6 b),(26,.i6 a)] [.dead] [((3,0),58)]
def Bi(o:Unit⊕(Unit)):Exit:=match o with|(.inl _)=>.ret|(.inr _)=>.exit 2
def qD(o:Unit⊕(Unit)):aF:=match o with|(.inl o)=>aM 67 [(2,.bool Z)] [.dead] []|(.inr o)=>aM 67 [(1,.eptr (bo m)),(3,sl aV v)] [.dead] [((3,0),58)]
instance qEc:KS 0 (lj m v b a):=ks 1 rfl
instance qDV{o:Unit⊕(Unit)}:KS 0 (qD m v o):=match o with|(.inl o)=>ks 1 rfl|(.inr o)=>ks 1 rfl
def Bh:Q (Int⊕(Unit⊕(Unit))):=if Y (a<b)then (bY v a).bind λd=>(xb d).bind λc=>if(!c)then O (.inr (.inl ())) else O (.inl (cz (a+1))) else O (.inr (.inr ()))
def Fh:Q (Unit⊕(Unit)):=loop (λ(c:Int)=>Bh v b c) a
def LK:OL 0 (cA qw3 247) (Bh v b a) (λ(h:Int)=>lj m v b h) Bi (qD m v) (lj m v b a):=qxx.lx<|tF (tb λe d=>tb λi c=>tv (R6.ia d)<|tv (Ao e)<|tx qpk<|tx (Qn e)<|tv (Qf e [])<|bQ (Ni _ c)<|tF tE<|tE)<|tE
def yX:OK 0 (.loop (cA qw3 247)) (Fh v b a) Bi (qD m v) (lj m v b a):=Bz λ_=>LK _ _ _ _
end
def uU (m:dt):Q K :=(app ([]:List d5) m.Defs).bind λc=>(Fg m.Instances (m.Instances.length:Int) c 0).bind λb=>(Fh b (b.length:Int) 0).bind λa=>match a with|(.inl a)=>O Z| (.inr a) =>if Y ((b.length:Int)<=20)then if Y ((m.Datas.length:Int)<=10)then if Y ((m.Classes.length:Int)<=10)then if Y ((m.Instances.length:Int)<=10)then if Y ((m.Measures.length:Int)<=10)then O (Y ((m.Quals.length:Int)<=10)) else O Z else O Z else O Z else O Z else O Z
def Td{m:dt}:OV 13 [.agg (bo m)] (uU m) (λr=>.bool r) []:=qxx.v<|
 tb λx s=>tb λq t=>te (L2 m)<|tv (R6.mk' (v:=qka) qiC ([]:V d5) 0 (by kernel_rfl))<|tw (qM m)<|tv (R6.ap s)<|tw (ll m)<|bz (qj3.ln m.Instances)<|bJ (N1 m m.Instances (m.Instances.length:Int) x 0 _ t)<|bz (R6.ln q)<|t2 (λw a=>bJ (yX m q (q.length:Int) 0 _ a)<|tE) λw a=>bJ (yX m q (q.length:Int) 0 _ a)<|tf (λh=>have b:=λ{X y z} (r:PV _ X y z)=>bz (R6.ln q)<|tg 4 h<|tw (qI m)<|bz (qpL.ln m.Datas)<|r;tf (λi=>have c:=λ{X y z} (r:PV _ X y z)=>b<|tg 10 i<|tw (qJ m)<|bz (qpM.ln m.Classes)<|r;tf (λn=>have d:=λ{X y z} (r:PV _ X y z)=>c<|tg 16 n<|tw (ll m)<|bz (qj3.ln m.Instances)<|r;tf (λo=>have e:=λ{X y z} (r:PV _ X y z)=>d<|tg 22 o<|tw (qK m)<|bz (qpN.ln m.Measures)<|r;tf (λp=>e<|tg 28 p<|tw (qL m)<|bz (qpO.ln m.Quals)<|tE) λp=>e<|tg 28 p<|tE) λo=>d<|tg 22 o<|tE) λn=>c<|tg 16 n<|tE) λi=>b<|tg 10 i<|tE) λh=>bz (R6.ln q)<|tg 4 h<|tE
noncomputable def qB7:W:=f30.body.getD .skip
def qBx:ZF Pg [] 30 f30 qB7:=zf call30 func30 rfl mixed
def PZ(s:ae):Q aj:=O (⟨3,s,0,[],[],[],[]⟩:aj)
def uh{s:ae}:OV 30 [.str s] (PZ s) (λr=>.agg (ak r)) [(3,36),(4,114),(5,116),(6,30)]:=qBx.va<|tx ZB<|Yv (qfL 3 s) (qfF 3 s)<|ty (cO (⟨3,s,0,[],[],[],[]⟩:aj))<|Jo λq=>aI (XE (⟨3,s,0,[],[],[],[]⟩:aj)) q.2
noncomputable def qB8:W:=f31.body.getD .skip
def qBy:ZF Pg [] 31 f31 qB8:=zf call31 func31 rfl mixed
def qkg(k:Int):Q aj:=O (⟨1,[],k,[],[],[],[]⟩:aj)
def qa7{k:Int}:OV 31 [.i6 k] (qkg k) (λr=>.agg (ak r)) [(3,36),(4,114),(5,116),(6,30)]:=qBy.va<|tx ZB<|Yv (qfM 1 k) (qfG 1 k)<|ty (cO (⟨1,[],k,[],[],[],[]⟩:aj))<|Jo λq=>aI (XE (⟨1,[],k,[],[],[],[]⟩:aj)) q.2
noncomputable def qB6:W:=f29.body.getD .skip
def qBw:ZF Pg [] 29 f29 qB6:=zf call29 func29 rfl mixed
def LH(a:Int)(b:waD):Q aj:=O (⟨a,[],0,b,[],[],[]⟩:aj)
def vV{a:Int}{b:waD}:OV 29 [.i6 a,sl ak b] (LH a b) (λr=>.agg (ak r)) [(4,114),(5,116),(6,30)]:=qBw.va<|tx ZB<|Yv (qfN a b) (qfH a b)<|ty (cO (⟨a,[],0,b,[],[],[]⟩:aj))<|Jo λq=>aI (XE (⟨a,[],0,b,[],[],[]⟩:aj)) q.2
noncomputable def qCl:W:=f72.body.getD .skip
def qBL:ZF Pg [12] 72 f72 qCl:=zf call72 func72 rfl mixed
def gj(s:ae)(b:V Int)(a:K):Q (Int×Unit×V Int):=(Th b a).bind λd=>(qns b s).bind λc=>O ((s.length:Int),(),c)
def zR{s:ae}{d:V Int}{a:K}:OG 72 [.bptr 0 0,.str s] [] [cw 0 d a] (gj s d a) (λr=>.tuple [.i6 r.1,.val .nilIface]) [] (λr=>[cw 0 r.2.2 a]):=qBL.g 1<|
 tb λh c=>tb λe b=>tc [0] (qdn c)<|ti (.z [sl (cI .u8) e]) (qqC qt7 underlying9 (by kernel_rfl) (by kernel_rfl) (by kernel_rfl) b)<|bz (nD underlying9 s)<|tE
noncomputable def qAF:W:=f33.body.getD .skip
def qAk:ZF Pg [] 33 f33 qAF:=zf call33 func33 rfl mixed
section
variable(b:waA)(c:Int)(m2:K)(a:Int)(m:V Int)
def y6:aF:=aM 18 [(0,.bptr 0 0),(6,sl cS b),(7,.i6 c),(8,.i6 a)] [cw 0 m m2] []
def Of(o:V Int):aF:=aM 18 [] [cw 0 o m2] []
def ib:Q ((Int×V Int)⊕V Int):=if Y (a<c)then (bY b a).bind λe=>(gj e m m2).bind λd=>O (.inl (cz (a+1),d.2.2)) else O (.inr m)
def Dr:Q (V Int):=loop (λ(d:Int×V Int)=>ib b c m2 d.1 d.2) (a,m)
def Ks:OL 1 (cA qAF 15) (ib b c m2 a m) (λ(h:Int×V Int)=>y6 b c m2 h.1 h.2) (λ_=>.exit 0) (Of m2) (y6 b c m2 a m):=qAk.l<|tF (tb λi e=>tb λn d=>tv (dX.ia e)<|tv (dz ZC (.str i) [])<|tc [0] (zR _ d)<|tE)<|tE
def Mq:=nu (s:=(a,m)) λd=>Ks b c m2 d.1 d.2
end
def aa(a:waA)(c:V Int)(b:K):Q (V Int):=(Dr a (a.length:Int) b 0 c).bind λd=>O d
def af{a:waA}{d:V Int}{b:K}:OG 33 [.bptr 0 0,sl cS a] [] [cw 0 d b] (aa a d b) (λr=>.tuple []) [] (λr=>[cw 0 r b]):=qAk.g 1<|tb λe c=>bz (dX.ln a)<|bJ (Mq a (a.length:Int) b 0 d _ c)<|tE
abbrev fF:=(aj->aj->Q K)
abbrev jP(R:fF):Prop:=∀(a b:aj),OV 80 [.agg (ak a),.agg (ak b)] (R a b) (λr=>.bool r) []
end Go.Proofs.YtibglelmlnfojaaGreatDoor
