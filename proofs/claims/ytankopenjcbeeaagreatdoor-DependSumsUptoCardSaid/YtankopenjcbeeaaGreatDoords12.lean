/- PROVED: a part of the proof. Conditions: none. -/
import Derived.Test.YtankopenjcbeeaaGreatDoords11
import Derived.Shelf.Strings.OnBuilder
set_option linter.unusedSimpArgs false
set_option linter.unusedVariables false
noncomputable section
namespace Go.Proofs.YtankopenjcbeeaaGreatDoor
open Go Go.Shelf Go.RowKit Go.Proofs.Tryz
set_option linter.unusedVariables false
section
variable{P:Program}{ρ:Ren}
set_option maxHeartbeats 1000000 in
set_option maxRecDepth 100000 in
theorem QC(L:Lays.n240 P ρ)(b:Nat)(w:World)(T:TypeId)(n:Nat)(j:TypeInfo)(hj:P.info? (ρ.t 72)=some j)(hjs:j.size≠0)(hn:0<n)(hlies:liesAt P P.depth T (n / P.cellsOf T) 0 (ρ.t 72) 1=true)
  (h0:w.cell? ⟨b,0,none⟩=some (.pointer none)) (hsh:w.shape? b=some (T,n)) (hfz:w.frozen? ⟨b,0,none⟩=false):
  Calls P (ρ.f 240) #[.pointer (some ⟨b,0,none⟩)] w λe w'=>e=.returned (.tuple #[])/\w'=w.setCell ⟨b,0,none⟩ (.pointer (some ⟨b,0,none⟩)):=by
 have mixed:=L.mixed
 have t72:=L.t72;have a72:=L.a72;have z72:=L.z72;have v72:=L.v72;have u72:=run_underlying L.t72
 have t70:=L.t70;have a70:=L.a70;have z70:=L.z70;have v70:=L.v70;have u70:=run_underlying L.t70
 have t9:=L.t9;have a9:=L.a9;have z9:=L.z9;have v9:=L.v9;have u9:=run_underlying L.t9
 have t4:=L.t4;have a4:=L.a4;have z4:=L.z4;have v4:=L.v4;have u4:=run_underlying L.t4
 have t164:=L.t164;have a164:=L.a164;have z164:=L.z164;have v164:=L.v164;have u164:=run_underlying L.t164
 go_enter L.f240,Body.n240_ntmps ρ
 go_wp2
 rw[Lib.run_to_unsafe w ⟨b,0,none⟩ L.t70 L.t164 hj hjs hsh hn]
 simp only[Result.andThen]
 rw[Oper.upon_value]
 go_wp2
 rw[run_callFunc_extern L.f276 (by kernel_rfl) (by kernel_rfl) (by kernel_rfl) (e:=Extern.AbiNoEscape.same) (by kernel_rfl)]
 rw[Lib.run_noEscape]
 simp only[Result.andThen]
 rw[Oper.upon_value]
 go_wp2
 rw[Lib.run_from_unsafe w ⟨b,0,none⟩ L.t164 L.t70 hj hsh hlies]
 simp only[Result.andThen]
 rw[Oper.upon_value]
 go_wp2
 go_end0
 exact⟨rfl,rfl⟩
structure Dk(g:Nat)(w w':World):Prop where
 os:w'.os=w.os
 tape:w'.tape=w.tape
 output:w'.output=w.output
 size:w.heap.size<=w'.heap.size
 keep:∀b,b<w.heap.size->b≠g->w'.heap[b]? =w.heap[b]?
 here:∀c t fr,w.heap[g]? =some (.cells c t fr)->∃fr',w'.heap[g]? =some (.cells c t fr')
theorem Dk.drew(g:Nat)(w:World):Dk g w w.drew:=⟨rfl,rfl,rfl,vaj _,λ_ _ _=>rfl,λc t fr h=>⟨fr,h⟩⟩
theorem Dk.alloc(g:Nat)(w:World)(o:Obj):Dk g w (w.drew.alloc o):=⟨rfl,rfl,rfl,by show w.heap.size<=(w.heap.push o).size;simp,λb hb _=>Lib.alloc_old w.drew o b hb,λc t fr h=>by
 have hlt:g<w.heap.size:=(vab.1 h).1
 exact⟨fr,(Lib.alloc_old w.drew o g hlt).trans h⟩⟩
theorem Dk.freeze(g:Nat)(w:World)(n:Nat):Dk g w (w.drew.freeze ⟨g,0,none⟩ n):=by
 unfold World.freeze
 split
 ·exact .drew g w
 ·refine⟨rfl,rfl,rfl,by show w.heap.size<=(w.heap.modify g _).size;simp,λb _ hb=>?_,λc t fr h=>?_⟩
  ·show(w.heap.modify g _)[b]? =_
   rw[vba,vaM (Ne.symm hb)]
  ·show ∃fr',(w.heap.modify g _)[g]? =_
   rw[vba,vaJ rfl,h]
   exact⟨_,rfl⟩
set_option maxHeartbeats 1000000 in
set_option maxRecDepth 100000 in
theorem R1(L:Lays.n169 P ρ)(X:Builder.Extra P ρ)(b g cap:Nat)(l:List UInt8)(cur:Array Value)(w:World)(h0:l≠[])(hcap:l.length<=cap)(hcm:cap<=maxLen)(h1:w.cell? ⟨b,1,none⟩=some (.slice (some ⟨g,0,none⟩) l.length cap))
  (hg:w.heap[g]? =some (.cells cur (ρ.t 5) (0,0))) (hcs:cur.size=cap) (hb:∀(j:Nat) (x:UInt8),l[j]? =some x->w.cell? ⟨g,j,none⟩=some (.int .u8 x.toNat)):
  Calls P (ρ.f 169) #[.pointer (some ⟨b,0,none⟩)] w λe w'=>e=.returned (.string ⟨l.toArray⟩)/\Dk g w w':=by
 have hl0:l.length≠0:=by simpa using h0
 have c1:w.drew.cell? ⟨b,1,none⟩=some (.slice (some ⟨g,0,none⟩) l.length cap):=h1
 have hSD:(Builtin.unsafeSliceData_ #[(ρ.t 37)] (ρ.t 127) #[.slice (some ⟨g,0,none⟩) l.length cap]).run P w.drew=.ok (.pointer (some ⟨g,0,none⟩)) w.drew:=
  Lib.run_unsafeSliceData_row _ _ _ _ _ _ (by omega)
 have hUS:(Builtin.unsafeString_ #[(ρ.t 127),(ρ.t 3)] (ρ.t 9) #[.pointer (some ⟨g,0,none⟩),.int .i64 l.length]).run P w.drew=.ok (.string ⟨l.toArray⟩) (w.drew.freeze ⟨g,0,none⟩ l.length):=by
  refine Lib.run_unsafeString_row w.drew (ρ.t 127) (ρ.t 3) (ρ.t 9) (ρ.t 5) L.t127 X.cellsByte g cur.size (by have hg':w.drew.heap[g]? =some (.cells cur (ρ.t 5) (0,0)):=hg;simp[World.shape?,hg']) l h0 (by omega) (by unfold maxLen at hcm;omega) ?_
  intro j x hx
  have:=hb j x hx
  rw[Lib.add_plain]
  rw[vaD]
  exact this
 have mixed:=L.mixed
 have t72:=L.t72;have a72:=L.a72;have z72:=L.z72;have v72:=L.v72;have u72:=run_underlying L.t72
 have t70:=L.t70;have a70:=L.a70;have z70:=L.z70;have v70:=L.v70;have u70:=run_underlying L.t70
 have t37:=L.t37;have a37:=L.a37;have z37:=L.z37;have v37:=L.v37;have u37:=run_underlying L.t37
 have t127:=L.t127;have a127:=L.a127;have z127:=L.z127;have v127:=L.v127;have u127:=run_underlying L.t127
 have t3:=L.t3;have a3:=L.a3;have z3:=L.z3;have v3:=L.v3;have u3:=run_underlying L.t3
 have t9:=L.t9;have a9:=L.a9;have z9:=L.z9;have v9:=L.v9;have u9:=run_underlying L.t9
 have t5:=X.t5;have a5:=X.a5;have z5:=X.z5;have v5:=X.v5;have u5:=run_underlying X.t5
 go_enter L.f169,Body.n169_ntmps ρ
 go_wp2
 go_region_o
 all_goals (go_wp2;go_ret;exact⟨rfl,.freeze g w _⟩)
set_option maxHeartbeats 2000000 in
set_option maxRecDepth 100000 in
theorem Jz(L:Lays.n169 P ρ)(X:Builder.Extra P ρ)(b g:Nat)(v q:Value)(w W:World)(hv:∃ao cap,v=.slice ao 0 cap)(hp:∃q',q=.pointer q')(h1:w.cell? ⟨b,1,none⟩=some v)(h2:W.cell? ⟨b,1,none⟩=some v)(h3:Dk g w W)
  (hSD:(Builtin.unsafeSliceData_ #[(ρ.t 37)] (ρ.t 127) #[v]).run P w.drew=.ok q W):
  Calls P (ρ.f 169) #[.pointer (some ⟨b,0,none⟩)] w λe w'=>e=.returned (.string ⟨#[]⟩)/\Dk g w w':=by
 obtain⟨ao,cap,rfl⟩:=hv
 obtain⟨q',rfl⟩:=hp
 have hUS:=Any.unsafeString_none L X
 have c1:w.drew.cell? ⟨b,1,none⟩=some (.slice ao 0 cap):=h1
 have mixed:=L.mixed
 have t72:=L.t72;have a72:=L.a72;have z72:=L.z72;have v72:=L.v72;have u72:=run_underlying L.t72
 have t70:=L.t70;have a70:=L.a70;have z70:=L.z70;have v70:=L.v70;have u70:=run_underlying L.t70
 have t37:=L.t37;have a37:=L.a37;have z37:=L.z37;have v37:=L.v37;have u37:=run_underlying L.t37
 have t127:=L.t127;have a127:=L.a127;have z127:=L.z127;have v127:=L.v127;have u127:=run_underlying L.t127
 have t3:=L.t3;have a3:=L.a3;have z3:=L.z3;have v3:=L.v3;have u3:=run_underlying L.t3
 have t9:=L.t9;have a9:=L.a9;have z9:=L.z9;have v9:=L.v9;have u9:=run_underlying L.t9
 have t5:=X.t5;have a5:=X.a5;have z5:=X.z5;have v5:=X.v5;have u5:=run_underlying X.t5
 go_enter L.f169,Body.n169_ntmps ρ
 go_wp2
 go_region_o
 all_goals (go_wp2;go_ret;exact⟨rfl,h3⟩)
end
theorem Sp:Lays.n240 Pg Tryz.lays156_ren:={Tryz.lays156 with}
abbrev tC:TypeId:=5
abbrev bx(T:TypeId)(R:List PVal)(l:List Int)(own:List (Nat×TypeId)):ax:=.cells (.nptr 0 T::sl (cI .u8) l::R) own
theorem T5{E:ko}{Γ:aP}{bs:bg}{ow:Nat->Option fR}{w:World}{vs:Array Value}{T:TypeId}{R:List PVal}{l:List Int}(h:SR Pg E Γ bs ow w vs ⟨[.bptr 0 0],[bx T R l [(1,tC)]],[]⟩):∃b c v,vs=#[.pointer (some ⟨b,0,none⟩)]/\bs=[some b]/\Γ b=none/\b<w.heap.size/\w.heap[b]? =some (.cells c T (0,0))/\c.size=R.length+2/\
   (c[0]? =some (.pointer none)\/c[0]? =some (.pointer (some ⟨b,0,none⟩)))/\c[1]? =some v/\VR Γ bs w (sl (cI .u8) l) v/\de Pg Γ w v tC/\∀b',v.ownBlock=some b'->ow b'=some (.box 0 1):=by
 have hsz:vs.size=1:=h.sz
 have hv0:=h.tm 0 _ vs[0] rfl (by simp[hsz])
 generalize hu:vs[0]=u at hv0
 have hvs:vs=#[u]:=by
  refine vcJ (by simp[hsz]) λi hi hi2=>?_
  have:i=0:=by simp at hi2;omega
  subst this
  simpa using hu
 cases hv0 with
 | bptr _ _ b hb =>
  have hbl:bs.length=1:=h.bl
  have hbs:bs=[some b]:=by
   match bs,hbl,hb with
   |[y],_,hb=>simp at hb;rw[hb]
  obtain⟨hg,hlt,c,t,hc,hlen,hcell,hself⟩:=h.bx 0 b _ hb rfl
  obtain⟨rfl,hn⟩:=hself 0 0 T rfl
  have hn:c.size=R.length+2:=hn
  obtain⟨v,k1,k2,k3⟩:=h.ob 0 1 tC _ _ b rfl (by simp) hb
  have k1':c[1]? =some v:=by rw[cell_of_row w b 1 c _ _ hc]at k1;exact k1
  have c0:c[0]? =some c[0]:=by simp[hn]
  have v0:=hcell 0 _ c[0] rfl c0
  generalize c[0]=z at v0 c0
  refine⟨b,c,v,hvs,hbs,hg,hlt,hc,hn,?_,k1',hcell 1 _ v rfl k1',k2,k3⟩
  cases v0 with
  |nptrN _ _=>exact .inl c0
  |nptr _ b2 _ hb2=>
   rw[hb]at hb2
   cases hb2
   exact .inr c0
theorem Ia{T:TypeId}{R:List PVal}(hl:liesAt Pg Pg.depth T ((R.length+2) / Pg.cellsOf T) 0 (Tryz.lays156_ren.t 72) 1=true){x0:List Int}:C Pg GE 85 [.bptr 0 0] [] [bx T R x0 [(1,tC)]] (.tuple []) [] [bx T R x0 [(1,tC)]]:=by
 refine⟨call85,λΓ bs ow w vs hS=>?_⟩
 obtain⟨b,c,v,rfl,rfl,hg,hlt,hc,hn,h0,h1,hv,ho,hob⟩:=T5 hS
 have fin:∀{w'},SR Pg ⟨GE,Γ,w,aR [some b] ow⟩ Γ [some b] ow w' #[.pointer (some ⟨b,0,none⟩)] ⟨[.bptr 0 0],[bx T R x0 [(1,tC)]],[]⟩->SR Pg ⟨GE,Γ,w,aR [some b] ow⟩ Γ [some b] ow w' #[.tuple #[]] ⟨[.tuple []],[bx T R x0 [(1,tC)]],[]⟩:=λh=>{h with
  sz:=rfl
  tm:=λt p v hp hv=>by
   cases t with
   |zero=>simp at hp hv;subst hp;subst hv;exact .tuple [] #[] rfl (λi p v hp _=>by simp at hp)
   |succ t=>simp at hp
  ot:=λt k e he=>by simp at he}
 have hcell:∀j,w.cell? ⟨b,j,none⟩=c[j]?:=λj=>cell_of_row w b j c _ _ hc
 rcases h0 with h0|h0
 ·obtain⟨jj,hj,hjs⟩:=vax.1 (show(Pg.info? (Tryz.lays156_ren.t 72)).map (·.size)=some 2 by kernel_rfl)
  refine(QC Sp b w T (R.length+2) jj hj (by rw[hjs];decide) (by omega) hl ((hcell 0).trans h0) (by simp[World.shape?,hc,hn]) (by simp[World.frozen?,hc])).mono λe w' he=>?_
  obtain⟨rfl,rfl⟩:=he
  have hheap:(w.setCell ⟨b,0,none⟩ (.pointer (some ⟨b,0,none⟩))).heap[b]? =some (.cells (c.setIfInBounds 0 (.pointer (some ⟨b,0,none⟩))) T (0,0)):=by
   show(w.heap.modify b _)[b]? =_
   rw[vba,vaJ rfl,hc]
   rfl
  have hother:∀b',b'≠b->(w.setCell ⟨b,0,none⟩ (.pointer (some ⟨b,0,none⟩))).heap[b']? =w.heap[b']?:=λb' hb'=>by
   show(w.heap.modify b _)[b']? =_
   rw[vba,vaM (Ne.symm hb')]
  have hne:∀{b' n},Γ b'=some n->b'≠b:=λhb e=>by subst e;rw[hg]at hb;cases hb
  have hle:Γ.Le w Γ (w.setCell ⟨b,0,none⟩ (.pointer (some ⟨b,0,none⟩))):=λb' m hb' _=>⟨m,hb',vaj _,λo _=>bj (hother b' (hne hb')) o⟩
  refine⟨_,Γ,ow,rfl,fin ?_⟩
  have hW:=hS.box_write (i:=0) (b:=b) rfl (w':=w.setCell ⟨b,0,none⟩ (.pointer (some ⟨b,0,none⟩))) (B:=bx T R x0 [(1,tC)]) (ow':=ow) rfl rfl rfl (by simp[World.setCell]) hother ?_ (λb' L hL _=>hL) hS.on ?_
  ·exact hW
  ·refine⟨_,T,hheap,by simp[hn],λj p u hp hu=>?_,λj i T' hj=>?_⟩
   ·rw[vaR]at hu
    by_cases hj:0=j
    ·subst hj
     rw[vaJ rfl,vaJ (by omega)]at hu
     cases hu
     cases hp
     exact .nptr 0 b T rfl
    ·rw[vaM hj]at hu
     obtain⟨_,_,c',t',hc',_,hcell',_⟩:=hS.bx 0 b _ rfl rfl
     rw[hc]at hc'
     cases hc'
     exact(hcell' j p u hp hu).mono hle (.refl _)
   ·rw[Array.size_setIfInBounds]
    obtain⟨_,_,c',t',hc',_,_,hself⟩:=hS.bx 0 b _ rfl rfl
    rw[hc]at hc'
    cases hc'
    exact hself j i T' hj
  ·intro cs' own' heq j e hj
   cases heq
   simp only[va5,Prod.mk.injEq]at hj
   obtain⟨rfl,rfl⟩:=hj
   refine⟨v,?_,ho.same λb' hb'=>⟨hother b' ?_,rfl⟩,hob⟩
   ·rw[cell_of_row _ b 1 _ _ _ hheap,vaR,vaM (by omega)]
    exact h1
   ·obtain⟨n,xs,o1,o2⟩:=ho
    exact hne (o2 b' hb')
 ·refine(Any.Builder_copyCheck_used Sp {sizeBuilder:=by kernel_rfl,liesBuilder:=by kernel_rfl} b w ((hcell 0).trans h0)).mono λe w' he=>?_
  obtain⟨rfl,rfl⟩:=he
  exact⟨_,Γ,ow,rfl,fin hS⟩
theorem MK:Builder.Extra Pg Tryz.lays169_ren:={sizeBuilder:=by kernel_rfl,liesBuilder:=by kernel_rfl,t5:=by kernel_rfl,a5:=λw=>by kernel_rfl,z5:=λw=>by kernel_rfl,v5:=λw=>by kernel_rfl,infoByte:=by kernel_rfl,cellsByte:=by kernel_rfl,sizeByte:=by kernel_rfl,neB5:=by decide}
theorem LL:∀{l:List Int} {r:ac},sV l=some r->r.length=l.length/\∀(j:Nat) (x:UInt8),r[j]? =some x->l[j]? =some (x.toNat:Int)
 |[],r,h=>by cases h;exact⟨rfl,λj x hx=>by simp at hx⟩
 | n :: l,r,h => by
  simp only[sV]at h
  split at h
  ·rename_i hn
   cases hb:sV l with
   |none=>rw[hb]at h;cases h
   | some q =>
    rw[hb]at h
    cases h
    obtain⟨h1,h2⟩:=LL hb
    refine⟨by simp[h1],λj x hx=>?_⟩
    cases j with
    |zero=>
     simp at hx ⊢
     subst hx
     rw[UInt8.toNat_ofNat']
     omega
    |succ j=>exact h2 j x (by simpa using hx)
  ·cases h
theorem Cr{Γ:aP}{b g:Nat}{ow:Nat->Option fR}{w w':World}{T:TypeId}{R:List PVal}{l:List Int}{own:List (Nat×TypeId)}{r:ac}(h:SR Pg ⟨GE,Γ,w,aR [some b] ow⟩ Γ [some b] ow w #[.pointer (some ⟨b,0,none⟩)] ⟨[.bptr 0 0],[bx T R l own],[]⟩)(hF:Dk g w w')(hgb:g≠b)(hgo:ow g≠none\/w.heap.size<=g):SR Pg ⟨GE,Γ,w,aR [some b] ow⟩ Γ [some b] (λ_=>none) w' #[.string ⟨r.toArray⟩] ⟨[.str r],[bx T R l []],[]⟩:=by
 have hD:SR Pg ⟨GE,Γ,w,aR [some b] ow⟩ Γ [some b] (λ_=>none) w #[.pointer (some ⟨b,0,none⟩)] ⟨[.bptr 0 0],[bx T R l []],[]⟩:={h with
  bx:=λi b' B hb hB=>by
   cases i with
   |zero=>
    simp at hB
    subst hB
    exact h.bx 0 b' (bx T R l own) hb rfl
   |succ i=>simp at hB
  on:=λb L hL=>by cases hL
  ot:=λt k e he=>by simp at he
  ob:=λi j e cs own' b' hB hj hb=>by
   cases i with
   |zero=>
    simp at hB
    obtain⟨_,rfl⟩:=hB
    cases hj
   |succ i=>simp at hB}
 have hcell:∀b' n,Γ b'=some n->∃c t fr fr',w.heap[b']? =some (.cells c t fr)/\w'.heap[b']? =some (.cells c t fr')/\n<=c.size:=λb' n hb=>by
  obtain⟨c,t,fr,h1,h2⟩:=h.wi b' n hb
  by_cases e:b'=g
  ·subst e
   obtain⟨fr',h3⟩:=hF.here c t fr h1
   exact⟨c,t,fr,fr',h1,h3,h2⟩
  ·exact⟨c,t,fr,fr,h1,(hF.keep b' (vab.1 h1).1 e).trans h1,h2⟩
 have hW:=hD.world (Γ':=Γ) (w':=w') (λb'=>b'=g) (λb' n hb _=>⟨n,hb,vaj _,λo _=>by
   obtain⟨c,t,fr,fr',h1,h2,_⟩:=hcell b' n hb
   simp[World.cell?,h1,h2]⟩) (λb' n hb=>by
   obtain⟨c,t,fr,fr',h1,h2,h3⟩:=hcell b' n hb
   exact⟨c,t,fr',h2,h3⟩) hF.os hF.tape hF.output hF.size (λb' hb hM=>⟨hF.keep b' hb hM,rfl⟩) (λb' hM=>by
   subst hM
   rcases hgo with hgo|hgo
   ·exact .inl (.inr hgo)
   ·exact .inr hgo) (λi b' hb hM=>by
   cases i with
   |zero=>simp at hb;exact hgb (by rw[<-hM,hb])
   |succ i=>simp at hb) (λb' L hL=>by cases hL)
 exact{hW with
  sz:=rfl
  tm:=λt p v hp hv=>by
   cases t with
   |zero=>simp at hp hv;subst hp;subst hv;exact .str r
   |succ t=>simp at hp
  ot:=λt k e he=>by simp at he}
theorem Jy {T:TypeId} {R:List PVal} {x0:List Int} {r:ac} (h:sV x0 = some r):C Pg GE 68 [.bptr 0 0] [] [bx T R x0 [(1,tC)]] (.str r) [] [bx T R x0 []]:=by
  refine⟨call68,λΓ bs ow w vs hS=>?_⟩
  obtain⟨b,c,v,rfl,rfl,hg,hlt,hc,hn,h0,h1,hv,ho,hob⟩:=T5 hS
  have hcell:∀j,w.cell? ⟨b,j,none⟩=c[j]?:=λj=>cell_of_row w b j c _ _ hc
  obtain⟨hlen,hget⟩:=LL h
  have e1:Pg.cellsOf tC=1:=by kernel_rfl
  obtain⟨n,xs,⟨ho1,ho2⟩,ho3⟩:=ho
  rw[e1]at ho1 ho2 ho3
  unfold sl at hv
  generalize hes:x0.map (cI .u8)=es at hv
  rcases ho2 with⟨rfl,rfl⟩|⟨g,cap,cur,rfl,_,hgh,hnc,hcm,hcs,htk⟩
  · have hx:x0 = []:=by
      cases hv with
      |sliceNil=>simpa using hes
    subst hx
    have hr:r=[]:=vag (by simpa using hlen)
    subst hr
    refine(Jz Tryz.lays169 MK b w.heap.size (.slice none 0 0) (.pointer none) w w.drew ⟨_,_,rfl⟩ ⟨_,rfl⟩ ((hcell 1).trans h1) ((hcell 1).trans h1) (.drew _ w) rfl).mono λe w' he=>?_
    obtain⟨rfl,hF⟩:=he
    exact⟨_,Γ,λ_=>none,rfl,Cr (r:=[]) hS hF (by omega) (.inr (vaj _))⟩
  · have hgb:g ≠ b:=fun e => by
      have:=ho3 g rfl
      rw[e,hg]at this
      cases this
    have hgo:ow g≠none:=by rw[hob g rfl];simp
    have hln:x0.length=n:=by
      cases hv with
      | sliceE a cap => have:x0 = []:=by simpa using hes
                        simp[this]
      |slice _ _ _ _ _ _ _ _ _ _ _ _ _ _=>rw[<-hes];simp
    by_cases hz:r=[]
    · subst hz
      have hn0:n=0:=by rw[<-hln,<-hlen];rfl
      subst hn0
      by_cases hc0:cap=0
      · subst hc0
        refine(Jz Tryz.lays169 MK b g (.slice (some ⟨g,0,none⟩) 0 0) (.pointer (some ⟨w.drew.heap.size,0,none⟩)) w (w.drew.alloc (.view ⟨g,0,none⟩ tC)) ⟨_,_,rfl⟩ ⟨_,rfl⟩ ((hcell 1).trans h1) ?_ (.alloc g w _) ?_).mono λe w' he=>?_
        · rw [bj (Lib.alloc_old w.drew _ b hlt) 1]
          exact(hcell 1).trans h1
        ·exact Lib.run_unsafeSliceData_zero w.drew _ _ tC (Tryz.lays169).t127 ⟨g,0,none⟩ 0 (tC,cur.size) (by have hg':w.drew.heap[g]? =some (.cells cur tC (0,0)):=hgh;simp[World.shape?,hg'])
        · obtain ⟨rfl,hF⟩:=he
          exact⟨_,Γ,λ_=>none,rfl,Cr (r:=[]) hS hF hgb (.inl hgo)⟩
      · refine (Jz Tryz.lays169 MK b g (.slice (some ⟨g,0,none⟩) 0 cap) (.pointer (some ⟨g,0,none⟩)) w w.drew ⟨_,_,rfl⟩ ⟨_,rfl⟩ ((hcell 1).trans h1) ((hcell 1).trans h1) (.drew g w) (Lib.run_unsafeSliceData_row _ _ _ _ _ _ hc0)).mono fun e w' he => ?_
        obtain⟨rfl,hF⟩:=he
        exact⟨_,Γ,λ_=>none,rfl,Cr (r:=[]) hS hF hgb (.inl hgo)⟩
    · have hrn:r.length = n:=hlen.trans hln
      have hby:∀(j:Nat) (x:UInt8),r[j]? =some x->w.cell? ⟨g,j,none⟩=some (.int .u8 x.toNat):=λj x hx=>by
        have hlj:=hget j x hx
        cases hv with
        | sliceE a cap =>
          have:x0=[]:=by simpa using hes
          rw[this]at hlj
          cases hlj
        | slice _ _ _ _ n' sz vals q0 q1 q2 q3 q4 q5 q6 =>
          have he:es[j]? =some [.int .u8 (x.toNat:Int)]:=by rw[<-hes,vah,hlj];rfl
          have hsz:sz=1:=(q4 j _ he).symm
          subst hsz
          have k1:=q5 j _ 0 _ he rfl
          have k2:=q6 j _ 0 _ he rfl
          rw[show(0:Nat)+j * 1+0=j by omega]at k1
          rw[k1]
          generalize vals j 0=z at k2
          cases k2
          rfl
      subst hrn
      refine(R1 Tryz.lays169 MK b g cap r cur w hz hnc hcm ((hcell 1).trans h1) hgh (by omega) hby).mono λe w' he=>?_
      obtain⟨rfl,hF⟩:=he
      exact⟨_,Γ,λ_=>none,rfl,Cr hS hF hgb (.inl hgo)⟩
def H9(x0:List Int)(x1:Bool):Option Unit:=some ()
def Jx(x0:List Int)(x1:Bool):Option ac:=sV x0
theorem Jw{x0:List Int}{x1:Bool}{r:Unit}(h:H9 x0 x1=some r):C Pg GE 85 [.bptr 0 0] [] [.cells [.nptr 0 132,sl (cI .u8) x0,.bool x1] [(1,tC)]] (.tuple []) [] [.cells [.nptr 0 132,sl (cI .u8) x0,.bool x1] [(1,tC)]]:=Ia (R:=[.bool x1]) (show liesAt Pg Pg.depth 132 ((([.bool x1]:List PVal).length+2) / Pg.cellsOf 132) 0 (Tryz.lays156_ren.t 72) 1=true by kernel_rfl)
theorem K9{x0:List Int}{x1:Bool}{r:ac}(h:Jx x0 x1=some r):C Pg GE 68 [.bptr 0 0] [] [.cells [.nptr 0 132,sl (cI .u8) x0,.bool x1] [(1,tC)]] (.str r) [] [.cells [.nptr 0 132,sl (cI .u8) x0,.bool x1] []]:=Jy (R:=[.bool x1]) h
def H8(x0:List Int):Option Unit:=some ()
def D8(x0:List Int):Option ac:=sV x0
theorem Jv{x0:List Int}{r:Unit}(h:H8 x0=some r):C Pg GE 85 [.bptr 0 0] [] [.cells [.nptr 0 106,sl (cI .u8) x0] [(1,tC)]] (.tuple []) [] [.cells [.nptr 0 106,sl (cI .u8) x0] [(1,tC)]]:=Ia (R:=[]) (show liesAt Pg Pg.depth 106 ((([]:List PVal).length+2) / Pg.cellsOf 106) 0 (Tryz.lays156_ren.t 72) 1=true by kernel_rfl)
theorem Do{x0:List Int}{r:ac}(h:D8 x0=some r):C Pg GE 68 [.bptr 0 0] [] [.cells [.nptr 0 106,sl (cI .u8) x0] [(1,tC)]] (.str r) [] [.cells [.nptr 0 106,sl (cI .u8) x0] []]:=Jy (R:=[]) h
def P4(l:List ac)(s:ac):Option ac:=if l.length<=1073741824/\(Lib.join l s).length<=1073741824 then some (Lib.join l s)else none
theorem ML:Builder.Extra Pg Tryz.lays156_ren:={sizeBuilder:=by kernel_rfl,liesBuilder:=by kernel_rfl,t5:=by kernel_rfl,a5:=λw=>by kernel_rfl,z5:=λw=>by kernel_rfl,v5:=λw=>by kernel_rfl,infoByte:=by kernel_rfl,cellsByte:=by kernel_rfl,sizeByte:=by kernel_rfl,neB5:=by decide}
theorem Qv.of_below{w w':World}(h:Below w.heap.size w w'):Qv w w':=⟨h.os,h.tape,h.output,h.size,vaj _,λb hb=>h.block b hb⟩
theorem NY{l:List ac}{s r:ac}(h:P4 l s=some r):CC Pg GE 273 [sl cS l,.str s] (.str r) []:=by
 unfold P4 at h
 split at h
 case isFalse=>cases h
 rename_i hl
 cases h
 refine⟨aI (ak eU l)<|aI vzz vzz,call273,λΓ bs ow w vs hS=>?_⟩
 have hsz:vs.size=2:=hS.sz
 have h0:=hS.tm 0 _ vs[0] rfl (by simp[hsz])
 have h1:=hS.tm 1 _ vs[1] rfl (by simp[hsz])
 generalize hu:vs[0]=u at h0
 generalize hu1:vs[1]=u1 at h1
 have hvs:vs=#[u,u1]:=by
  refine vcJ (by simp[hsz]) λi hi hi2=>?_
  have:i=0\/i=1:=by simp at hi2;omega
  rcases this with rfl|rfl
  ·simpa using hu
  ·simpa using hu1
 subst hvs
 cases h1
 have hJ:Calls Pg 273 #[u,.string ⟨s.toArray⟩] w λe w'=>e=.returned (.string ⟨(Lib.join l s).toArray⟩)/\Qv w w':=by
  unfold sl at h0
  generalize hes:l.map cS=es at h0
  cases h0 with
  |sliceNil=>
   have:l=[]:=by simpa using hes
   subst this
   exact(Any.strings_Join_none Tryz.lays156 ML none 0 _ w).mono λe w' he=>⟨he.1,he.2▸.of_below (Below.refl _ _)⟩
  |sliceE a cap=>
   have:l=[]:=by simpa using hes
   subst this
   exact(Any.strings_Join_none Tryz.lays156 ML (some a) cap _ w).mono λe w' he=>⟨he.1,he.2▸.of_below (Below.refl _ _)⟩
  | slice _ b off cap n sz vals q0 q1 q2 q3 q4 q5 q6 =>
   have hm:(l.map λs:ac=>(⟨s.toArray⟩:ByteArray)).map (·.data.toList)=l:=by rw[List.map_map];simp[Function.comp_def]
   have hlen:es.length=(l.map λs:ac=>(⟨s.toArray⟩:ByteArray)).length:=by rw[<-hes];simp
   have hbk:l≠[]->b<w.heap.size:=λ_=>by
    obtain⟨c,t,fr,k1,_⟩:=hS.wi b n q2
    exact(vab.1 k1).1
   by_cases hl0:l=[]
   ·subst hl0
    simp at hes
    subst hes
    exact(Any.strings_Join_none Tryz.lays156 ML _ cap _ w).mono λe w' he=>⟨he.1,he.2▸.of_below (Below.refl _ _)⟩
   have hJ:=Any.strings_Join Tryz.lays156 ML b off cap (l.map λs:ac=>(⟨s.toArray⟩:ByteArray)) ⟨s.toArray⟩ w (λj x hx=>?_) (hbk hl0) (by simp;omega) (by rw[<-hlen];exact q1) (by rw[hm];simp only[];omega)
   ·rw[hm]at hJ
    rw[hlen]
    exact hJ.mono λe w' he=>⟨he.1,.of_below he.2⟩
   ·rw[vah]at hx
    obtain⟨y,hy,rfl⟩:=vax.1 hx
    have he:es[j]? =some [.str y]:=by rw[<-hes,vah,hy];rfl
    have hz:sz=1:=(q4 j _ he).symm
    subst hz
    have k1:=q5 j _ 0 _ he rfl
    have k2:=q6 j _ 0 _ he rfl
    rw[show off+j * 1+0=off+j by omega]at k1
    rw[k1]
    generalize vals j 0=z at k2
    cases k2
    rfl
 refine hJ.mono λe w' he=>?_
 obtain⟨rfl,hg⟩:=he
 have hbl:bs.length=0:=hS.bl
 obtain rfl:bs=[]:=vag hbl
 have hW:=hS.world (Γ':=Γ) (w':=w') (λ_=>False) (λb m hb _=>⟨m,hb,vaj _,λo _=>bj (hg.keep b (hS.lt_of_ghost hb)) o⟩)
  (λb m hb=>by
   obtain⟨c,t,fr,h1,h2⟩:=hS.wi b m hb
   exact⟨c,t,fr,(hg.keep b (hS.lt_of_ghost hb)).trans h1,h2⟩) hg.os hg.tape hg.output hg.size (λb hb _=>⟨hg.keep b hb,rfl⟩) (λ_ hx=>hx.elim) (λ_ _ _ hx=>hx) (λ_ _ _ hx=>hx) hg.drawn
 refine⟨_,Γ,ow,rfl,{hW with
  sz:=rfl
  tm:=λt p v hp hv=>by
   cases t with
   |zero=>simp at hp hv;subst hp;subst hv;exact .str _
   |succ t=>simp at hp
  ot:=λt k e he=>by simp at he}⟩
open Go Go.Proofs.Tryz
set_option maxRecDepth 100000
noncomputable def qey:Code:=f47.body.getD .skip
def qdS:List Nat:=[]
theorem qei:ZF Pg qdS 47 f47 qey:=zf call47 func47 rfl mixed
def PL:Option fQ:=
 some (⟨([]:List ac),([]:List cR),([]:List eT),([]:List bT),(⟨6,([]:ac),([(⟨1,([]:ac),([]:List al),([]:List ac),(⟨0,([]:ac),0,([]:List ag)⟩:ag),([]:List ag)⟩:al),(⟨1,([]:ac),([]:List al),([]:List ac),(⟨0,([]:ac),0,([]:List ag)⟩:ag),([]:List ag)⟩:al)]:List al),([([120]:ac)]:List ac),(⟨0,([]:ac),0,([]:List ag)⟩:ag),([]:List ag)⟩:al),([]:List ag)⟩:fQ)
theorem OI:OV 47 [] PL (λr=>.agg (bZ r)) [(0,9),(1,223),(2,194),(3,197),(13,59)]:=qei.va<|
 tx qct<|tv (bK [([120]:ac)] 1 rfl)<|Mf (JF 1) (JB 1)<|Mf (JF 1) (JB 1)<|tv (dC.mk' (v:=Qo) Rf ([(⟨1,([]:ac),([]:List al),([]:List ac),(⟨0,([]:ac),0,([]:List ag)⟩:ag),([]:List ag)⟩:al),(⟨1,([]:ac),([]:List al),([]:List ac),(⟨0,([]:ac),0,([]:List ag)⟩:ag),([]:List ag)⟩:al)]:List al) 2 (by kernel_rfl))<|Mf (JG 6 ([([120]:ac)]:List ac) ([(⟨1,([]:ac),([]:List al),([]:List ac),(⟨0,([]:ac),0,([]:List ag)⟩:ag),([]:List ag)⟩:al),(⟨1,([]:ac),([]:List al),([]:List ac),(⟨0,([]:ac),0,([]:List ag)⟩:ag),([]:List ag)⟩:al)]:List al)) (JD 6 ([([120]:ac)]:List ac) ([(⟨1,([]:ac),([]:List al),([]:List ac),(⟨0,([]:ac),0,([]:List ag)⟩:ag),([]:List ag)⟩:al),(⟨1,([]:ac),([]:List al),([]:List ac),(⟨0,([]:ac),0,([]:List ag)⟩:ag),([]:List ag)⟩:al)]:List al))<|Mf (QG (⟨6,([]:ac),([(⟨1,([]:ac),([]:List al),([]:List ac),(⟨0,([]:ac),0,([]:List ag)⟩:ag),([]:List ag)⟩:al),(⟨1,([]:ac),([]:List al),([]:List ac),(⟨0,([]:ac),0,([]:List ag)⟩:ag),([]:List ag)⟩:al)]:List al),([([120]:ac)]:List ac),(⟨0,([]:ac),0,([]:List ag)⟩:ag),([]:List ag)⟩:al)) (QE (⟨6,([]:ac),([(⟨1,([]:ac),([]:List al),([]:List ac),(⟨0,([]:ac),0,([]:List ag)⟩:ag),([]:List ag)⟩:al),(⟨1,([]:ac),([]:List al),([]:List ac),(⟨0,([]:ac),0,([]:List ag)⟩:ag),([]:List ag)⟩:al)]:List al),([([120]:ac)]:List ac),(⟨0,([]:ac),0,([]:List ag)⟩:ag),([]:List ag)⟩:al))<|ty (fi (⟨([]:List ac),([]:List cR),([]:List eT),([]:List bT),(⟨6,([]:ac),([(⟨1,([]:ac),([]:List al),([]:List ac),(⟨0,([]:ac),0,([]:List ag)⟩:ag),([]:List ag)⟩:al),(⟨1,([]:ac),([]:List al),([]:List ac),(⟨0,([]:ac),0,([]:List ag)⟩:ag),([]:List ag)⟩:al)]:List al),([([120]:ac)]:List ac),(⟨0,([]:ac),0,([]:List ag)⟩:ag),([]:List ag)⟩:al),([]:List ag)⟩:fQ))<|GV λq=>aI (SO (⟨([]:List ac),([]:List cR),([]:List eT),([]:List bT),(⟨6,([]:ac),([(⟨1,([]:ac),([]:List al),([]:List ac),(⟨0,([]:ac),0,([]:List ag)⟩:ag),([]:List ag)⟩:al),(⟨1,([]:ac),([]:List al),([]:List ac),(⟨0,([]:ac),0,([]:List ag)⟩:ag),([]:List ag)⟩:al)]:List al),([([120]:ac)]:List ac),(⟨0,([]:ac),0,([]:List ag)⟩:ag),([]:List ag)⟩:al),([]:List ag)⟩:fQ)) q.2
noncomputable def qc0:Code:=f27.body.getD .skip
def qdL:List Nat:=[]
theorem qcU:ZF Pg qdL 27 f27 qc0:=zf call27 func27 rfl mixed
section
variable(name:ac)(typed:Bool)(call:ac)(m:waE)(m2:waF)(m3:waD)(m4:waC)(m5:waH)(m6:waI)(m7:waG)(m8:waB)(m9:Int)
def Jt:Option ((Int×ac×Int×waE×waF×waD×waC)):=
 if(!(call==([]:ac)))=true then
  some (5,call,0,([(⟨1,([]:ac),m9,m,m2,m3,m4⟩:am)]:List am),([]:List aU),([]:List ca),([]:List al))
 else
  some (1,([]:ac),m9,m,m2,m3,m4)
theorem K3:OJ 0 (cA qc0 14) (Jt call m m2 m3 m4 m9) .normal (λo=>aM 24 [(0,.str name),(1,.bool typed),(8,.bptr 0 0),(9,.bptr 1 0)] [.cells [.str ([]:ac),sl cS ([]:List ac),.int .i64 0,.str ([]:ac),.int .i64 0,sl aj m,sl aD m2,sl aN m3,sl ai m4,.int .i64 0,.bool false,sl cS ([]:List ac),sl bv m5,sl bP m6,sl aS m7,.int .i64 0,.str ([]:ac),sl ai m4,sl cS ([]:List ac),.int .i64 0,.str ([]:ac),.int .i64 0,sl aa m8,sl aa m8,sl aa m8] [(1,9),(5,50),(6,185),(7,124),(8,61),(11,9),(12,223),(13,194),(14,197),(17,61),(18,9),(22,59),(23,59),(24,59)],.cells [.int .i64 o.1,.str o.2.1,.int .i64 o.2.2.1,sl aj o.2.2.2.1,sl aD o.2.2.2.2.1,sl aN o.2.2.2.2.2.1,sl ai o.2.2.2.2.2.2] [(4,185),(5,124),(6,61)]] []) (aM 24 [(0,.str name),(1,.bool typed),(2,.str call),(8,.bptr 0 0),(9,.bptr 1 0)] [.cells [.str ([]:ac),sl cS ([]:List ac),.int .i64 0,.str ([]:ac),.int .i64 0,sl aj m,sl aD m2,sl aN m3,sl ai m4,.int .i64 0,.bool false,sl cS ([]:List ac),sl bv m5,sl bP m6,sl aS m7,.int .i64 0,.str ([]:ac),sl ai m4,sl cS ([]:List ac),.int .i64 0,.str ([]:ac),.int .i64 0,sl aa m8,sl aa m8,sl aa m8] [(1,9),(5,50),(6,185),(7,124),(8,61),(11,9),(12,223),(13,194),(14,197),(17,61),(18,9),(22,59),(23,59),(24,59)],.cells [.int .i64 1,.str ([]:ac),.int .i64 m9,sl aj m,sl aD m2,sl aN m3,sl ai m4] [(3,50),(4,185),(5,124),(6,61)]] []):=qcU.j<|
 tF (tv (eg (⟨1,([]:ac),m9,m,m2,m3,m4⟩:am) [])<|tv (fU.mk' (v:=Qn) Re ([(⟨1,([]:ac),m9,m,m2,m3,m4⟩:am)]:List am) 1 (by kernel_rfl))<|Mf (JE 5 call ([(⟨1,([]:ac),m9,m,m2,m3,m4⟩:am)]:List am)) (JA 5 call ([(⟨1,([]:ac),m9,m,m2,m3,m4⟩:am)]:List am))<|ty (cy (⟨5,call,0,([(⟨1,([]:ac),m9,m,m2,m3,m4⟩:am)]:List am),([]:List aU),([]:List ca),([]:List al)⟩:am))<|tE)<|tE
end
def rX(name:ac)(typed:Bool)(call:ac)(n:Int):Option bD:=
 (Jt call ([]:List am) ([]:List aU) ([]:List ca) ([]:List al) n).bind λo2=>
 PL.bind λr3=>
 some (⟨name,([([120]:ac)]:List ac),(⟨o2.1,o2.2.1,o2.2.2.1,o2.2.2.2.1,o2.2.2.2.2.1,o2.2.2.2.2.2.1,o2.2.2.2.2.2.2⟩:am),0,typed,r3⟩:bD)
theorem jJ{name:ac}{typed:Bool}{call:ac}{n:Int}:OV 27 [.str name,.bool typed,.str call,.int .i64 n] (rX name typed call n) (λr=>.agg (aQ r)) []:=qcU.v<|
 tb λo2 bo2=>tb λr3 br3=>tx zt<|Mf (Mv 1 n) (Mr 1 n)<|tx Nk<|ty (cy (⟨1,([]:ac),n,([]:List am),([]:List aU),([]:List ca),([]:List al)⟩:am))<|gz 0<|cu (K3 name typed call ([]:List am) ([]:List aU) ([]:List ca) ([]:List al) ([]:List cR) ([]:List eT) ([]:List bT) ([]:List ag) n _ bo2)<|S2 [0,0,0,0,0,31,63]<|tv (bK [([120]:ac)] 1 rfl)<|tv (eg (⟨o2.1,o2.2.1,o2.2.2.1,o2.2.2.2.1,o2.2.2.2.2.1,o2.2.2.2.2.2.1,o2.2.2.2.2.2.2⟩:am) [])<|ck (OI _ br3)<|tv (Fi name ([([120]:ac)]:List ac) (⟨o2.1,o2.2.1,o2.2.2.1,o2.2.2.2.1,o2.2.2.2.2.1,o2.2.2.2.2.2.1,o2.2.2.2.2.2.2⟩:am) typed r3)<|tx (dQ (⟨name,([([120]:ac)]:List ac),(⟨o2.1,o2.2.1,o2.2.2.1,o2.2.2.2.1,o2.2.2.2.2.1,o2.2.2.2.2.2.1,o2.2.2.2.2.2.2⟩:am),0,typed,r3⟩:bD))<|GV λq=>aI (KD (⟨name,([([120]:ac)]:List ac),(⟨o2.1,o2.2.1,o2.2.2.1,o2.2.2.2.1,o2.2.2.2.2.1,o2.2.2.2.2.2.1,o2.2.2.2.2.2.2⟩:am),0,typed,r3⟩:bD)) q.2
noncomputable def qbi:Code:=f20.body.getD .skip
def qdI:List Nat:=[]
theorem qcS:ZF Pg qdI 20 f20 qbi:=zf call20 func20 rfl mixed
section
variable(s:ac)(v:Int)(i:Int)
def qm:ay:=aM 20 [(0,.str s),(3,.int .u32 v),(4,.int .i64 i)] [] []
def zF(o:Int):ay:=aM 20 [(3,.int .u32 o)] [] []
def iA:Option ((Int×Int)⊕(Int)):=
 if decide (i<(s.length:Int))=true then
  (uD s i).bind λc2=>
  some (.inl (IntKind.u32.wrap ((NX .u32 v (IntKind.u32.wrap c2)) * 16777619),fh (i+1)))
 else
  some (.inr v)
def pF:Option Int:=loop (λ(zz:Int×Int)=>iA s zz.1 zz.2) (v,i)
theorem Fl:OL 0 (cA qbi 119) (iA s v i) (λ(zz:Int×Int)=>qm s zz.1 zz.2) (λ_=>.exit 0) zF (qm s v i):=qcS.l<|
 cb (wr underlying9 s)<|tF (tb λc2 bc2=>tv (nx (k:=.i64) underlying9 bc2)<|tv (qbY underlying5 underlying78 c2)<|tE)<|tE
theorem Hl:OJ 0 (.loop (cA qbi 119)) (pF s v i) (.exit 0) zF (qm s v i):=sQ λ_=>Fl _ _ _
end
def lV(s:ac):Option Int:=
 (pF s 2166136261 0).bind λo3=>
 some (IntKind.i64.wrap o3)
theorem kV{s:ac}:OV 20 [.str s] (lV s) (λr=>.int .i64 r) []:=qcS.v<|
 tb λo3 bo3=>cu (Hl s 2166136261 0 _ bo3)<|tv (qbY underlying78 underlying3 o3)<|tE
noncomputable def qbK:Code:=f28.body.getD .skip
def qdM:List Nat:=[]
theorem qcV:ZF Pg qdM 28 f28 qbK:=zf call28 func28 rfl mixed
section
variable(name:ac)(t9:waJ)(t10:Int)(t11:Int)(m:ac)(m2:waA)(m3:Int)(m4:ac)(m5:Int)(m6:waE)(m7:waF)(m8:waD)(m9:waC)(m10:Int)(m11:Bool)(m12:waA)(m13:waH)(m14:waI)(m15:waG)(m16:Int)(m17:ac)(m18:waC)(m19:waA)(m20:Int)(m21:ac)(m22:Int)(m23:waB)(m24:waB)(m25:waB)
def lS:ay:=aM 22 [(1,.str name),(4,.bptr 1 0),(9,sl aQ t9),(10,.int .i64 t10),(11,.int .i64 t11)] [.dead,.cells [.str m,sl cS m2,.int .i64 m3,.str m4,.int .i64 m5,sl aj m6,sl aD m7,sl aN m8,sl ai m9,.int .i64 m10,.bool m11,sl cS m12,sl bv m13,sl bP m14,sl aS m15,.int .i64 m16,.str m17,sl ai m18,sl cS m19,.int .i64 m20,.str m21,.int .i64 m22,sl aa m23,sl aa m24,sl aa m25] [(1,9),(5,50),(6,185),(7,124),(8,61),(11,9),(12,223),(13,194),(14,197),(17,61),(18,9),(22,59),(23,59),(24,59)]] []
def Am(o:(ac×waA×Int×ac×Int×waE×waF×waD×waC×Int×Bool×waA×waH×waI×waG×Int×ac×waC×waA×Int×ac×Int×waB×waB×waB)⊕(ac×waA×Int×ac×Int×waE×waF×waD×waC×Int×Bool×waA×waH×waI×waG×Int×ac×waC×waA×Int×ac×Int×waB×waB×waB)):Exit:=match o with
 |(.inl _)=>.ret
 |(.inr _)=>.exit 0
def qL(o:(ac×waA×Int×ac×Int×waE×waF×waD×waC×Int×Bool×waA×waH×waI×waG×Int×ac×waC×waA×Int×ac×Int×waB×waB×waB)⊕(ac×waA×Int×ac×Int×waE×waF×waD×waC×Int×Bool×waA×waH×waI×waG×Int×ac×waC×waA×Int×ac×Int×waB×waB×waB)):ay:=match o with
 |(.inl o)=>aM 22 [(4,.bptr 1 0),(5,.bool true)] [.dead,.cells [.str o.1,sl cS o.2.1,.int .i64 o.2.2.1,.str o.2.2.2.1,.int .i64 o.2.2.2.2.1,sl aj o.2.2.2.2.2.1,sl aD o.2.2.2.2.2.2.1,sl aN o.2.2.2.2.2.2.2.1,sl ai o.2.2.2.2.2.2.2.2.1,.int .i64 o.2.2.2.2.2.2.2.2.2.1,.bool o.2.2.2.2.2.2.2.2.2.2.1,sl cS o.2.2.2.2.2.2.2.2.2.2.2.1,sl bv o.2.2.2.2.2.2.2.2.2.2.2.2.1,sl bP o.2.2.2.2.2.2.2.2.2.2.2.2.2.1,sl aS o.2.2.2.2.2.2.2.2.2.2.2.2.2.2.1,.int .i64 o.2.2.2.2.2.2.2.2.2.2.2.2.2.2.2.1,.str o.2.2.2.2.2.2.2.2.2.2.2.2.2.2.2.2.1,sl ai o.2.2.2.2.2.2.2.2.2.2.2.2.2.2.2.2.2.1,sl cS o.2.2.2.2.2.2.2.2.2.2.2.2.2.2.2.2.2.2.1,.int .i64 o.2.2.2.2.2.2.2.2.2.2.2.2.2.2.2.2.2.2.2.1,.str o.2.2.2.2.2.2.2.2.2.2.2.2.2.2.2.2.2.2.2.2.1,.int .i64 o.2.2.2.2.2.2.2.2.2.2.2.2.2.2.2.2.2.2.2.2.2.1,sl aa o.2.2.2.2.2.2.2.2.2.2.2.2.2.2.2.2.2.2.2.2.2.2.1,sl aa o.2.2.2.2.2.2.2.2.2.2.2.2.2.2.2.2.2.2.2.2.2.2.2.1,sl aa o.2.2.2.2.2.2.2.2.2.2.2.2.2.2.2.2.2.2.2.2.2.2.2.2] []] []
 |(.inr o)=>aM 22 [(4,.bptr 1 0)] [.dead,.cells [.str o.1,sl cS o.2.1,.int .i64 o.2.2.1,.str o.2.2.2.1,.int .i64 o.2.2.2.2.1,sl aj o.2.2.2.2.2.1,sl aD o.2.2.2.2.2.2.1,sl aN o.2.2.2.2.2.2.2.1,sl ai o.2.2.2.2.2.2.2.2.1,.int .i64 o.2.2.2.2.2.2.2.2.2.1,.bool o.2.2.2.2.2.2.2.2.2.2.1,sl cS o.2.2.2.2.2.2.2.2.2.2.2.1,sl bv o.2.2.2.2.2.2.2.2.2.2.2.2.1,sl bP o.2.2.2.2.2.2.2.2.2.2.2.2.2.1,sl aS o.2.2.2.2.2.2.2.2.2.2.2.2.2.2.1,.int .i64 o.2.2.2.2.2.2.2.2.2.2.2.2.2.2.2.1,.str o.2.2.2.2.2.2.2.2.2.2.2.2.2.2.2.2.1,sl ai o.2.2.2.2.2.2.2.2.2.2.2.2.2.2.2.2.2.1,sl cS o.2.2.2.2.2.2.2.2.2.2.2.2.2.2.2.2.2.2.1,.int .i64 o.2.2.2.2.2.2.2.2.2.2.2.2.2.2.2.2.2.2.2.1,.str o.2.2.2.2.2.2.2.2.2.2.2.2.2.2.2.2.2.2.2.2.1,.int .i64 o.2.2.2.2.2.2.2.2.2.2.2.2.2.2.2.2.2.2.2.2.2.1,sl aa o.2.2.2.2.2.2.2.2.2.2.2.2.2.2.2.2.2.2.2.2.2.2.1,sl aa o.2.2.2.2.2.2.2.2.2.2.2.2.2.2.2.2.2.2.2.2.2.2.2.1,sl aa o.2.2.2.2.2.2.2.2.2.2.2.2.2.2.2.2.2.2.2.2.2.2.2.2] [(1,9),(5,50),(6,185),(7,124),(8,61),(11,9),(12,223),(13,194),(14,197),(17,61),(18,9),(22,59),(23,59),(24,59)]] []
instance iS_syntax_Def_L1:KS 0 (lS name t9 t10 t11 m m2 m3 m4 m5 m6 m7 m8 m9 m10 m11 m12 m13 m14 m15 m16 m17 m18 m19 m20 m21 m22 m23 m24 m25):=⟨rfl,(bk (aI vzz (aI (bH rfl) (aI (up (ak fZ t9)) (aI vzz (aI vzz vzz)))))),(aI vzz (aI (aI vzz (aI (up (ak eU m2)) (aI vzz (aI vzz (aI vzz (aI (up (ak b7 m6)) (aI (up (ak dh m7)) (aI (up (ak dy m8)) (aI (up (ak bE m9)) (aI vzz (aI vzz (aI (up (ak eU m12)) (aI (up (ak ff m13)) (aI (up (ak jb m14)) (aI (up (ak eA m15)) (aI vzz (aI vzz (aI (up (ak bE m18)) (aI (up (ak eU m19)) (aI vzz (aI vzz (aI vzz (aI (up (ak aJ m23)) (aI (up (ak aJ m24)) (aI (up (ak aJ m25)) trivial))))))))))))))))))))))))) trivial))⟩
instance iO_syntax_Def_L1{o:(ac×waA×Int×ac×Int×waE×waF×waD×waC×Int×Bool×waA×waH×waI×waG×Int×ac×waC×waA×Int×ac×Int×waB×waB×waB)⊕(ac×waA×Int×ac×Int×waE×waF×waD×waC×Int×Bool×waA×waH×waI×waG×Int×ac×waC×waA×Int×ac×Int×waB×waB×waB)}:KS 0 (qL o):=match o with
 |(.inl o)=>⟨rfl,(bk (aI (bH rfl) (aI vzz vzz))),(aI vzz (aI (aI vzz (aI (up (ak eU o.2.1)) (aI vzz (aI vzz (aI vzz (aI (up (ak b7 o.2.2.2.2.2.1)) (aI (up (ak dh o.2.2.2.2.2.2.1)) (aI (up (ak dy o.2.2.2.2.2.2.2.1)) (aI (up (ak bE o.2.2.2.2.2.2.2.2.1)) (aI vzz (aI vzz (aI (up (ak eU o.2.2.2.2.2.2.2.2.2.2.2.1)) (aI (up (ak ff o.2.2.2.2.2.2.2.2.2.2.2.2.1)) (aI (up (ak jb o.2.2.2.2.2.2.2.2.2.2.2.2.2.1)) (aI (up (ak eA o.2.2.2.2.2.2.2.2.2.2.2.2.2.2.1)) (aI vzz (aI vzz (aI (up (ak bE o.2.2.2.2.2.2.2.2.2.2.2.2.2.2.2.2.2.1)) (aI (up (ak eU o.2.2.2.2.2.2.2.2.2.2.2.2.2.2.2.2.2.2.1)) (aI vzz (aI vzz (aI vzz (aI (up (ak aJ o.2.2.2.2.2.2.2.2.2.2.2.2.2.2.2.2.2.2.2.2.2.2.1)) (aI (up (ak aJ o.2.2.2.2.2.2.2.2.2.2.2.2.2.2.2.2.2.2.2.2.2.2.2.1)) (aI (up (ak aJ o.2.2.2.2.2.2.2.2.2.2.2.2.2.2.2.2.2.2.2.2.2.2.2.2)) trivial))))))))))))))))))))))))) trivial))⟩
 |(.inr o)=>⟨rfl,(bk (aI (bH rfl) trivial)),(aI vzz (aI (aI vzz (aI (up (ak eU o.2.1)) (aI vzz (aI vzz (aI vzz (aI (up (ak b7 o.2.2.2.2.2.1)) (aI (up (ak dh o.2.2.2.2.2.2.1)) (aI (up (ak dy o.2.2.2.2.2.2.2.1)) (aI (up (ak bE o.2.2.2.2.2.2.2.2.1)) (aI vzz (aI vzz (aI (up (ak eU o.2.2.2.2.2.2.2.2.2.2.2.1)) (aI (up (ak ff o.2.2.2.2.2.2.2.2.2.2.2.2.1)) (aI (up (ak jb o.2.2.2.2.2.2.2.2.2.2.2.2.2.1)) (aI (up (ak eA o.2.2.2.2.2.2.2.2.2.2.2.2.2.2.1)) (aI vzz (aI vzz (aI (up (ak bE o.2.2.2.2.2.2.2.2.2.2.2.2.2.2.2.2.2.1)) (aI (up (ak eU o.2.2.2.2.2.2.2.2.2.2.2.2.2.2.2.2.2.2.1)) (aI vzz (aI vzz (aI vzz (aI (up (ak aJ o.2.2.2.2.2.2.2.2.2.2.2.2.2.2.2.2.2.2.2.2.2.2.1)) (aI (up (ak aJ o.2.2.2.2.2.2.2.2.2.2.2.2.2.2.2.2.2.2.2.2.2.2.2.1)) (aI (up (ak aJ o.2.2.2.2.2.2.2.2.2.2.2.2.2.2.2.2.2.2.2.2.2.2.2.2)) trivial))))))))))))))))))))))))) trivial))⟩
def Al:Option ((Int×ac×waA×Int×ac×Int×waE×waF×waD×waC×Int×Bool×waA×waH×waI×waG×Int×ac×waC×waA×Int×ac×Int×waB×waB×waB)⊕((ac×waA×Int×ac×Int×waE×waF×waD×waC×Int×Bool×waA×waH×waI×waG×Int×ac×waC×waA×Int×ac×Int×waB×waB×waB)⊕(ac×waA×Int×ac×Int×waE×waF×waD×waC×Int×Bool×waA×waH×waI×waG×Int×ac×waC×waA×Int×ac×Int×waB×waB×waB))):=
 if decide (t11<t10)=true then
  (dw t9 t11).bind λx2=>
  if(x2.Name==name)=true then
   some (.inr (.inl (x2.Name,x2.Params,x2.Body.Op,x2.Body.Name,x2.Body.N,x2.Body.Kids,x2.Body.Params,x2.Body.Alts,x2.Body.Types,x2.Mode,x2.Typed,x2.Sig.Vars,x2.Sig.Needs,x2.Sig.Abs,x2.Sig.Bounds,x2.Sig.Type_.Op,x2.Sig.Type_.Name,x2.Sig.Type_.Args,x2.Sig.Type_.Names,x2.Sig.Type_.Pred.Op,x2.Sig.Type_.Pred.Name,x2.Sig.Type_.Pred.N,x2.Sig.Type_.Pred.Kids,x2.Sig.Type_.Preds,x2.Sig.Metric)))
  else
   some (.inl (fh (t11+1),m,m2,m3,m4,m5,m6,m7,m8,m9,m10,m11,m12,m13,m14,m15,m16,m17,m18,m19,m20,m21,m22,m23,m24,m25))
 else
  some (.inr (.inr (m,m2,m3,m4,m5,m6,m7,m8,m9,m10,m11,m12,m13,m14,m15,m16,m17,m18,m19,m20,m21,m22,m23,m24,m25)))
def DP:Option ((ac×waA×Int×ac×Int×waE×waF×waD×waC×Int×Bool×waA×waH×waI×waG×Int×ac×waC×waA×Int×ac×Int×waB×waB×waB)⊕(ac×waA×Int×ac×Int×waE×waF×waD×waC×Int×Bool×waA×waH×waI×waG×Int×ac×waC×waA×Int×ac×Int×waB×waB×waB)):=loop (λ(zz:Int×ac×waA×Int×ac×Int×waE×waF×waD×waC×Int×Bool×waA×waH×waI×waG×Int×ac×waC×waA×Int×ac×Int×waB×waB×waB)=>Al name t9 t10 zz.1 zz.2.1 zz.2.2.1 zz.2.2.2.1 zz.2.2.2.2.1 zz.2.2.2.2.2.1 zz.2.2.2.2.2.2.1 zz.2.2.2.2.2.2.2.1 zz.2.2.2.2.2.2.2.2.1 zz.2.2.2.2.2.2.2.2.2.1 zz.2.2.2.2.2.2.2.2.2.2.1 zz.2.2.2.2.2.2.2.2.2.2.2.1 zz.2.2.2.2.2.2.2.2.2.2.2.2.1 zz.2.2.2.2.2.2.2.2.2.2.2.2.2.1 zz.2.2.2.2.2.2.2.2.2.2.2.2.2.2.1 zz.2.2.2.2.2.2.2.2.2.2.2.2.2.2.2.1 zz.2.2.2.2.2.2.2.2.2.2.2.2.2.2.2.2.1 zz.2.2.2.2.2.2.2.2.2.2.2.2.2.2.2.2.2.1 zz.2.2.2.2.2.2.2.2.2.2.2.2.2.2.2.2.2.2.1 zz.2.2.2.2.2.2.2.2.2.2.2.2.2.2.2.2.2.2.2.1 zz.2.2.2.2.2.2.2.2.2.2.2.2.2.2.2.2.2.2.2.2.1 zz.2.2.2.2.2.2.2.2.2.2.2.2.2.2.2.2.2.2.2.2.2.1 zz.2.2.2.2.2.2.2.2.2.2.2.2.2.2.2.2.2.2.2.2.2.2.1 zz.2.2.2.2.2.2.2.2.2.2.2.2.2.2.2.2.2.2.2.2.2.2.2.1 zz.2.2.2.2.2.2.2.2.2.2.2.2.2.2.2.2.2.2.2.2.2.2.2.2.1 zz.2.2.2.2.2.2.2.2.2.2.2.2.2.2.2.2.2.2.2.2.2.2.2.2.2) (t11,m,m2,m3,m4,m5,m6,m7,m8,m9,m10,m11,m12,m13,m14,m15,m16,m17,m18,m19,m20,m21,m22,m23,m24,m25)
theorem GK:OL 0 (cA qbK 55) (Al name t9 t10 t11 m m2 m3 m4 m5 m6 m7 m8 m9 m10 m11 m12 m13 m14 m15 m16 m17 m18 m19 m20 m21 m22 m23 m24 m25) (λ(zz:Int×ac×waA×Int×ac×Int×waE×waF×waD×waC×Int×Bool×waA×waH×waI×waG×Int×ac×waC×waA×Int×ac×Int×waB×waB×waB)=>lS name t9 t10 zz.1 zz.2.1 zz.2.2.1 zz.2.2.2.1 zz.2.2.2.2.1 zz.2.2.2.2.2.1 zz.2.2.2.2.2.2.1 zz.2.2.2.2.2.2.2.1 zz.2.2.2.2.2.2.2.2.1 zz.2.2.2.2.2.2.2.2.2.1 zz.2.2.2.2.2.2.2.2.2.2.1 zz.2.2.2.2.2.2.2.2.2.2.2.1 zz.2.2.2.2.2.2.2.2.2.2.2.2.1 zz.2.2.2.2.2.2.2.2.2.2.2.2.2.1 zz.2.2.2.2.2.2.2.2.2.2.2.2.2.2.1 zz.2.2.2.2.2.2.2.2.2.2.2.2.2.2.2.1 zz.2.2.2.2.2.2.2.2.2.2.2.2.2.2.2.2.1 zz.2.2.2.2.2.2.2.2.2.2.2.2.2.2.2.2.2.1 zz.2.2.2.2.2.2.2.2.2.2.2.2.2.2.2.2.2.2.1 zz.2.2.2.2.2.2.2.2.2.2.2.2.2.2.2.2.2.2.2.1 zz.2.2.2.2.2.2.2.2.2.2.2.2.2.2.2.2.2.2.2.2.1 zz.2.2.2.2.2.2.2.2.2.2.2.2.2.2.2.2.2.2.2.2.2.1 zz.2.2.2.2.2.2.2.2.2.2.2.2.2.2.2.2.2.2.2.2.2.2.1 zz.2.2.2.2.2.2.2.2.2.2.2.2.2.2.2.2.2.2.2.2.2.2.2.1 zz.2.2.2.2.2.2.2.2.2.2.2.2.2.2.2.2.2.2.2.2.2.2.2.2.1 zz.2.2.2.2.2.2.2.2.2.2.2.2.2.2.2.2.2.2.2.2.2.2.2.2.2) Am qL (lS name t9 t10 t11 m m2 m3 m4 m5 m6 m7 m8 m9 m10 m11 m12 m13 m14 m15 m16 m17 m18 m19 m20 m21 m22 m23 m24 m25):=qcV.lx<|
 tF (tb λx2 bx2=>tv (AV.ia (k:=.i64) bx2)<|tv (vS x2)<|tx zt<|tx (dQ x2)<|ts<|tF (tv (mY x2 [])<|tx (dQ x2)<|tE)<|tE)<|tE
theorem ye:OK 0 (.loop (cA qbK 55)) (DP name t9 t10 t11 m m2 m3 m4 m5 m6 m7 m8 m9 m10 m11 m12 m13 m14 m15 m16 m17 m18 m19 m20 m21 m22 m23 m24 m25) Am qL (lS name t9 t10 t11 m m2 m3 m4 m5 m6 m7 m8 m9 m10 m11 m12 m13 m14 m15 m16 m17 m18 m19 m20 m21 m22 m23 m24 m25):=HK λ_=>GK _ _ _ _ _ _ _ _ _ _ _ _ _ _ _ _ _ _ _ _ _ _ _ _ _ _ _ _ _
end
def ed(m:aw)(name:ac):Option (bD×Bool):=
 (DP name m.Defs (m.Defs.length:Int) 0 ([]:ac) ([]:List ac) 0 ([]:ac) 0 ([]:List am) ([]:List aU) ([]:List ca) ([]:List al) 0 false ([]:List ac) ([]:List cR) ([]:List eT) ([]:List bT) 0 ([]:ac) ([]:List al) ([]:List ac) 0 ([]:ac) 0 ([]:List ag) ([]:List ag) ([]:List ag)).bind λo4=>match o4 with
 |(.inl o4)=>
  some ((⟨o4.1,o4.2.1,(⟨o4.2.2.1,o4.2.2.2.1,o4.2.2.2.2.1,o4.2.2.2.2.2.1,o4.2.2.2.2.2.2.1,o4.2.2.2.2.2.2.2.1,o4.2.2.2.2.2.2.2.2.1⟩:am),o4.2.2.2.2.2.2.2.2.2.1,o4.2.2.2.2.2.2.2.2.2.2.1,(⟨o4.2.2.2.2.2.2.2.2.2.2.2.1,o4.2.2.2.2.2.2.2.2.2.2.2.2.1,o4.2.2.2.2.2.2.2.2.2.2.2.2.2.1,o4.2.2.2.2.2.2.2.2.2.2.2.2.2.2.1,(⟨o4.2.2.2.2.2.2.2.2.2.2.2.2.2.2.2.1,o4.2.2.2.2.2.2.2.2.2.2.2.2.2.2.2.2.1,o4.2.2.2.2.2.2.2.2.2.2.2.2.2.2.2.2.2.1,o4.2.2.2.2.2.2.2.2.2.2.2.2.2.2.2.2.2.2.1,(⟨o4.2.2.2.2.2.2.2.2.2.2.2.2.2.2.2.2.2.2.2.1,o4.2.2.2.2.2.2.2.2.2.2.2.2.2.2.2.2.2.2.2.2.1,o4.2.2.2.2.2.2.2.2.2.2.2.2.2.2.2.2.2.2.2.2.2.1,o4.2.2.2.2.2.2.2.2.2.2.2.2.2.2.2.2.2.2.2.2.2.2.1⟩:ag),o4.2.2.2.2.2.2.2.2.2.2.2.2.2.2.2.2.2.2.2.2.2.2.2.1⟩:al),o4.2.2.2.2.2.2.2.2.2.2.2.2.2.2.2.2.2.2.2.2.2.2.2.2⟩:fQ)⟩:bD),true)
 |(.inr o4)=>
  some ((⟨([]:ac),([]:List ac),(⟨0,([]:ac),0,([]:List am),([]:List aU),([]:List ca),([]:List al)⟩:am),0,false,(⟨([]:List ac),([]:List cR),([]:List eT),([]:List bT),(⟨0,([]:ac),([]:List al),([]:List ac),(⟨0,([]:ac),0,([]:List ag)⟩:ag),([]:List ag)⟩:al),([]:List ag)⟩:fQ)⟩:bD),false)
theorem dp{m:aw}{name:ac}:OV 28 [.agg (aq m),.str name] (ed m name) (λr=>.tuple [.agg (aQ r.1),.bool r.2]) []:=qcV.v<|
 te (dM m)<|tx zt<|tw (f8 m)<|cb (AV.ln m.Defs)<|t2 (λo4 bo4=>cu (ye name m.Defs (m.Defs.length:Int) 0 ([]:ac) ([]:List ac) 0 ([]:ac) 0 ([]:List am) ([]:List aU) ([]:List ca) ([]:List al) 0 false ([]:List ac) ([]:List cR) ([]:List eT) ([]:List bT) 0 ([]:ac) ([]:List al) ([]:List ac) 0 ([]:ac) 0 ([]:List ag) ([]:List ag) ([]:List ag) _ bo4)<|GV λq=>aI (vaS PVal.tuple (cP (KD (⟨o4.1,o4.2.1,(⟨o4.2.2.1,o4.2.2.2.1,o4.2.2.2.2.1,o4.2.2.2.2.2.1,o4.2.2.2.2.2.2.1,o4.2.2.2.2.2.2.2.1,o4.2.2.2.2.2.2.2.2.1⟩:am),o4.2.2.2.2.2.2.2.2.2.1,o4.2.2.2.2.2.2.2.2.2.2.1,(⟨o4.2.2.2.2.2.2.2.2.2.2.2.1,o4.2.2.2.2.2.2.2.2.2.2.2.2.1,o4.2.2.2.2.2.2.2.2.2.2.2.2.2.1,o4.2.2.2.2.2.2.2.2.2.2.2.2.2.2.1,(⟨o4.2.2.2.2.2.2.2.2.2.2.2.2.2.2.2.1,o4.2.2.2.2.2.2.2.2.2.2.2.2.2.2.2.2.1,o4.2.2.2.2.2.2.2.2.2.2.2.2.2.2.2.2.2.1,o4.2.2.2.2.2.2.2.2.2.2.2.2.2.2.2.2.2.2.1,(⟨o4.2.2.2.2.2.2.2.2.2.2.2.2.2.2.2.2.2.2.2.1,o4.2.2.2.2.2.2.2.2.2.2.2.2.2.2.2.2.2.2.2.2.1,o4.2.2.2.2.2.2.2.2.2.2.2.2.2.2.2.2.2.2.2.2.2.1,o4.2.2.2.2.2.2.2.2.2.2.2.2.2.2.2.2.2.2.2.2.2.2.1⟩:ag),o4.2.2.2.2.2.2.2.2.2.2.2.2.2.2.2.2.2.2.2.2.2.2.2.1⟩:al),o4.2.2.2.2.2.2.2.2.2.2.2.2.2.2.2.2.2.2.2.2.2.2.2.2⟩:fQ)⟩:bD)) (cP (rP (.bool true)) (rfl:([]:List PVal)=[])))) q.2) λo4 bo4=>cu (ye name m.Defs (m.Defs.length:Int) 0 ([]:ac) ([]:List ac) 0 ([]:ac) 0 ([]:List am) ([]:List aU) ([]:List ca) ([]:List al) 0 false ([]:List ac) ([]:List cR) ([]:List eT) ([]:List bT) 0 ([]:ac) ([]:List al) ([]:List ac) 0 ([]:ac) 0 ([]:List ag) ([]:List ag) ([]:List ag) _ bo4)<|Mf (QF) (QD)<|ty (dD (⟨([]:ac),([]:List ac),(⟨0,([]:ac),0,([]:List am),([]:List aU),([]:List ca),([]:List al)⟩:am),0,false,(⟨([]:List ac),([]:List cR),([]:List eT),([]:List bT),(⟨0,([]:ac),([]:List al),([]:List ac),(⟨0,([]:ac),0,([]:List ag)⟩:ag),([]:List ag)⟩:al),([]:List ag)⟩:fQ)⟩:bD))<|GV λq=>aI (vaS PVal.tuple (cP (KD (⟨([]:ac),([]:List ac),(⟨0,([]:ac),0,([]:List am),([]:List aU),([]:List ca),([]:List al)⟩:am),0,false,(⟨([]:List ac),([]:List cR),([]:List eT),([]:List bT),(⟨0,([]:ac),([]:List al),([]:List ac),(⟨0,([]:ac),0,([]:List ag)⟩:ag),([]:List ag)⟩:al),([]:List ag)⟩:fQ)⟩:bD)) (cP (rP (.bool false)) (rfl:([]:List PVal)=[])))) q.2
noncomputable def qeC:Code:=f67.body.getD .skip
def qd0:List Nat:=[12]
theorem qcY:ZF Pg qd0 67 f67 qeC:=zf call67 func67 rfl mixed
def jx(s:ac)(k0:(List Int))(k02:Bool):Option (Int×Unit×(List Int)):=
 (H9 k0 k02).bind λr1=>
 (Te k0 s).bind λl2=>
 some ((s.length:Int),(),l2)
theorem pw{s:ac}{k0:(List Int)}{k02:Bool}:OG 67 [.bptr 0 0,.str s] [] [.cells [.nptr 0 132,sl (cI .u8) k0,.bool k02] [(1,5)]] (jx s k0 k02) (λr=>.tuple [.int .i64 r.1,.val .nilIface]) [] (λr=>[.cells [.nptr 0 132,sl (cI .u8) r.2.2,.bool k02] [(1,5)]]):=qcY.g 1<|
 tb λr1 br1=>tb λl2 bl2=>tc [0] (Jw br1)<|ti (.z [sl (cI .u8) l2]) (PM SP underlying9 (by kernel_rfl) (by kernel_rfl) (by kernel_rfl) bl2)<|cb (wr underlying9 s)<|tE
noncomputable def UO:Code:=f103.body.getD .skip
def X7:List Nat:=[]
theorem Wg:ZF Pg X7 103 f103 UO:=zf call103 func103 rfl mixed
section
variable(t6:waA)(t7:Int)(m2:Bool)(t8:Int)(m:(List Int))
def iV:ay:=aM 18 [(0,.bptr 0 0),(6,sl cS t6),(7,.int .i64 t7),(8,.int .i64 t8)] [.cells [.nptr 0 132,sl (cI .u8) m,.bool m2] [(1,5)]] []
def oE(o:(List Int)):ay:=aM 18 [] [.cells [.nptr 0 132,sl (cI .u8) o,.bool m2] [(1,5)]] []
def oC:Option ((Int×(List Int))⊕(((List Int)))):=
 if decide (t8<t7)=true then
  (dw t6 t8).bind λx2=>
  (jx x2 m m2).bind λr3=>
  some (.inl (fh (t8+1),r3.2.2))
 else
  some (.inr m)
def rx:Option (((List Int))):=loop (λ(zz:Int×(List Int))=>oC t6 t7 m2 zz.1 zz.2) (t8,m)
theorem xQ:OL 1 (cA UO 15) (oC t6 t7 m2 t8 m) (λ(zz:Int×(List Int))=>iV t6 t7 m2 zz.1 zz.2) (λ_=>.exit 0) (oE m2) (iV t6 t7 m2 t8 m):=Wg.l<|
 tF (tb λx2 bx2=>tb λr3 br3=>tv (cz.ia (k:=.i64) bx2)<|tv (cH Iw (.str x2) [])<|tc [0] (pw _ br3)<|tE)<|tE
theorem zd:OJ 1 (.loop (cA UO 15)) (rx t6 t7 m2 t8 m) (.exit 0) (oE m2) (iV t6 t7 m2 t8 m):=sQ λ_=>xQ _ _ _ _ _
end
def af(a:waA)(k0:(List Int))(k02:Bool):Option ((List Int)):=
 (rx a (a.length:Int) k02 0 k0).bind λo4=>
 some o4
theorem ae{a:waA}{k0:(List Int)}{k02:Bool}:OG 103 [.bptr 0 0,sl cS a] [] [.cells [.nptr 0 132,sl (cI .u8) k0,.bool k02] [(1,5)]] (af a k0 k02) (λr=>.tuple []) [] (λr=>[.cells [.nptr 0 132,sl (cI .u8) r,.bool k02] [(1,5)]]):=Wg.g 1<|
 tb λo4 bo4=>cb (cz.ln a)<|cu (zd a (a.length:Int) k02 0 k0 _ bo4)<|tE
abbrev dB:=(am->am->Option Bool)
abbrev fo(R:dB):Prop:=∀(a:am) (a2:am),OV 104 [.agg (aj a),.agg (aj a2)] (R a a2) (λr=>.bool r) []
noncomputable def UP:Code:=f139.body.getD .skip
def Yi:List Nat:=[19]
theorem Wj:ZF Pg Yi 139 f139 UP:=zf call139 func139 rfl mixed
section
variable(R15:dB)(s2:waE)(t15:waE)(t16:Int)(t17:Int)
def eb:ay:=aM 32 [(1,sl aj s2),(2,.func (.func 104) [] []),(15,sl aj t15),(16,.int .i64 t16),(17,.int .i64 t17)] [] []
def ka(o:Unit⊕(Unit)):Exit:=match o with
 |(.inl _)=>.ret
 |(.inr _)=>.exit 0
def fJ(o:Unit⊕(Unit)):ay:=match o with
 |(.inl o)=>aM 32 [(6,.bool false)] [] []
 |(.inr o)=>aM 32 [] [] []
instance iS_slices_EqualFunc_Same_L1:KS 0 (eb s2 t15 t16 t17):=⟨rfl,(bk (aI (up (ak b7 s2)) (aI (aI vzz vzz) (aI (up (ak b7 t15)) (aI vzz (aI vzz vzz)))))),vzz⟩
instance iO_slices_EqualFunc_Same_L1{o:Unit⊕(Unit)}:KS 0 (fJ o):=match o with
 |(.inl o)=>⟨rfl,(bk (aI vzz vzz)),vzz⟩
 |(.inr o)=>⟨rfl,(bk vzz),vzz⟩
def j9:Option (Int⊕(Unit⊕(Unit))):=
 if decide (t17<t16)=true then
  (dw t15 t17).bind λx3=>
  (dw s2 t17).bind λx4=>
  (R15 x3 x4).bind λr5=>
  if(!r5)=true then
   some (.inr (.inl ()))
  else
   some (.inl (fh (t17+1)))
 else
  some (.inr (.inr ()))
def lA:Option (Unit⊕(Unit)):=loop (λ(zz:Int)=>j9 R15 s2 t15 t16 zz) t17
theorem qI(hR15:fo R15):OL 0 (cA UP 119) (j9 R15 s2 t15 t16 t17) (λ(zz:Int)=>eb s2 t15 t16 zz) ka fJ (eb s2 t15 t16 t17):=Wj.lx<|
 tF (tb λx3 bx3=>tb λx4 bx4=>tb λr5 br5=>tv (fU.ia (k:=.i64) bx3)<|tv (aY x3)<|tx Nk<|tx (ms x3)<|tv (fU.ia (k:=.i64) bx4)<|tv (aY x4)<|tx Nk<|tx (ms x4)<|tv (eg x3 [])<|tv (eg x4 [])<|ck (hR15 _ _ _ br5)<|tF tE<|tE)<|tE
theorem jr(hR15:fo R15):OK 0 (.loop (cA UP 119)) (lA R15 s2 t15 t16 t17) ka fJ (eb s2 t15 t16 t17):=HK λ_=>qI _ _ _ _ _ hR15
end
def oO(R15:dB)(s1:waE)(s2:waE):Option Bool:=
 if((s1.length:Int)!=(s2.length:Int))=true then
  some false
 else
  (lA R15 s2 s1 (s1.length:Int) 0).bind λo7=>match o7 with
  |(.inl o7)=>
   some false
  |(.inr o7)=>
   some true
theorem xc(R15:dB)(hR15:fo R15){s1:waE}{s2:waE}:OV 139 [sl aj s1,sl aj s2,.func (.func 104) [] []] (oO R15 s1 s2) (λr=>.bool r) []:=Wj.v<|
 cb (fU.ln s1)<|cb (fU.ln s2)<|tF tE<|cb (fU.ln s1)<|t2 (λo7 bo7=>cu (jr R15 s2 s1 (s1.length:Int) 0 hR15 _ bo7)<|tE) λo7 bo7=>cu (jr R15 s2 s1 (s1.length:Int) 0 hR15 _ bo7)<|tE
abbrev cG:=(waC->waC->Option Bool)
abbrev dV(R:cG):Prop:=∀(s1:waC) (s2:waC),OV 140 [sl ai s1,sl ai s2,.func (.func 141) [] []] (R s1 s2) (λr=>.bool r) []
noncomputable def UT:Code:=f146.body.getD .skip
def Yp:List Nat:=[15]
theorem Wn:ZF Pg Yp 146 f146 UT:=zf call146 func146 rfl mixed
section
variable(s1:waA)(s2:waA)(t12:Int)(t13:Int)
def nq:ay:=aM 26 [(0,sl cS s1),(1,sl cS s2),(12,.int .i64 t12),(13,.int .i64 t13)] [] []
def wk(o:Unit⊕(Unit)):Exit:=match o with
 |(.inl _)=>.ret
 |(.inr _)=>.exit 0
def wm(o:Unit⊕(Unit)):ay:=match o with
 |(.inl o)=>aM 26 [(4,.bool false)] [] []
 |(.inr o)=>aM 26 [] [] []
def wj:Option (Int⊕(Unit⊕(Unit))):=
 if decide (t13<t12)=true then
  (dw s1 t13).bind λx3=>
  (dw s2 t13).bind λx4=>
  if(!(x3==x4))=true then
   some (.inr (.inl ()))
  else
   some (.inl (fh (t13+1)))
 else
  some (.inr (.inr ()))
def Ah:Option (Unit⊕(Unit)):=loop (λ(zz:Int)=>wj s1 s2 t12 zz) t13
theorem C7:OL 0 (cA UT 119) (wj s1 s2 t12 t13) (λ(zz:Int)=>nq s1 s2 t12 zz) wk wm (nq s1 s2 t12 t13):=Wn.l<|
 tF (tb λx3 bx3=>tb λx4 bx4=>S2 [0,0,3,7,0,0,48,112,255]<|tv (cz.ia (k:=.i64) bx3)<|tv (cH Iw (.str x3) [])<|tv (cz.ia (k:=.i64) bx4)<|tv (cH Iw (.str x4) [])<|tF tE<|tE)<|tE
theorem tY:OK 0 (.loop (cA UT 119)) (Ah s1 s2 t12 t13) wk wm (nq s1 s2 t12 t13):=HK λ_=>C7 _ _ _ _
end
def zx(s1:waA)(s2:waA):Option Bool:=
 if((s1.length:Int)!=(s2.length:Int))=true then
  some false
 else
  (Ah s1 s2 (s1.length:Int) 0).bind λo6=>match o6 with
  |(.inl o6)=>
   some false
  |(.inr o6)=>
   some true
theorem Ai{s1:waA}{s2:waA}:OV 146 [sl cS s1,sl cS s2] (zx s1 s2) (λr=>.bool r) []:=Wn.v<|
 cb (cz.ln s1)<|cb (cz.ln s2)<|tF tE<|cb (cz.ln s1)<|t2 (λo6 bo6=>cu (tY s1 s2 (s1.length:Int) 0 _ bo6)<|tE) λo6 bo6=>cu (tY s1 s2 (s1.length:Int) 0 _ bo6)<|tE
abbrev ml:=(ag->ag->Option Bool)
abbrev uO(R:ml):Prop:=∀(a:ag) (a2:ag),OV 186 [.agg (aa a),.agg (aa a2)] (R a a2) (λr=>.bool r) []
noncomputable def U0:Code:=f231.body.getD .skip
def Y9:List Nat:=[17]
theorem Wy:ZF Pg Y9 231 f231 U0:=zf call231 func231 rfl mixed
section
variable(R20:ml)(v:waB)(v2:waB)(t14:Int)(t15:Int)
def qw:ay:=aM 30 [(0,sl aa v),(1,sl aa v2),(2,.func (.func 186) [] []),(14,.int .i64 t14),(15,.int .i64 t15)] [] []
def Ac(o:Unit⊕(Unit)):Exit:=match o with
 |(.inl _)=>.ret
 |(.inr _)=>.exit 0
def Ad(o:Unit⊕(Unit)):ay:=match o with
 |(.inl o)=>aM 30 [(6,.bool false)] [] []
 |(.inr o)=>aM 30 [] [] []
def Ab:Option (Int⊕(Unit⊕(Unit))):=
 if decide (t15<t14)=true then
  (dw v t15).bind λx3=>
  (dw v2 t15).bind λx4=>
  (R20 x3 x4).bind λr5=>
  if(!r5)=true then
   some (.inr (.inl ()))
  else
   some (.inl (fh (t15+1)))
 else
  some (.inr (.inr ()))
def DI:Option (Unit⊕(Unit)):=loop (λ(zz:Int)=>Ab R20 v v2 t14 zz) t15
theorem Ge(hR20:uO R20):OL 0 (cA U0 119) (Ab R20 v v2 t14 t15) (λ(zz:Int)=>qw v v2 t14 zz) Ac Ad (qw v v2 t14 t15):=Wy.l<|
 tF (tb λx3 bx3=>tb λx4 bx4=>tb λr5 br5=>S2 [0,0,0,6,14,0,0,96,224,511,1023]<|tv (fl.ia (k:=.i64) bx3)<|tv (co x3)<|tv (fl.ia (k:=.i64) bx4)<|tv (co x4)<|ck (hR20 _ _ _ br5)<|tF tE<|tE)<|tE
theorem xE(hR20:uO R20):OK 0 (.loop (cA U0 119)) (DI R20 v v2 t14 t15) Ac Ad (qw v v2 t14 t15):=HK λ_=>Ge _ _ _ _ _ hR20
end
def Ks(R20:ml)(a:waB)(a2:waB):Option Bool:=
 if((a.length:Int)!=(a2.length:Int))=true then
  some false
 else
  (DI R20 a a2 (a.length:Int) 0).bind λo7=>match o7 with
  |(.inl o7)=>
   some false
  |(.inr o7)=>
   some true
theorem Ly(R20:ml)(hR20:uO R20){a:waB}{a2:waB}:OV 231 [sl aa a,sl aa a2,.func (.func 186) [] []] (Ks R20 a a2) (λr=>.bool r) []:=Wy.v<|
 cb (fl.ln a)<|cb (fl.ln a2)<|tF tE<|cb (fl.ln a)<|t2 (λo7 bo7=>cu (xE R20 a a2 (a.length:Int) 0 hR20 _ bo7)<|tE) λo7 bo7=>cu (xE R20 a a2 (a.length:Int) 0 hR20 _ bo7)<|tE
noncomputable def qbf:Code:=f186.body.getD .skip
def YK:List Nat:=[]
theorem qah:ZF Pg YK 186 f186 qbf:=zf call186 func186 rfl mixed
def Iq(R20:ml)(a:ag)(a2:ag):Option Bool:=
 if (a.Op == a2.Op) = true then
  if(a.Name==a2.Name)=true then
   if(a.N==a2.N)=true then
    (Ks R20 a.Kids a2.Kids).bind λr7=>
    some r7
   else
    some false
  else
   some false
 else
  some false
theorem Lx(R20:ml)(hR20:uO R20){a:ag}{a2:ag}:OV 186 [.agg (aa a),.agg (aa a2)] (Iq R20 a a2) (λr=>.bool r) []:=qah.v<|
 te (fy a)<|te (fy a2)<|have pp2:=λ{X Y Z} (r:PV _ X Y Z)=>tw (aK a)<|tw (aK a2)<|r;tf (λc1=>have pp4:=λ{X Y Z} (r:PV _ X Y Z)=>pp2<|tg 6 c1<|tw (cQ a)<|tw (cQ a2)<|r;tf (λc3=>have pp6:=λ{X Y Z} (r:PV _ X Y Z)=>pp4<|tg 13 c3<|tw (bU a)<|tw (bU a2)<|r;tf (λc5=>tb λr7 br7=>pp6<|tg 20 c5<|tw (aL a)<|tw (aL a2)<|ck (Ly R20 hR20 _ br7)<|tE) λc5=>pp6<|tg 20 c5<|tE) λc3=>pp4<|tg 13 c3<|tE) λc1=>pp2<|tg 6 c1<|tE
def Ir:((ag×ag)->Option Bool)->(ag×ag)->Option Bool:=λ(rec:(ag×ag)->Option Bool) (x:ag×ag)=>Iq (λa a2=>rec (a,a2)) x.1 x.2
def CK(a:ag)(a2:ag):Option Bool:=Bq Ir (a,a2)
theorem yY{a:ag}{a2:ag}:OV 186 [.agg (aa a),.agg (aa a2)] (CK a a2) (λr=>.bool r) []:=N5 λ_ h=>
 fg (F:=Ir) (M:=λ(x:ag×ag) (r:Bool)=>CC Pg GE 186 [.agg (aa x.1),.agg (aa x.2)] (.bool r) []) (λrec hrec x r h=>Lx _ (λa a2=>N5 λr h=>hrec (a,a2) r h) _ h) h
noncomputable def UW:Code:=f187.body.getD .skip
def YL:List Nat:=[19]
theorem Wu:ZF Pg YL 187 f187 UW:=zf call187 func187 rfl mixed
section
variable(s2:waB)(t15:waB)(t16:Int)(t17:Int)
def fP:ay:=aM 32 [(1,sl aa s2),(2,.func (.func 186) [] []),(15,sl aa t15),(16,.int .i64 t16),(17,.int .i64 t17)] [] []
def oN(o:Unit⊕(Unit)):Exit:=match o with
 |(.inl _)=>.ret
 |(.inr _)=>.exit 0
def i7(o:Unit⊕(Unit)):ay:=match o with
 |(.inl o)=>aM 32 [(6,.bool false)] [] []
 |(.inr o)=>aM 32 [] [] []
instance iS_slices_EqualFunc_L1:KS 0 (fP s2 t15 t16 t17):=⟨rfl,(bk (aI (up (ak aJ s2)) (aI (aI vzz vzz) (aI (up (ak aJ t15)) (aI vzz (aI vzz vzz)))))),vzz⟩
instance iO_slices_EqualFunc_L1{o:Unit⊕(Unit)}:KS 0 (i7 o):=match o with
 |(.inl o)=>⟨rfl,(bk (aI vzz vzz)),vzz⟩
 |(.inr o)=>⟨rfl,(bk vzz),vzz⟩
def oM:Option (Int⊕(Unit⊕(Unit))):=
 if decide (t17<t16)=true then
  (dw t15 t17).bind λx3=>
  (dw s2 t17).bind λx4=>
  (CK x3 x4).bind λr5=>
  if(!r5)=true then
   some (.inr (.inl ()))
  else
   some (.inl (fh (t17+1)))
 else
  some (.inr (.inr ()))
def rK:Option (Unit⊕(Unit)):=loop (λ(zz:Int)=>oM s2 t15 t16 zz) t17
theorem yd:OL 0 (cA UW 119) (oM s2 t15 t16 t17) (λ(zz:Int)=>fP s2 t15 t16 zz) oN i7 (fP s2 t15 t16 t17):=Wu.lx<|
 tF (tb λx3 bx3=>tb λx4 bx4=>tb λr5 br5=>tv (fl.ia (k:=.i64) bx3)<|tv (co x3)<|tx PA<|tx (mt x3)<|tv (fl.ia (k:=.i64) bx4)<|tv (co x4)<|tx PA<|tx (mt x4)<|tv (iS x3 [])<|tv (iS x4 [])<|ck (yY _ br5)<|tF tE<|tE)<|tE
theorem nn:OK 0 (.loop (cA UW 119)) (rK s2 t15 t16 t17) oN i7 (fP s2 t15 t16 t17):=HK λ_=>yd _ _ _ _
end
def yc(s1:waB)(s2:waB):Option Bool:=
 if((s1.length:Int)!=(s2.length:Int))=true then
  some false
 else
  (rK s2 s1 (s1.length:Int) 0).bind λo7=>match o7 with
  |(.inl o7)=>
   some false
  |(.inr o7)=>
   some true
theorem C6{s1:waB}{s2:waB}:OV 187 [sl aa s1,sl aa s2,.func (.func 186) [] []] (yc s1 s2) (λr=>.bool r) []:=Wu.v<|
 cb (fl.ln s1)<|cb (fl.ln s2)<|tF tE<|cb (fl.ln s1)<|t2 (λo7 bo7=>cu (nn s2 s1 (s1.length:Int) 0 _ bo7)<|tE) λo7 bo7=>cu (nn s2 s1 (s1.length:Int) 0 _ bo7)<|tE
noncomputable def qa0:Code:=f141.body.getD .skip
def Yk:List Nat:=[]
theorem Z1:ZF Pg Yk 141 f141 qa0:=zf call141 func141 rfl mixed
def lT(R17:cG)(a:al)(a2:al):Option Bool:=
 if (a.Op == a2.Op) = true then
  if (a.Name == a2.Name) = true then
   (zx a.Names a2.Names).bind λr5=>
   if r5=true then
    (CK a.Pred a2.Pred).bind λr8=>
    if r8=true then
     (yc a.Preds a2.Preds).bind λr11=>
     if r11=true then
      (R17 a.Args a2.Args).bind λr14=>
      some r14
     else
      some false
    else
     some false
   else
    some false
  else
   some false
 else
  some false
theorem mi(R17:cG)(hR17:dV R17){a:al}{a2:al}:OV 141 [.agg (ai a),.agg (ai a2)] (lT R17 a a2) (λr=>.bool r) []:=Z1.v<|
 te (iC a)<|te (iC a2)<|have pp2:=λ{X Y Z} (r:PV _ X Y Z)=>tw (aX a)<|tw (aX a2)<|r;tf (λc1=>have pp4:=λ{X Y Z} (r:PV _ X Y Z)=>pp2<|tg 6 c1<|tw (dg a)<|tw (dg a2)<|r;tf (λc3=>tb λr5 br5=>have pp7:=λ{X Y Z} (r:PV _ X Y Z)=>pp4<|tg 13 c3<|tw (ct a)<|tw (ct a2)<|ck (Ai _ br5)<|r;tf (λc6=>tb λr8 br8=>have pp10:=λ{X Y Z} (r:PV _ X Y Z)=>pp7<|tg 20 c6<|tw (dJ a)<|tw (dJ a2)<|ck (yY _ br8)<|r;tf (λc9=>tb λr11 br11=>have pp13:=λ{X Y Z} (r:PV _ X Y Z)=>pp10<|tg 27 c9<|tw (cE a)<|tw (cE a2)<|ck (C6 _ br11)<|r;tf (λc12=>tb λr14 br14=>pp13<|tg 34 c12<|tw (bw a)<|tw (bw a2)<|ck (hR17 _ _ _ br14)<|tE) λc12=>pp13<|tg 34 c12<|tE) λc9=>pp10<|tg 27 c9<|tE) λc6=>pp7<|tg 20 c6<|tE) λc3=>pp4<|tg 13 c3<|tE) λc1=>pp2<|tg 6 c1<|tE
noncomputable def UQ:Code:=f140.body.getD .skip
def Yj:List Nat:=[19]
theorem Wk:ZF Pg Yj 140 f140 UQ:=zf call140 func140 rfl mixed
section
variable(R17:cG)(s2:waC)(t15:waC)(t16:Int)(t17:Int)
def dq:ay:=aM 32 [(1,sl ai s2),(2,.func (.func 141) [] []),(15,sl ai t15),(16,.int .i64 t16),(17,.int .i64 t17)] [] []
def gU(o:Unit⊕(Unit)):Exit:=match o with
 |(.inl _)=>.ret
 |(.inr _)=>.exit 0
def eB(o:Unit⊕(Unit)):ay:=match o with
 |(.inl o)=>aM 32 [(6,.bool false)] [] []
 |(.inr o)=>aM 32 [] [] []
instance iS_slices_EqualFunc_sameType_L1:KS 0 (dq s2 t15 t16 t17):=⟨rfl,(bk (aI (up (ak bE s2)) (aI (aI vzz vzz) (aI (up (ak bE t15)) (aI vzz (aI vzz vzz)))))),vzz⟩
instance iO_slices_EqualFunc_sameType_L1{o:Unit⊕(Unit)}:KS 0 (eB o):=match o with
 |(.inl o)=>⟨rfl,(bk (aI vzz vzz)),vzz⟩
 |(.inr o)=>⟨rfl,(bk vzz),vzz⟩
def gT:Option (Int⊕(Unit⊕(Unit))):=
 if decide (t17<t16)=true then
  (dw t15 t17).bind λx3=>
  (dw s2 t17).bind λx4=>
  (lT R17 x3 x4).bind λr5=>
  if(!r5)=true then
   some (.inr (.inl ()))
  else
   some (.inl (fh (t17+1)))
 else
  some (.inr (.inr ()))
def iI:Option (Unit⊕(Unit)):=loop (λ(zz:Int)=>gT R17 s2 t15 t16 zz) t17
theorem np(hR17:dV R17):OL 0 (cA UQ 119) (gT R17 s2 t15 t16 t17) (λ(zz:Int)=>dq s2 t15 t16 zz) gU eB (dq s2 t15 t16 t17):=Wk.lx<|
 tF (tb λx3 bx3=>tb λx4 bx4=>tb λr5 br5=>tv (dC.ia (k:=.i64) bx3)<|tv (dP x3)<|tx Rq<|tx (sR x3)<|tv (dC.ia (k:=.i64) bx4)<|tv (dP x4)<|tx Rq<|tx (sR x4)<|tv (mm x3 [])<|tv (mm x4 [])<|ck (mi R17 hR17 _ br5)<|tF tE<|tE)<|tE
theorem gA(hR17:dV R17):OK 0 (.loop (cA UQ 119)) (iI R17 s2 t15 t16 t17) gU eB (dq s2 t15 t16 t17):=HK λ_=>np _ _ _ _ _ hR17
end
def jt(R17:cG)(s1:waC)(s2:waC):Option Bool:=
 if((s1.length:Int)!=(s2.length:Int))=true then
  some false
 else
  (iI R17 s2 s1 (s1.length:Int) 0).bind λo7=>match o7 with
  |(.inl o7)=>
   some false
  |(.inr o7)=>
   some true
theorem qg(R17:cG)(hR17:dV R17){s1:waC}{s2:waC}:OV 140 [sl ai s1,sl ai s2,.func (.func 141) [] []] (jt R17 s1 s2) (λr=>.bool r) []:=Wk.v<|
 cb (dC.ln s1)<|cb (dC.ln s2)<|tF tE<|cb (dC.ln s1)<|t2 (λo7 bo7=>cu (gA R17 s2 s1 (s1.length:Int) 0 hR17 _ bo7)<|tE) λo7 bo7=>cu (gA R17 s2 s1 (s1.length:Int) 0 hR17 _ bo7)<|tE
def jv:((waC×waC)->Option Bool)->(waC×waC)->Option Bool:=λ(rec:(waC×waC)->Option Bool) (x:waC×waC)=>jt (λs1 s2=>rec (s1,s2)) x.1 x.2
def cV(s1:waC)(s2:waC):Option Bool:=Bq jv (s1,s2)
theorem fe{s1:waC}{s2:waC}:OV 140 [sl ai s1,sl ai s2,.func (.func 141) [] []] (cV s1 s2) (λr=>.bool r) []:=N5 λ_ h=>
 fg (F:=jv) (M:=λ(x:waC×waC) (r:Bool)=>CC Pg GE 140 [sl ai x.1,sl ai x.2,.func (.func 141) [] []] (.bool r) []) (λrec hrec x r h=>qg _ (λs1 s2=>N5 λr h=>hrec (s1,s2) r h) _ h) h
noncomputable def qa1:Code:=f143.body.getD .skip
def Ym:List Nat:=[]
theorem Z2:ZF Pg Ym 143 f143 qa1:=zf call143 func143 rfl mixed
def DR(a:aU)(a2:aU):Option Bool:=
 if(a.Name==a2.Name)=true then
  (lT cV a.Type_ a2.Type_).bind λr3=>
  some r3
 else
  some false
theorem HV{a:aU}{a2:aU}:OV 143 [.agg (aD a),.agg (aD a2)] (DR a a2) (λr=>.bool r) []:=Z2.v<|
 te (L6 a)<|te (L6 a2)<|have pp2:=λ{X Y Z} (r:PV _ X Y Z)=>tw (kM a)<|tw (kM a2)<|r;tf (λc1=>tb λr3 br3=>pp2<|tg 6 c1<|tw (ga a)<|tw (ga a2)<|ck (mi cV (λ_ _=>fe) _ br3)<|tE) λc1=>pp2<|tg 6 c1<|tE
noncomputable def UR:Code:=f142.body.getD .skip
def Yl:List Nat:=[19]
theorem Wl:ZF Pg Yl 142 f142 UR:=zf call142 func142 rfl mixed
section
variable(s2:waF)(t15:waF)(t16:Int)(t17:Int)
def dG:ay:=aM 32 [(1,sl aD s2),(2,.func (.func 143) [] []),(15,sl aD t15),(16,.int .i64 t16),(17,.int .i64 t17)] [] []
def iF(o:Unit⊕(Unit)):Exit:=match o with
 |(.inl _)=>.ret
 |(.inr _)=>.exit 0
def fb(o:Unit⊕(Unit)):ay:=match o with
 |(.inl o)=>aM 32 [(6,.bool false)] [] []
 |(.inr o)=>aM 32 [] [] []
instance iS_slices_EqualFunc_Same_1_L1:KS 0 (dG s2 t15 t16 t17):=⟨rfl,(bk (aI (up (ak dh s2)) (aI (aI vzz vzz) (aI (up (ak dh t15)) (aI vzz (aI vzz vzz)))))),vzz⟩
instance iO_slices_EqualFunc_Same_1_L1{o:Unit⊕(Unit)}:KS 0 (fb o):=match o with
 |(.inl o)=>⟨rfl,(bk (aI vzz vzz)),vzz⟩
 |(.inr o)=>⟨rfl,(bk vzz),vzz⟩
def iE:Option (Int⊕(Unit⊕(Unit))):=
 if decide (t17<t16)=true then
  (dw t15 t17).bind λx3=>
  (dw s2 t17).bind λx4=>
  (DR x3 x4).bind λr5=>
  if(!r5)=true then
   some (.inr (.inl ()))
  else
   some (.inl (fh (t17+1)))
 else
  some (.inr (.inr ()))
def j7:Option (Unit⊕(Unit)):=loop (λ(zz:Int)=>iE s2 t15 t16 zz) t17
theorem pr:OL 0 (cA UR 119) (iE s2 t15 t16 t17) (λ(zz:Int)=>dG s2 t15 t16 zz) iF fb (dG s2 t15 t16 t17):=Wl.lx<|
 tF (tb λx3 bx3=>tb λx4 bx4=>tb λr5 br5=>tv (tV.ia (k:=.i64) bx3)<|tv (Cz x3)<|tx Qg<|tx (yU x3)<|tv (tV.ia (k:=.i64) bx4)<|tv (Cz x4)<|tx Qg<|tx (yU x4)<|tv (J4 x3 [])<|tv (J4 x4 [])<|ck (HV _ br5)<|tF tE<|tE)<|tE
theorem hZ:OK 0 (.loop (cA UR 119)) (j7 s2 t15 t16 t17) iF fb (dG s2 t15 t16 t17):=HK λ_=>pr _ _ _ _
end
def mA(s1:waF)(s2:waF):Option Bool:=
 if((s1.length:Int)!=(s2.length:Int))=true then
  some false
 else
  (j7 s2 s1 (s1.length:Int) 0).bind λo7=>match o7 with
  |(.inl o7)=>
   some false
  |(.inr o7)=>
   some true
theorem tW{s1:waF}{s2:waF}:OV 142 [sl aD s1,sl aD s2,.func (.func 143) [] []] (mA s1 s2) (λr=>.bool r) []:=Wl.v<|
 cb (tV.ln s1)<|cb (tV.ln s2)<|tF tE<|cb (tV.ln s1)<|t2 (λo7 bo7=>cu (hZ s2 s1 (s1.length:Int) 0 _ bo7)<|tE) λo7 bo7=>cu (hZ s2 s1 (s1.length:Int) 0 _ bo7)<|tE
end Go.Proofs.YtankopenjcbeeaaGreatDoor
