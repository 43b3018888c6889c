import Derived.Test.YthmmfhdpkddniaaGreatDoorXb
set_option maxRecDepth 20000
set_option maxHeartbeats 4000000
set_option linter.all false
namespace Go.Proofs.YthmmfhdpkddniaaGreatDoor
open Go.RowKit
theorem rM:aI Tryz.prog 115=true:=by kernel_rfl
theorem yy:aI Tryz.prog 59=true:=by kernel_rfl
theorem Ad:u_ Tryz.prog 103 0=some 0:=by kernel_rfl
theorem Hi:u_ Tryz.prog 85 8=some 8:=by kernel_rfl
theorem vw:tw Tryz.prog 98=some (.pointer none):=by kernel_rfl
theorem jQ {j:Nat} {A:PK} (hI:bQ j A) {i:Int} (hi:0≤i∧i<(A.n:Int)) {c:aV} (hc:c∈A.blocks i):qE c.at:=by
 have hn:=hI.n24
 have hs:=qF hI i
 obtain ⟨q,hq,rfl⟩:=xh.1 hc
 refine ⟨⟨?_,?_⟩,⟨?_,?_⟩⟩
 · show _≤i; omega
 · show i≤_; omega
 · show _≤((16 * q:Nat):Int); omega
 show ((16 * q:Nat):Int)≤_; omega
theorem di.no {X:XP} {A:PK} (h:di X A) {c:aV} {i:Int} (hc:c∈A.blocks i) (hs:(gZ X.bs c.at).isSome=false):A.freeC c=true:=by
 have h9:=h.free hc
 rw [hs] at h9
 cases hq:A.freeC c with
 | true=>rfl
 | false=>rw [hq] at h9; cases h9
theorem di.yes {X:XP} {A:PK} (h:di X A) {c:aV} {i:Int} (hc:c∈A.blocks i) (hs:(gZ X.bs c.at).isSome=true):A.freeC c=false:=by
 have h9:=h.free hc
 rw [hs] at h9
 cases hq:A.freeC c with
 | true=>rw [hq] at h9; cases h9
 | false=>rfl
theorem qT {l:List aV} {x c:aV}:decide (c∈l++[x])=(decide (c∈l) || decide (x=c)):=by
 by_cases h1:c∈l <;> by_cases h2:x=c <;> simp [h1,h2]
 exact fun e=>h2 e.symm
theorem xc {A:PK} {c:aV} (h:A.freeC c=true):c ∉ A.here:=by
 unfold PK.freeC at h
 simp only [Bool.and_eq_true,Bool.not_eq_eq_eq_not,Bool.not_true,decide_eq_false_iff_not] at h
 exact h.1
theorem uR (X:XP) (A:PK) (j:Nat) (hX:di X A) (hI:bQ j A) (i:Int) (hi:0≤i∧i<(A.n:Int))  (w:World) (HS:S w [(XI X A)]):Calls Tryz.prog 169 #[vP X.g,vI i] w fun e w'=>e=.returned (.bool (A.partB i))∧S w' ([(XI X A)]++[aB w (aT [(XI X A)])]):=by
 have H0:=HS.bu
 have h8:=hI.a8
 refine qJ 18 Tryz.func169 rfl rfl rfl ?_
 have hL:¬ LetsOut (bodyPostM (WF none) 9 Tryz.prog Tryz.f169 fun e w'=>e=.returned (.bool (A.partB i))∧S w' ([(XI X A)]++[aB w (aT [(XI X A)])])):=by
  rintro ⟨_,_,h⟩
  simp only [bodyPostM,reduceCtorEq,false_and,and_false,exists_false,or_false,or_self,exists_const] at h
 refine ah [0,1] ?_
 refine R.g_seq ?_
 refine R.g_region ?_
 refine R.l_of rfl (fun h=>hL h) (fq H0 ?_)
 intro g1 c7 H3
 refine R.l_of rfl (fun h=>hL h) (cA H3 Jw ?_)
 intro g4 c6 H6
 refine R.g_nil ?_
 refine aR ?_
 iterate 2 refine R.g_seq ?_
 refine R.g_region ?_
 refine R.w_v (fun h=>hL h) (xl H6 1) ?_
 refine R.w_v (fun h=>hL h) xm ?_
 refine R.l_of rfl (fun h=>hL h) (bR (bh rfl) (aP rfl rfl yy) (rO X.g i _) ?_)
 rintro _ x9 ⟨ba7,bi8,rfl,H7⟩
 replace H7:=H6.ab2 H7
 refine bW ?_
 refine R.g_nil ?_
 refine aR ?_
 refine R.g_block ?_
 have x8:=H7.b3 [0,1,4,2,3,5,6,7,8,9,10,11]
 have x7:=S.noI (x8.tk [0,1,2,3,4,5,6,7,8,9])
 refine jg (α:=aV) (ι:=Nat) (encs:=vY) (base:=(fN [Ob ba7 (.cells #[vP X.g] 26 (0,0)),Ob bi8 (.cells #[vI i] 3 (0,0)),X0 X A])) (by omega) rfl rM (mJ (X:=X) (i:=i) hI) (fun _=>rfl) rfl (fun pre Lx=>(∀ y∈pre,A.freeC y=true)∧Lx=[Ob g4 (.cells #[.bool false] 4 (0,0)),Ob g1 (.cells #[vP X.g] 26 (0,0)),X1 X A,X2 X A,X3 X,bM fA X.ms,X5 X,bM g_ X.bs,aB w (aT [(XI X A)])]) (fun cc pre Lx=>(cc=.ret∧(A.partB i=true)∧Lx=[Ob g4 (.cells #[.bool true] 4 (0,0)),Ob g1 (.cells #[vP X.g] 26 (0,0)),X1 X A,X2 X A,X3 X,bM fA X.ms,X5 X,bM g_ X.bs,aB w (aT [(XI X A)])])) (fun p ia=>[(2,vP g1),(4,vP g4),(5,vP ia)]) (fun p ia=>[Ob ia (.cells #[vI p.pc,vI p.bg,vI p.ln] 44 (0,0))]) (fun _ _ _ _ _=>trivial) ⟨(fun _ h=>by cases h),rfl⟩ x7 ?_ ?_ ?_ ?_
 ·
  rintro l1 p Ly w9 x6
  have hL:¬ LetsOut (fun (_:Exit) (_:Act) (_:World)=>False):=fun ⟨_,_,h⟩=>h
  refine ah [2,4,9] ?_
  refine R.g_region ?_
  refine R.l_of rfl (fun h=>hL h) (cA x6 gX ?_)
  intro g0 h7 x5
  refine R.l_of rfl (fun h=>hL h) (b_ x5 0 (bh rfl) rfl rfl rfl rfl rfl dE rfl rfl (cs':=#[vI p.pc,vI p.bg,vI p.ln]) rfl ?_)
  intro h6 x4
  refine R.g_nil ?_
  refine aR ?_
  exact iD g0 ⟨rfl,rfl,rfl,trivial⟩ x4
 ·
  rintro l1 pr x ia II Kx _ w8 ⟨hJ,rfl⟩ hphi x3
  have x2:=S.unbig (L:=[_]) (x3.tk [3,0,1,2,4,5,6,7,8,9,10,11,12])
  refine ah [2,4,5] ?_
  obtain ⟨q9,hpr9,hxq9⟩:=hphi
  have hxm9:x∈A.blocks i:=List.mem_of_getElem? hxq9
  have x1:S _ [_,_,_,_,_,_,_,_,_,_,_,_,_,_,_]:=S.unbig (x2.tk [1,0,2,3,4,5,6,7,8,9,10,11,12])
  refine R.g_block ?_
  refine R.g_seq ?_
  refine R.g_aS [] [] (fun ⟨_,_,h⟩=>h) x1 (fun h5 H5=>?_)
  refine eY 0 7 H5 ?_
  refine aU 1 H5 ?_
  refine aU 2 H5 ?_
  refine eY 3 2 H5 ?_
  refine bT 4 rfl H5 (fun _ H=>fS H 3) ?_
  refine bG (i:=5) ?_
  refine aG (sr x _) ?_
  rintro _ h4 ⟨rfl,H4⟩
  replace H4:=H5.ab0 H4
  refine bW ?_
  refine bF H4 ?_
  refine bT (v:=(pJ ((gZ X.bs) x.at))) 6 rfl H4 (fun _ H=>aH (bU (x:=x.at) jp H 12 rfl rfl rfl rfl ((jQ hI hi hxm9)) vw) (rfl)) ?_
  refine bT (v:=.bool (((gZ X.bs) x.at).isSome)) 7 rfl H4 (fun _ _=>ai rfl rfl rfl (zZ Tryz.underlying98)) ?_
  refine fP ?_
  refine aR ?_
  rcases ef (((gZ X.bs) x.at).isSome) with H2 | H2
  ·
   obtain ⟨ir,r,hrq,hrk,hrb,hrf⟩:=uM H2
   rw [hG hrb]
   refine R.g_cond_t rfl H2 ?_
   refine R.g_seq ?_
   refine R.g_region ?_
   refine R.l_of rfl (fun ⟨_,_,h⟩=>h) (b_ H4 6 (bh rfl) rfl rfl rfl rfl rfl vv rfl rfl (cs':=#[.bool true]) rfl ?_)
   intro h3 x0
   refine R.g_nil ?_
   refine aR ?_
   refine R.g_ret ?_
   refine aR ?_
   have g9:=x0.b3 [0,1,2,3,4,5,6,7,8,9,10,11,12,13,14]
   exact wv (⟨rfl,(by unfold PK.partB; exact List.any_eq_true.2 ⟨x,hxm9,by have h9:=hX.free hxm9; rw [H2] at h9; cases hq:A.freeC x with | true=>rw [hq] at h9; cases h9 | false=>rfl⟩),rfl⟩) (g9.tk [0,2,3,4,5,6,7,8,9,10,11,12])
  refine R.g_cond_f rfl H2 ?_
  refine R.g_skip ?_
  refine aR ?_
  have g8:=H4.b3 [0,1,2,3,4,5,6,7,8,9,10,11,12,13,14]
  exact fb ⟨(fun y hy=>by rcases List.mem_append.1 hy with hy | hy; exact hJ y hy; rw [List.mem_singleton] at hy; subst hy; have h9:=hX.free hxm9; rw [H2] at h9; cases hq:A.freeC y with | true=>rfl | false=>rw [hq] at h9; cases h9),rfl⟩ (g8.tk [0,2,3,4,5,6,7,8,9,10,11,12])
 ·
  rintro D xs _ c9 hxs ⟨hJ,rfl⟩ g7
  have g6:S _ [_,_,_,_,_,_,_,_,_,_,_,_,_]:=S.unbig (g7.tk [1,0,2,3,4,5,6,7,8,9,10])
  refine ae ?_
  refine R.g_seq ?_
  refine R.g_region ?_
  refine R.l_of rfl (fun h=>hL h) (b_ g6 4 (bh rfl) rfl rfl rfl rfl rfl vv rfl rfl (cs':=#[.bool false]) rfl ?_)
  intro h2 g5
  refine R.g_nil ?_
  refine aR ?_
  refine R.g_ret ?_
  refine qu g5 3 rfl [.cell 4 4] [.bool false] rfl (fun h1 H9=>⟨⟨⟨_,rfl,dp Tryz.underlying4 rfl (H9.cell (k:=4) rfl rfl)⟩,trivial⟩,?_⟩)
  have hE:A.partB i=false:=by rw [hxs] at hJ; unfold PK.partB; rw [List.any_eq_false]; exact fun y hy=>by rw [hJ y hy]; decide
  rw [hE]
  exact ⟨rfl,(H9.b7 [2,6,7,8,9,10,11,12])⟩
 rintro D cc pr _ c8 _ ⟨rfl,hst,rfl⟩ g3
 have g2:S _ [_,_,_,_,_,_,_,_,_,_,_,_,_]:=S.unbig (g3.tk [1,0,2,3,4,5,6,7,8,9,10])
 refine zX ?_
 refine ae ?_
 refine qu g2 3 rfl [.cell 4 4] [.bool true] rfl (fun h0 H8=>⟨⟨⟨_,rfl,dp Tryz.underlying4 rfl (H8.cell (k:=4) rfl rfl)⟩,trivial⟩,?_⟩)
 rw [hst]
 exact ⟨rfl,(H8.b7 [2,6,7,8,9,10,11,12])⟩
theorem DT (X:XP) (A:PK) (j:Nat) (hX:di X A) (hI:bQ j A) (i:Int) (hi:0≤i∧i<(A.n:Int))  (w:World) (HS:S w [(XI X A)]):Calls Tryz.prog 54 #[vP X.g,vI i] w fun e w'=>e=.returned (.bool (A.wholeB i))∧S w' ([(XI X A)]++[aB w (aT [(XI X A)])]):=by
 have H0:=HS.bu
 have h8:=hI.a8
 refine qJ 27 Tryz.func54 rfl rfl rfl ?_
 have hL:¬ LetsOut (bodyPostM (WF none) 9 Tryz.prog Tryz.f54 fun e w'=>e=.returned (.bool (A.wholeB i))∧S w' ([(XI X A)]++[aB w (aT [(XI X A)])])):=by
  rintro ⟨_,_,h⟩
  simp only [bodyPostM,reduceCtorEq,false_and,and_false,exists_false,or_false,or_self,exists_const] at h
 refine ah [0,1] ?_
 refine R.g_seq ?_
 refine R.g_region ?_
 refine R.l_of rfl (fun h=>hL h) (fq H0 ?_)
 intro g1 w9 H3
 refine R.l_of rfl (fun h=>hL h) (cA H3 Jw ?_)
 intro g4 w8 H6
 refine R.g_nil ?_
 refine aR ?_
 iterate 2 refine R.g_seq ?_
 refine R.g_region ?_
 refine R.w_v (fun h=>hL h) (xl H6 1) ?_
 refine R.w_v (fun h=>hL h) xm ?_
 refine R.l_of rfl (fun h=>hL h) (bR (bh rfl) (aP rfl rfl yy) (rO X.g i _) ?_)
 rintro _ c9 ⟨ba7,bi8,rfl,H8⟩
 replace H8:=H6.ab2 H8
 refine bW ?_
 refine R.g_nil ?_
 refine aR ?_
 refine R.g_block ?_
 have c8:=H8.b3 [0,1,4,2,3,5,6,7,8,9,10,11]
 have c7:=S.noI (c8.tk [0,1,2,3,4,5,6,7,8,9])
 refine jg (α:=aV) (ι:=Nat) (encs:=vY) (base:=(fN [Ob ba7 (.cells #[vP X.g] 26 (0,0)),Ob bi8 (.cells #[vI i] 3 (0,0)),X0 X A])) (by omega) rfl rM (mJ (X:=X) (i:=i) hI) (fun _=>rfl) rfl (fun pre Lx=>(∀ y∈pre,y∈A.here)∧Lx=[Ob g4 (.cells #[.bool false] 4 (0,0)),Ob g1 (.cells #[vP X.g] 26 (0,0)),X1 X A,X2 X A,X3 X,bM fA X.ms,X5 X,bM g_ X.bs,aB w (aT [(XI X A)])]) (fun cc pre Lx=>(cc=.ret∧(A.wholeB i=false)∧Lx=[Ob g4 (.cells #[.bool false] 4 (0,0)),Ob g1 (.cells #[vP X.g] 26 (0,0)),X1 X A,X2 X A,X3 X,bM fA X.ms,X5 X,bM g_ X.bs,aB w (aT [(XI X A)])])) (fun p ia=>[(2,vP g1),(4,vP g4),(5,vP ia)]) (fun p ia=>[Ob ia (.cells #[vI p.pc,vI p.bg,vI p.ln] 44 (0,0))]) (fun _ _ _ _ _=>trivial) ⟨(fun _ h=>by cases h),rfl⟩ c7 ?_ ?_ ?_ ?_
 ·
  rintro l1 p Ly b6 c6
  have hL:¬ LetsOut (fun (_:Exit) (_:Act) (_:World)=>False):=fun ⟨_,_,h⟩=>h
  refine ah [2,4,10] ?_
  refine R.g_region ?_
  refine R.l_of rfl (fun h=>hL h) (cA c6 gX ?_)
  intro g3 g2 x9
  refine R.l_of rfl (fun h=>hL h) (b_ x9 0 (bh rfl) rfl rfl rfl rfl rfl dE rfl rfl (cs':=#[vI p.pc,vI p.bg,vI p.ln]) rfl ?_)
  intro g0 x8
  refine R.g_nil ?_
  refine aR ?_
  exact iD g3 ⟨rfl,rfl,rfl,trivial⟩ x8
 ·
  rintro l1 pr x ia II Kx _ b2 ⟨hJ,rfl⟩ hphi x7
  have x6:=S.unbig (L:=[_]) (x7.tk [3,0,1,2,4,5,6,7,8,9,10,11,12])
  refine ah [2,4,5] ?_
  obtain ⟨q9,hpr9,hxq9⟩:=hphi
  have hxm9:x∈A.blocks i:=List.mem_of_getElem? hxq9
  have x5:S _ [_,_,_,_,_,_,_,_,_,_,_,_,_,_,_]:=S.unbig (x6.tk [1,0,2,3,4,5,6,7,8,9,10,11,12])
  refine R.g_block ?_
  refine R.g_seq ?_
  refine R.g_aS [] [] (fun ⟨_,_,h⟩=>h) x5 (fun h7 H7=>?_)
  refine eY 0 7 H7 ?_
  refine aU 1 H7 ?_
  refine aU 2 H7 ?_
  refine eY 3 2 H7 ?_
  refine bT 4 rfl H7 (fun _ H=>fS H 3) ?_
  refine bG (i:=5) ?_
  refine aG (sr x _) ?_
  rintro _ h6 ⟨rfl,H5⟩
  replace H5:=H7.ab0 H5
  refine bW ?_
  refine bF H5 ?_
  refine bT (v:=(pJ ((gZ X.bs) x.at))) 6 rfl H5 (fun _ H=>aH (bU (x:=x.at) jp H 12 rfl rfl rfl rfl ((jQ hI hi hxm9)) vw) (rfl)) ?_
  refine bG (i:=7) ?_
  refine iW xa ?_
  refine bF H5 ?_
  refine fP ?_
  refine aR ?_
  refine R.g_seq ?_
  refine R.g_region ?_
  refine R.w_v (fun ⟨_,_,h⟩=>h) xm ?_
  refine R.w_v (fun ⟨_,_,h⟩=>h) (v:=.bool (!(((gZ X.bs) x.at).isSome))) (ai rfl rfl rfl (oD Tryz.underlying98)) ?_
  refine R.w_v (fun ⟨_,_,h⟩=>h) xm ?_
  rcases ef (((gZ X.bs) x.at).isSome) with H2 | H2
  ·
   obtain ⟨ir,r,hrq,hrk,hrb,hrf⟩:=uM H2
   rw [hG hrb]
   refine R.l_of rfl (fun ⟨_,_,h⟩=>h) (aJ (v:=vP r.b) (cU rfl rfl rfl rfl (aa H2)) rfl rfl (bY rfl rfl) ?_)
   refine R.l_of rfl (fun ⟨_,_,h⟩=>h) (aJ (v:=vP r.b) (cU rfl rfl rfl rfl (aa H2)) rfl rfl (fm rfl rfl) ?_)
   refine R.l_of rfl (fun ⟨_,_,h⟩=>h) (aJ (v:=vP r.b) (cU rfl rfl rfl rfl (aa H2)) rfl rfl (c_ rfl rfl Ad rfl) ?_)
   refine R.l_of rfl (fun ⟨_,_,h⟩=>h) (aJ (v:=.bool r.here) (cU rfl rfl rfl rfl (aa H2)) rfl rfl (f_ rfl rfl Tryz.underlying4 rfl (H5.bkCell (k:=13) rfl hrq (c:=0) rfl)) ?_)
   refine R.l_of rfl (fun ⟨_,_,h⟩=>h) (aJ (v:=.bool (!(r.here))) (cU rfl rfl rfl rfl (aa H2)) rfl rfl (cj (b:=r.here) rfl rfl) ?_)
   refine R.w_v (fun ⟨_,_,h⟩=>h) (pf (aa H2)) ?_
   refine R.g_nil ?_
   refine aR ?_
   refine ah [4,26] ?_
   rcases ef (r.here) with H4 | H4
   ·
    refine R.g_cond_f rfl (aa H4) ?_
    refine R.g_skip ?_
    refine aR ?_
    have x4:=H5.b3 [0,1,2,3,4,5,6,7,8,9,10,11,12,13,14]
    exact fb ⟨(fun y hy=>by rcases List.mem_append.1 hy with hy | hy; exact hJ y hy; rw [List.mem_singleton] at hy; subst hy; have e9:=(hX.ent hxm9 hrf).1; rw [H4] at e9; exact of_decide_eq_true e9.symm),rfl⟩ (x4.tk [0,2,3,4,5,6,7,8,9,10,11,12])
   refine R.g_cond_t rfl (aa H4) ?_
   refine R.g_seq ?_
   refine R.g_region ?_
   refine R.l_of rfl (fun ⟨_,_,h⟩=>h) (b_ H5 6 (bh rfl) rfl rfl rfl rfl rfl vv rfl rfl (cs':=#[.bool false]) rfl ?_)
   intro h5 x3
   refine R.g_nil ?_
   refine aR ?_
   refine R.g_ret ?_
   refine aR ?_
   have x2:=x3.b3 [0,1,2,3,4,5,6,7,8,9,10,11,12,13,14]
   exact wv (⟨rfl,(by unfold PK.wholeB; exact List.all_eq_false.2 ⟨x,hxm9,by rw [df (fun h9=>by have e9:=(hX.ent hxm9 hrf).1; rw [H4,dt h9] at e9; cases e9)]; decide⟩),rfl⟩) (x2.tk [0,2,3,4,5,6,7,8,9,10,11,12])
  refine R.l_of rfl (fun ⟨_,_,h⟩=>h) (ku (aa H2) ?_)
  refine R.l_of rfl (fun ⟨_,_,h⟩=>h) (ku (aa H2) ?_)
  refine R.l_of rfl (fun ⟨_,_,h⟩=>h) (ku (aa H2) ?_)
  refine R.l_of rfl (fun ⟨_,_,h⟩=>h) (ku (aa H2) ?_)
  refine R.l_of rfl (fun ⟨_,_,h⟩=>h) (ku (aa H2) ?_)
  refine R.w_v (fun ⟨_,_,h⟩=>h) (pt (aa H2)) ?_
  refine R.g_nil ?_
  refine aR ?_
  refine ah [4,26] ?_
  refine R.g_cond_t rfl rfl ?_
  refine R.g_seq ?_
  refine R.g_region ?_
  refine R.l_of rfl (fun ⟨_,_,h⟩=>h) (b_ H5 6 (bh rfl) rfl rfl rfl rfl rfl vv rfl rfl (cs':=#[.bool false]) rfl ?_)
  intro h4 x1
  refine R.g_nil ?_
  refine aR ?_
  refine R.g_ret ?_
  refine aR ?_
  have x0:=x1.b3 [0,1,2,3,4,5,6,7,8,9,10,11,12,13,14]
  exact wv (⟨rfl,(by unfold PK.wholeB; exact List.all_eq_false.2 ⟨x,hxm9,by rw [df (xc (hX.no hxm9 H2))]; decide⟩),rfl⟩) (x0.tk [0,2,3,4,5,6,7,8,9,10,11,12])
 ·
  rintro D xs _ b1 hxs ⟨hJ,rfl⟩ g9
  have g8:S _ [_,_,_,_,_,_,_,_,_,_,_,_,_]:=S.unbig (g9.tk [1,0,2,3,4,5,6,7,8,9,10])
  refine ae ?_
  refine R.g_seq ?_
  refine R.g_region ?_
  refine R.l_of rfl (fun h=>hL h) (b_ g8 4 (bh rfl) rfl rfl rfl rfl rfl vv rfl rfl (cs':=#[.bool true]) rfl ?_)
  intro h3 g7
  refine R.g_nil ?_
  refine aR ?_
  refine R.g_ret ?_
  refine qu g7 3 rfl [.cell 4 4] [.bool true] rfl (fun h2 h0=>⟨⟨⟨_,rfl,dp Tryz.underlying4 rfl (h0.cell (k:=4) rfl rfl)⟩,trivial⟩,?_⟩)
  have hE:A.wholeB i=true:=by rw [hxs] at hJ; unfold PK.wholeB; rw [List.all_eq_true]; exact fun y hy=>dt (hJ y hy)
  rw [hE]
  exact ⟨rfl,(h0.b7 [2,6,7,8,9,10,11,12])⟩
 rintro D cc pr _ b0 _ ⟨rfl,hst,rfl⟩ g6
 have g5:S _ [_,_,_,_,_,_,_,_,_,_,_,_,_]:=S.unbig (g6.tk [1,0,2,3,4,5,6,7,8,9,10])
 refine zX ?_
 refine ae ?_
 refine qu g5 3 rfl [.cell 4 4] [.bool false] rfl (fun h1 H9=>⟨⟨⟨_,rfl,dp Tryz.underlying4 rfl (H9.cell (k:=4) rfl rfl)⟩,trivial⟩,?_⟩)
 rw [hst]
 exact ⟨rfl,(H9.b7 [2,6,7,8,9,10,11,12])⟩
theorem PW (X:XP) (A:PK) (j:Nat) (hX:di X A) (hI:bQ j A) (c:aV) (hp:0≤c.pc∧c.pc<(A.n:Int)) (hc:A.isB c)  (w:World) (HS:S w [(XI X A)]):Calls Tryz.prog 50 #[vP X.g,.agg #[vI c.pc,vI c.bg,vI c.ln]] w fun e w'=>e=.returned (.tuple #[])∧S w' ([(XI X A)]++[aB w (aT [(XI X A)])]):=by
 have H0:=HS.bu
 have h8:=hI.a8
 refine Ag 19 Tryz.func50 rfl rfl rfl ?_
 have hL:¬ LetsOut (gU Tryz.prog Tryz.f50 fun e w'=>e=.returned (.tuple #[])∧S w' ([(XI X A)]++[aB w (aT [(XI X A)])])):=by
  rintro ⟨_,_,h⟩
  simp only [gU,reduceCtorEq,false_and,and_false,exists_false,or_false,or_self,exists_const] at h
 refine ah [0,1] ?_
 refine R.g_seq ?_
 refine R.g_region ?_
 refine R.l_of rfl (fun h=>hL h) (fq H0 ?_)
 intro g1 x6 H3
 refine R.g_nil ?_
 refine aR ?_
 refine R.g_seq ?_
 refine R.g_region ?_
 refine R.l_of rfl (fun h=>hL h) (cA H3 Jw ?_)
 intro g4 x5 H6
 refine R.l_of rfl (fun h=>hL h) (b_ H6 0 (bh rfl) rfl rfl rfl rfl rfl vv rfl rfl (cs':=#[.bool false]) rfl ?_)
 intro x4 H8
 refine R.g_nil ?_
 refine aR ?_
 iterate 2 refine R.g_seq ?_
 refine R.g_region ?_
 refine R.w_v (fun h=>hL h) xm ?_
 refine R.w_v (fun h=>hL h) yq ?_
 refine R.w_v (fun h=>hL h) (xl H8 1) ?_
 refine R.l_of rfl (fun h=>hL h) (bR (bh rfl) (aP rfl rfl yy) (rO X.g c.pc _) ?_)
 rintro _ h6 ⟨ba9,bi10,rfl,H7⟩
 replace H7:=H8.ab2 H7
 refine bW ?_
 refine R.g_nil ?_
 refine aR ?_
 refine R.g_block ?_
 have x3:=H7.b3 [0,1,4,2,3,5,6,7,8,9,10,11]
 have x2:=S.noI (x3.tk [0,1,2,3,4,5,6,7,8,9])
 refine jg (α:=aV) (ι:=Nat) (encs:=vY) (base:=(fN [Ob ba9 (.cells #[vP X.g] 26 (0,0)),Ob bi10 (.cells #[vI c.pc] 3 (0,0)),X0 X A])) (by omega) rfl rM (mJ (X:=X) (i:=c.pc) hI) (fun _=>rfl) rfl (fun pre Lx=>∃ (ok:Bool),(ok=decide (c∈pre))∧Lx=[Ob g4 (.cells #[.bool ok] 4 (0,0)),Ob g1 (.cells #[vI c.pc,vI c.bg,vI c.ln] 44 (0,0)),X1 X A,X2 X A,X3 X,bM fA X.ms,X5 X,bM g_ X.bs,aB w (aT [(XI X A)])]) (fun cc pre Lx=>False) (fun p ia=>[(3,vP g1),(4,vP g4),(5,vP ia)]) (fun p ia=>[Ob ia (.cells #[vI p.pc,vI p.bg,vI p.ln] 44 (0,0))]) (fun _ _ _ _ _=>trivial) ⟨false,(by simp),rfl⟩ x2 ?_ ?_ ?_ ?_
 ·
  rintro l1 p Ly x9 x1
  have hL:¬ LetsOut (fun (_:Exit) (_:Act) (_:World)=>False):=fun ⟨_,_,h⟩=>h
  refine ah [3,4,10] ?_
  refine R.g_region ?_
  refine R.l_of rfl (fun h=>hL h) (cA x1 gX ?_)
  intro h7 h5 x0
  refine R.l_of rfl (fun h=>hL h) (b_ x0 0 (bh rfl) rfl rfl rfl rfl rfl dE rfl rfl (cs':=#[vI p.pc,vI p.bg,vI p.ln]) rfl ?_)
  intro h4 g9
  refine R.g_nil ?_
  refine aR ?_
  exact iD h7 ⟨rfl,rfl,rfl,trivial⟩ g9
 ·
  rintro l1 pr x ia II Kx _ x8 ⟨ok,hJ,rfl⟩ hphi g8
  have g7:=S.unbig (L:=[_]) (g8.tk [3,0,1,2,4,5,6,7,8,9,10,11,12])
  refine ah [3,4,5] ?_
  obtain ⟨q9,hpr9,hxq9⟩:=hphi
  have hxm9:x∈A.blocks c.pc:=List.mem_of_getElem? hxq9
  have H4:S _ [_,_,_,_,_,_,_,_,_,_,_,_,_,_,_]:=S.unbig (g7.tk [1,0,2,3,4,5,6,7,8,9,10,11,12])
  refine R.g_block ?_
  refine R.g_region ?_
  refine R.w_v (fun ⟨_,_,h⟩=>h) (xl H4 6) ?_
  refine R.w_v (fun ⟨_,_,h⟩=>h) xm ?_
  rcases ef (ok) with H2 | H2
  ·
   refine R.l_of rfl (fun ⟨_,_,h⟩=>h) (ku H2 ?_)
   refine R.l_of rfl (fun ⟨_,_,h⟩=>h) (ku H2 ?_)
   refine R.l_of rfl (fun ⟨_,_,h⟩=>h) (ku H2 ?_)
   refine R.w_v (fun ⟨_,_,h⟩=>h) (v:=.bool true) (dH rfl rfl H2 rfl) ?_
   refine R.l_of rfl (fun ⟨_,_,h⟩=>h) (b_ H4 6 (bh rfl) rfl rfl rfl rfl rfl vv rfl rfl (cs':=#[.bool true]) rfl ?_)
   intro h3 g6
   refine R.g_nil ?_
   refine aR ?_
   have g5:=g6.b3 [0,1,2,3,4,5,6,7,8,9,10,11,12,13,14]
   exact fb ⟨true,(by rw [qT,← hJ]; simp [H2]),rfl⟩ (g5.tk [0,2,3,4,5,6,7,8,9,10,11,12])
  refine R.l_of rfl (fun ⟨_,_,h⟩=>h) (aJ (cU rfl rfl rfl rfl H2) rfl rfl (fS H4 3) ?_)
  refine R.l_of rfl (fun ⟨_,_,h⟩=>h) (aJ (cU rfl rfl rfl rfl H2) rfl rfl (fS H4 7) ?_)
  refine R.l_of rfl (fun ⟨_,_,h⟩=>h) (aJ (v:=.bool (decide (x=c))) (cU rfl rfl rfl rfl H2) rfl rfl (ai rfl rfl rfl (wO x c)) ?_)
  refine R.w_v (fun ⟨_,_,h⟩=>h) (v:=.bool (decide (x=c))) (cH rfl rfl H2 rfl) ?_
  refine R.l_of rfl (fun ⟨_,_,h⟩=>h) (b_ H4 6 (bh rfl) rfl rfl rfl rfl rfl vv rfl rfl (cs':=#[.bool (decide (x=c))]) rfl ?_)
  intro h2 g3
  refine R.g_nil ?_
  refine aR ?_
  have g2:=g3.b3 [0,1,2,3,4,5,6,7,8,9,10,11,12,13,14]
  exact fb ⟨decide (x=c),(by rw [qT,← hJ]; simp [H2]),rfl⟩ (g2.tk [0,2,3,4,5,6,7,8,9,10,11,12])
 ·
  rintro D xs _ x7 hxs ⟨ok,hJ,rfl⟩ g0
  have H9:S _ [_,_,_,_,_,_,_,_,_,_,_,_,_]:=S.unbig (g0.tk [1,0,2,3,4,5,6,7,8,9,10])
  refine ae ?_
  refine R.g_region ?_
  refine R.w_v (fun h=>hL h) (xl H9 4) ?_
  refine R.l_of rfl (fun h=>hL h) (bR (bh rfl) (aP rfl rfl P6) (ez ok 1 (by rw [hJ,hxs]; exact dt hc.2.2) _) ?_)
  rintro _ h1 ⟨rfl,H5⟩
  replace H5:=H9.ab0 H5
  refine bW ?_
  refine R.g_nil ?_
  refine IP ?_
  refine xr (by simp) H5 (k:=3) rfl ?_
  intro h0 h9
  refine Ac [] [] rfl trivial ?_
  exact ⟨rfl,(h9.b7 [2,6,7,8,9,10,11,12])⟩
 rintro D cc pr _ W _ h; exact h.elim
theorem PX (X:XP) (A:PK) (j:Nat) (hX:di X A) (hI:bQ j A) (c:aV) (hp:0≤c.pc∧c.pc<(A.n:Int)) (hc:¬ A.isB c)  (w:World) (HS:S w [(XI X A)]):Calls Tryz.prog 50 #[vP X.g,.agg #[vI c.pc,vI c.bg,vI c.ln]] w fun e w'=>e=.panicked [{ v:=.iface 134 (vI 1),recovered:=false }]∧S w' ([(XI X A)]++[aB w (aT [(XI X A)])]):=by
 have H0:=HS.bu
 have h8:=hI.a8
 refine Ag 19 Tryz.func50 rfl rfl rfl ?_
 have hL:¬ LetsOut (gU Tryz.prog Tryz.f50 fun e w'=>e=.panicked [{ v:=.iface 134 (vI 1),recovered:=false }]∧S w' ([(XI X A)]++[aB w (aT [(XI X A)])])):=by
  rintro ⟨_,_,h⟩
  simp only [gU,reduceCtorEq,false_and,and_false,exists_false,or_false,or_self,exists_const] at h
 refine ah [0,1] ?_
 refine R.g_seq ?_
 refine R.g_region ?_
 refine R.l_of rfl (fun h=>hL h) (fq H0 ?_)
 intro g1 x7 H3
 refine R.g_nil ?_
 refine aR ?_
 refine R.g_seq ?_
 refine R.g_region ?_
 refine R.l_of rfl (fun h=>hL h) (cA H3 Jw ?_)
 intro g4 x6 H6
 refine R.l_of rfl (fun h=>hL h) (b_ H6 0 (bh rfl) rfl rfl rfl rfl rfl vv rfl rfl (cs':=#[.bool false]) rfl ?_)
 intro x5 H8
 refine R.g_nil ?_
 refine aR ?_
 iterate 2 refine R.g_seq ?_
 refine R.g_region ?_
 refine R.w_v (fun h=>hL h) xm ?_
 refine R.w_v (fun h=>hL h) yq ?_
 refine R.w_v (fun h=>hL h) (xl H8 1) ?_
 refine R.l_of rfl (fun h=>hL h) (bR (bh rfl) (aP rfl rfl yy) (rO X.g c.pc _) ?_)
 rintro _ h6 ⟨ba9,bi10,rfl,H7⟩
 replace H7:=H8.ab2 H7
 refine bW ?_
 refine R.g_nil ?_
 refine aR ?_
 refine R.g_block ?_
 have x4:=H7.b3 [0,1,4,2,3,5,6,7,8,9,10,11]
 have x3:=S.noI (x4.tk [0,1,2,3,4,5,6,7,8,9])
 refine jg (α:=aV) (ι:=Nat) (encs:=vY) (base:=(fN [Ob ba9 (.cells #[vP X.g] 26 (0,0)),Ob bi10 (.cells #[vI c.pc] 3 (0,0)),X0 X A])) (by omega) rfl rM (mJ (X:=X) (i:=c.pc) hI) (fun _=>rfl) rfl (fun pre Lx=>∃ (ok:Bool),(ok=decide (c∈pre))∧Lx=[Ob g4 (.cells #[.bool ok] 4 (0,0)),Ob g1 (.cells #[vI c.pc,vI c.bg,vI c.ln] 44 (0,0)),X1 X A,X2 X A,X3 X,bM fA X.ms,X5 X,bM g_ X.bs,aB w (aT [(XI X A)])]) (fun cc pre Lx=>False) (fun p ia=>[(3,vP g1),(4,vP g4),(5,vP ia)]) (fun p ia=>[Ob ia (.cells #[vI p.pc,vI p.bg,vI p.ln] 44 (0,0))]) (fun _ _ _ _ _=>trivial) ⟨false,(by simp),rfl⟩ x3 ?_ ?_ ?_ ?_
 ·
  rintro l1 p Ly c6 x2
  have hL:¬ LetsOut (fun (_:Exit) (_:Act) (_:World)=>False):=fun ⟨_,_,h⟩=>h
  refine ah [3,4,10] ?_
  refine R.g_region ?_
  refine R.l_of rfl (fun h=>hL h) (cA x2 gX ?_)
  intro h7 h5 x1
  refine R.l_of rfl (fun h=>hL h) (b_ x1 0 (bh rfl) rfl rfl rfl rfl rfl dE rfl rfl (cs':=#[vI p.pc,vI p.bg,vI p.ln]) rfl ?_)
  intro h4 x0
  refine R.g_nil ?_
  refine aR ?_
  exact iD h7 ⟨rfl,rfl,rfl,trivial⟩ x0
 ·
  rintro l1 pr x ia II Kx _ x9 ⟨ok,hJ,rfl⟩ hphi g9
  have g8:=S.unbig (L:=[_]) (g9.tk [3,0,1,2,4,5,6,7,8,9,10,11,12])
  refine ah [3,4,5] ?_
  obtain ⟨q9,hpr9,hxq9⟩:=hphi
  have hxm9:x∈A.blocks c.pc:=List.mem_of_getElem? hxq9
  have H4:S _ [_,_,_,_,_,_,_,_,_,_,_,_,_,_,_]:=S.unbig (g8.tk [1,0,2,3,4,5,6,7,8,9,10,11,12])
  refine R.g_block ?_
  refine R.g_region ?_
  refine R.w_v (fun ⟨_,_,h⟩=>h) (xl H4 6) ?_
  refine R.w_v (fun ⟨_,_,h⟩=>h) xm ?_
  rcases ef (ok) with H2 | H2
  ·
   refine R.l_of rfl (fun ⟨_,_,h⟩=>h) (ku H2 ?_)
   refine R.l_of rfl (fun ⟨_,_,h⟩=>h) (ku H2 ?_)
   refine R.l_of rfl (fun ⟨_,_,h⟩=>h) (ku H2 ?_)
   refine R.w_v (fun ⟨_,_,h⟩=>h) (v:=.bool true) (dH rfl rfl H2 rfl) ?_
   refine R.l_of rfl (fun ⟨_,_,h⟩=>h) (b_ H4 6 (bh rfl) rfl rfl rfl rfl rfl vv rfl rfl (cs':=#[.bool true]) rfl ?_)
   intro h3 g7
   refine R.g_nil ?_
   refine aR ?_
   have g6:=g7.b3 [0,1,2,3,4,5,6,7,8,9,10,11,12,13,14]
   exact fb ⟨true,(by rw [qT,← hJ]; simp [H2]),rfl⟩ (g6.tk [0,2,3,4,5,6,7,8,9,10,11,12])
  refine R.l_of rfl (fun ⟨_,_,h⟩=>h) (aJ (cU rfl rfl rfl rfl H2) rfl rfl (fS H4 3) ?_)
  refine R.l_of rfl (fun ⟨_,_,h⟩=>h) (aJ (cU rfl rfl rfl rfl H2) rfl rfl (fS H4 7) ?_)
  refine R.l_of rfl (fun ⟨_,_,h⟩=>h) (aJ (v:=.bool (decide (x=c))) (cU rfl rfl rfl rfl H2) rfl rfl (ai rfl rfl rfl (wO x c)) ?_)
  refine R.w_v (fun ⟨_,_,h⟩=>h) (v:=.bool (decide (x=c))) (cH rfl rfl H2 rfl) ?_
  refine R.l_of rfl (fun ⟨_,_,h⟩=>h) (b_ H4 6 (bh rfl) rfl rfl rfl rfl rfl vv rfl rfl (cs':=#[.bool (decide (x=c))]) rfl ?_)
  intro h2 g5
  refine R.g_nil ?_
  refine aR ?_
  have g3:=g5.b3 [0,1,2,3,4,5,6,7,8,9,10,11,12,13,14]
  exact fb ⟨decide (x=c),(by rw [qT,← hJ]; simp [H2]),rfl⟩ (g3.tk [0,2,3,4,5,6,7,8,9,10,11,12])
 ·
  rintro D xs _ x8 hxs ⟨ok,hJ,rfl⟩ g2
  have H9:S _ [_,_,_,_,_,_,_,_,_,_,_,_,_]:=S.unbig (g2.tk [1,0,2,3,4,5,6,7,8,9,10])
  refine ae ?_
  refine R.g_region ?_
  refine R.w_v (fun h=>hL h) (xl H9 4) ?_
  refine R.l_of rfl (fun h=>hL h) (bR (bh rfl) (aP rfl rfl P6) (fh ok 1 (by rw [hJ,hxs]; exact df fun h9=>hc ⟨hp.1,hp.2,h9⟩) _) ?_)
  rintro _ h1 ⟨rfl,H5⟩
  replace H5:=H9.ab0 H5
  refine bB ?_
  refine yg ?_
  refine xr (by simp) H5 (k:=3) rfl ?_
  intro h0 g0
  refine FV ?_
  exact ⟨rfl,(g0.b7 [2,6,7,8,9,10,11,12])⟩
 rintro D cc pr _ W _ h; exact h.elim
end Go.Proofs.YthmmfhdpkddniaaGreatDoor
