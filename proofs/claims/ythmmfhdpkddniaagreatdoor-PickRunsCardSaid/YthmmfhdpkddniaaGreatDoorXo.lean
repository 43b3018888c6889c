import Derived.Test.YthmmfhdpkddniaaGreatDoorXm
set_option maxRecDepth 20000
set_option maxHeartbeats 4000000
set_option linter.all false
namespace Go.Proofs.YthmmfhdpkddniaaGreatDoor
open Go.RowKit
theorem Ig {al:AL} {i:Int} {c:aV} (h:al=al.filter fun a=>decide (a.2.pc ≠ i)) (hc:c.pc=i):cn al c=[]:=by
 refine List.eq_nil_iff_forall_not_mem.2 fun k hk=>?_
 have h1:=gp.1 hk
 rw [h] at h1
 have:=(List.mem_filter.1 h1).2
 simp [hc] at this
theorem bQ.forget {A:PK} {j:Nat} (hI:bQ j A) (i:Int):bQ j (A.forget i):=by
 have h1:=hI.sub (al:=A.asked.filter fun a=>decide (a.2.pc ≠ i)) List.filter_sublist
 exact { h1 with
   ak:=fun a ha=>by
     obtain ⟨h2,h3,h4,h5⟩:=h1.ak a ha
     exact ⟨h2,h3,fun h=>h4 (List.mem_filter.1 h).1,h5⟩
   hb:=fun c hc=>h1.hb c (List.mem_filter.1 hc).1
   hl:=Nat.le_trans (List.length_filter_le _ _) h1.hl }
theorem EF (X:XP) (A:PK) (j:Nat) (hX:di X A) (hI:bQ j A) (i:Int) (hi:0≤i∧i<(A.n:Int)) (hj:j≤100000)  (w:World) (HS:S w [(XI X A)]):Calls Tryz.prog 55 #[vP X.g,vI i] w fun e w'=>∃ ms' bs',di ({ X with ms:=ms',bs:=bs' }:XP) (A.forget i)∧e=.returned (.tuple #[])∧S w' ([(XI ({ X with ms:=ms',bs:=bs' }:XP) (A.forget i))]++[aB w (aT [(XI X A)])]):=by
 have H0:=HS.bu
 have h8:=hI.a8
 refine qJ 33 Tryz.func55 rfl rfl rfl ?_
 have hL:¬ LetsOut (bodyPostM (WF none) 9 Tryz.prog Tryz.f55 fun e w'=>∃ ms' bs',di ({ X with ms:=ms',bs:=bs' }:XP) (A.forget i)∧e=.returned (.tuple #[])∧S w' ([(XI ({ X with ms:=ms',bs:=bs' }:XP) (A.forget i))]++[aB w (aT [(XI X A)])])):=by
  rintro ⟨_,_,h⟩
  simp only [bodyPostM,reduceCtorEq,false_and,and_false,exists_false,or_false,or_self,exists_const] at h
 refine ah [0,1] ?_
 refine R.g_seq ?_
 refine R.g_region ?_
 refine R.l_of rfl (fun h=>hL h) (fq H0 ?_)
 intro g1 k2 H3
 refine R.l_of rfl (fun h=>hL h) (fq H3 ?_)
 intro g4 k1 H6
 refine R.g_nil ?_
 refine aR ?_
 iterate 2 refine R.g_seq ?_
 refine R.g_region ?_
 refine R.w_v (fun h=>hL h) (xl H6 1) ?_
 refine R.w_v (fun h=>hL h) xn ?_
 iterate 2 refine R.w_v (fun h=>hL h) yq ?_
 refine R.w_v (fun h=>hL h) (xl H6 2) ?_
 refine R.l_of rfl (fun h=>hL h) (A5 (iG Tryz.underlying80 Tryz.underlying3) H6 5 (bh rfl) rfl rfl rfl rfl rfl ?_)
 intro rr7 rem8 b9 hnrem8 hrem8 b8
 refine R.g_nil ?_
 refine aR ?_
 refine R.g_block ?_
 refine R.g_loop (ι:=List (Int × Nat) × Option (Int × Nat) × List Mt × List Bk × AL) (fun (rem,cur,ms,bs,al)=>[(2,vP g1),(3,vP g4),(12,vP rr7)]) (fun (rem,cur,ms,bs,al) wx=>(di ({ X with ms:=ms,bs:=bs }:XP) ({ A with asked:=al }:PK))∧(al=zD A.asked i rem)∧(gV ms=gV X.ms)∧(∀ z∈rem,gV X.ms z.1=some z.2)∧S wx [Ob g4 (.cells #[vI i] 3 (0,0)),Ob g1 (.cells #[vP X.g] 26 (0,0)),X0 X A,X1 X A,X2 X A,MN (Value.int .i64) j_ cO X.mg rr7 (gV X.ms) rem cur,(bM fA ms),Mp pQ j_ qE X.bg (gZ bs),(bM g_ bs),aB w (aT [(XI X A)])]) (fun (rem,cur,ms,bs,al)=>rem.length) (rem8,none,X.ms,X.bs,A.asked) ⟨rfl,rfl,rfl,trivial⟩ ⟨hX,(I6 hX hI hrem8 i).symm,rfl,(fun z hz=>((hrem8 z).1 hz).2),(b8.tk [0,1,2,3,4,5,6,7,8,9])⟩ ?_
 rintro ⟨rem,cur,ms,bs,al⟩ x2 ⟨hXi,hal,hmm,hsub,g3⟩
 refine ah [2,3,12] ?_
 have hsb:al.Sublist A.asked:=by rw [hal]; exact I5 _ _ _
 refine R.g_seq ?_
 refine R.g_region ?_
 refine R.l_of rfl (fun h=>hL h) (GX g3 5 (bh rfl) rfl rfl rfl rfl rfl (fun hnil22=>?_) (fun H2 rem14 wx15 hp16 hok17 hN18 H7 h4 Hx21=>?_))
 ·
  subst hnil22
  have g0:S _ [_,_,_,_,_,_,_,_,_,_]:=g3.unR (k0:=5) rfl
  refine R.w_v (fun h=>hL h) xe ?_
  refine R.g_nil ?_
  refine aR ?_
  refine R.g_seq ?_
  refine R.g_cond_f rfl rfl ?_
  refine R.g_exit ?_
  refine aE ?_
  refine R.g_seq ?_
  refine R.g_region ?_
  refine R.w_v (fun h=>hL h) (xl g0 1) ?_
  refine R.w_v (fun h=>hL h) (xl g0 0) ?_
  refine R.l_of rfl (fun h=>hL h) (bR (bh rfl) (aP rfl rfl yy) (rO X.g i _) ?_)
  rintro _ x1 ⟨ba24,bi25,rfl,h9⟩
  replace h9:=g0.ab2 h9
  refine bW ?_
  refine R.g_nil ?_
  refine aR ?_
  refine R.g_block ?_
  have b7:=h9.b3 [0,1,4,2,3,5,6,7,8,9,10,11]
  have b6:=S.noI (b7.tk [0,1,2,3,4,5,6,7,8,9])
  refine jg (α:=aV) (ι:=Nat) (encs:=vY) (base:=(fN [Ob ba24 (.cells #[vP X.g] 26 (0,0)),Ob bi25 (.cells #[vI i] 3 (0,0)),X0 X A])) (by omega) rfl rM (mJ (X:=X) (i:=i) hI) (fun _=>rfl) rfl (fun pre Lx=>∃ (b2:List Bk),(pV (rK ({ A with asked:=al }:PK) pre) b2)∧Lx=[Ob g4 (.cells #[vI i] 3 (0,0)),Ob g1 (.cells #[vP X.g] 26 (0,0)),X1 X A,X2 X A,X3 X,(bM fA ms),Mp pQ j_ qE X.bg (gZ b2),(bM g_ b2),aB w (aT [(XI X A)])]) (fun cc pre Lx=>False) (fun p ia=>[(2,vP g1),(6,vP ia)]) (fun p ia=>[Ob ia (.cells #[vI p.pc,vI p.bg,vI p.ln] 44 (0,0))]) (fun _ _ _ _ _=>trivial) ⟨bs,(by rw [FR]; exact hXi.bok),rfl⟩ b6 ?_ ?_ ?_ ?_
  ·
   rintro l1 p Ly k5 b1
   have hL:¬ LetsOut (fun (_:Exit) (_:Act) (_:World)=>False):=fun ⟨_,_,h⟩=>h
   refine ah [2,26] ?_
   refine R.g_region ?_
   refine R.l_of rfl (fun h=>hL h) (cA b1 gX ?_)
   intro x5 x0 b0
   refine R.l_of rfl (fun h=>hL h) (b_ b0 0 (bh rfl) rfl rfl rfl rfl rfl dE rfl rfl (cs':=#[vI p.pc,vI p.bg,vI p.ln]) rfl ?_)
   intro g9 w9
   refine R.g_nil ?_
   refine aR ?_
   exact iD x5 ⟨rfl,rfl,trivial⟩ w9
  ·
   rintro l1 pr x ia II Kx _ k4 ⟨b2,hJ,rfl⟩ hphi w8
   have c9:=S.unbig (L:=[_]) (w8.tk [3,0,1,2,4,5,6,7,8,9,10,11,12])
   refine ah [2,6] ?_
   obtain ⟨q9,hpr9,hxq9⟩:=hphi
   have hxm9:x∈A.blocks i:=List.mem_of_getElem? hxq9
   have c8:S _ [_,_,_,_,_,_,_,_,_,_,_,_,_,_,_]:=S.unbig (c9.tk [1,0,2,3,4,5,6,7,8,9,10,11,12])
   refine R.g_block ?_
   refine R.g_anyY [] (fun wx=>S wx [X0 X A,Ob ia (.cells #[vI x.pc,vI x.bg,vI x.ln] 44 (0,0)),Ob g1 (.cells #[vP X.g] 26 (0,0))]) (fun wx=>S wx []) [6] (by kernel_rfl) (by kernel_rfl) (fun ⟨_,_,h⟩=>h) c8 (fun g8 h2=>?_)
   refine Dw 0 2 (h2.tk [2,3,7]) ?_
   refine jI (v:=vP X.g) 1 rfl (bh rfl) rfl rfl rfl (by kernel_rfl) (by kernel_rfl) (by kernel_rfl) (by kernel_rfl) (fun wx=>fm rfl rfl) ?_
   refine jI (v:=.pointer (some ⟨X.g,8,none⟩)) 2 rfl (bh rfl) rfl rfl rfl (by kernel_rfl) (by kernel_rfl) (by kernel_rfl) (by kernel_rfl) (fun wx=>c_ rfl rfl Hi rfl) ?_
   refine Dw 3 0 (h2.tk [2,3,7]) ?_
   refine yt 4 rfl (h2.tk [2,3,7]) (fun _ H=>fS H 1) ?_
   refine sf (i:=5) ?_
   refine aG (sr x _) ?_
   rintro _ g7 ⟨rfl,h0⟩
   replace h0:=h2.ab0 h0
   refine bW ?_
   refine Ca (h0.tk [2,3,7]) (h0.tk []) ?_
   refine sf (i:=6) ?_
   refine wW (x:=x.at) jp h0 12 (bh rfl) rfl rfl rfl rfl rfl ((jQ hI hi hxm9)) ?_
   intro g6 g2
   refine sj rfl (g2.tk []) ?_
   refine Cb ?_
   refine aR ?_
   have hcB9:(rK ({ A with asked:=al }:PK) pr).isB x:=Cs hi.1 hi.2 hxm9
   obtain ⟨b3,x4,c7⟩:=La hJ hcB9 (Ig (al:=al) (by rw [hal,BH,List.filter_filter]; simp) (eQ hxm9)) (g2.tk [12,13,0,1,2,3,4,5,6,7,8,9,10,11,14])
   have c6:=c7.b3 [2,3,4,0,1,5,6,7,8,9,10,11,12,13,14]
   exact fb ⟨b3,(by rw [Dh]; exact x4),rfl⟩ (c6.tk [0,4,5,6,7,8,9,10,11,1,2,12])
  ·
   rintro D xs _ k3 hxs ⟨b2,hJ,rfl⟩ x9
   have x8:S _ [_,_,_,_,_,_,_,_,_,_,_,_,_]:=S.unbig (x9.tk [1,0,2,3,4,5,6,7,8,9,10])
   refine aR ?_
   refine qu x8 3 rfl [] [] rfl (fun h3 x7=>⟨trivial,?_⟩)
   have hal2:al=A.asked.filter fun a=>decide (a.2.pc ≠ i):=by rw [hal,BH]
   have hA9:A.forget i=rK ({ A with asked:=al }:PK) (A.blocks i):=by unfold PK.forget rK; rw [hal2]; congr 1; exact (FS hI i).symm
   rw [hxs] at hJ
   have hF9:S h3 [X0 X A,X1 X A,X2 X A,Mp (Value.int .i64) j_ cO X.mg (gV ms),(bM fA ms),Mp pQ j_ qE X.bg (gZ b2),(bM g_ b2),aB w (aT [(XI X A)])]:=by rw [hmm]; exact x7.tk [2,6,7,8,9,10,11,12]
   have hX9:di ({ X with ms:=ms,bs:=b2 }:XP) (A.forget i):=by rw [hA9]; exact ⟨hXi.ms,hXi.ask,hJ.bn,hJ.bf⟩
   exact ⟨ms,b2,hX9,rfl,S.big (L:=[_,_,_,_,_,_,_]) hF9⟩
  rintro D cc pr _ W _ h; exact h.elim
 have h1:S _ [_,_,_,_,_,_,_,_,_,_]:=Hx21
 refine R.w_v (fun h=>hL h) xe ?_
 refine R.g_nil ?_
 refine aR ?_
 refine R.g_seq ?_
 refine R.g_cond_t rfl rfl ?_
 refine R.g_skip ?_
 refine aR ?_
 refine R.g_block ?_
 refine R.g_seq ?_
 refine R.g_region ?_
 refine R.w_v (fun h=>hL h) (v:=.tuple #[vI H2.1,vP H2.2]) (DO (k:=0) (t:=0) (e0:=0) h1 5 rfl rfl rfl) ?_
 iterate 2 refine R.w_v (fun h=>hL h) xe ?_
 iterate 2 refine R.w_v (fun h=>hL h) xa ?_
 refine R.g_nil ?_
 refine aR ?_
 refine R.g_region ?_
 obtain ⟨iq57,H4,H5,h5,h6,hf62⟩:=uk (show gV ms H2.1=some H2.2 by rw [hmm]; exact hN18)
 rw [← h6]
 refine R.w_v (fun h=>hL h) (xl h1 1) ?_
 iterate 2 refine R.w_v (fun h=>hL h) xm ?_
 refine R.w_v (fun h=>hL h) (v:=.func (.func 111) #[] #[vP g4]) (h_ rfl rfl rfl) ?_
 refine R.l_of rfl (fun h=>hL h) (bR (bh rfl) (aP rfl rfl RR) (wK ({ X with ms:=ms,bs:=bs }:XP) ({ A with asked:=al }:PK) j (({ A with asked:=al }:PK).here) hXi (bQ.sub hI hsb) (by omega) H2.1 iq57 H4 H5 h5 (fun c:aV=>decide (c.pc=i)) 111 #[] #[vP g4] (Ob g4 (.cells #[vI i] 3 (0,0))) (fun _:aV=>True) (Ja g4 H4 i) (fun _ _=>trivial) _ (h1.tk [0,2,7,6,8])) ?_)
 rintro _ g5 ⟨H8,H9,bs65,hY66,x3,x6,rfl,h7⟩
 replace h7:S _ [_,_,_,_,_,_,_,_,_,_,_]:=h1.abI (new:=[_,_,_,_,_,_]) [0,2,7,6,8] h7 rfl
 have hol9:(H4.asked.filter (fun c:aV=>decide (c.pc=i))).length≤H4.asked.length:=List.length_filter_le _ _
 refine bW ?_
 refine R.g_nil ?_
 refine ae ?_
 refine qI (i:=(rem,cur,ms,bs,al)) (rem14,(some H2),(ms.set iq57 ({ H4 with ap:=H8,ac:=H9,asked:=H4.asked.filter fun y9=>!(fun c:aV=>decide (c.pc=i)) y9 }:Mt)),bs65,(cx ({ A with asked:=al }:PK).asked H2.1 (fun c:aV=>decide (c.pc=i)))) ?_ ?_ ?_
 · exact ⟨rfl,rfl,rfl,trivial⟩
 · exact ⟨hY66,(by show cx al H2.1 _=_; rw [hal]; exact F5 hsub hp16 H7),((gm (ms:=ms) (m':=({ H4 with ap:=H8,ac:=H9,asked:=H4.asked.filter fun y9=>!(fun c:aV=>decide (c.pc=i)) y9 }:Mt)) (di.nd hXi (bQ.sub hI hsb)) H5 rfl rfl).trans hmm),(fun z hz=>hsub z ((H7 z).1 hz).1),(h7.tk [1,6,2,7,8,9,4,3,5,10])⟩
 exact h4
theorem RP:aI Tryz.prog 54=true:=by kernel_rfl
theorem Nt (X:XP) (A:PK) (j:Nat) (hX:di X A) (hI:bQ j A) (i:Int) (b:Bool) (hj:j≤100000)  (w:World) (HS:S w [(XI X A)]):Calls Tryz.prog 82 #[vP X.g,vI i,.bool b] w fun e w'=>∃ (Y:XP),Y.g=X.g∧di Y (A.setHA i b)∧e=.returned (vI (A.inE i))∧S w' ([(XI Y (A.setHA i b))]++[aB w (aT [(XI X A)])]):=by
 have H0:=HS.bu
 have h8:=hI.a8
 have hfl9:(A.forget i).had.length=A.n:=hI.hadl
 refine mG Tryz.func82 ?_
 refine ah [0,1,2] ?_
 refine iF ?_
 refine l_of (cA H0 l_ ?_)
 intro g1 g5 H3
 refine ae ?_
 refine l_of (eM (bh rfl) rfl (dc rfl rfl rfl) ?_)
 refine aE ?_
 by_cases H6:0≤i∧i<(A.n:Int)
 ·
  refine l_of (fZ H3 [1,2,3,4,5,6,7,0,8] (oM X A j hX hI i H6 _) ?_)
  intro g4 H8
  refine aE ?_
  have h1:=H8.b7 [0,1,2,3,4,5,6,7,8]
  refine l_of (aG (EF X A j hX hI i H6 (by omega) _ (h1.tk [0])) ?_)
  rintro _ h6 ⟨ms9,bs10,hY11,rfl,g3⟩
  have h0:=h1.au g3
  refine bW ?_
  refine dz ?_
  refine w_v (iH ((i).toNat) (h0.rr 1)) ?_
  refine l_of (mH (j:=((i).toNat)) cP b h0 1 (bh rfl) rfl rfl rfl rfl rfl rfl vv (by omega) ?_)
  intro H5 g2
  have g0:S H5 [Ob X.g (.cells #[.map (some X.mg),vI (((A.forget i).n:Int)),vI (((A.forget i).pz:Int)),vI (((A.forget i).la:Int)),.string ((A.forget i).seed),.bool ((A.forget i).ino),.slice X.hp (((A.forget i).had.set (i).toNat b).length) X.hc,.slice X.wp (((A.forget i).wish).length) X.wc,.map (some X.bg)] 85 (0,0)),Rw 4 1 X.hp (((A.forget i).had.set (i).toNat b).length) X.hc (fl cG ((A.forget i).had.set (i).toNat b)),Rw 40 2 X.wp (((A.forget i).wish).length) X.wc (fl jC ((A.forget i).wish)),Mp (Value.int .i64) j_ cO X.mg (gV ms9),(bM fA ms9),Mp pQ j_ qE X.bg (gZ bs10),(bM g_ bs10),Ob g1 (.cells #[vI 0] 30 (0,0)),aB w (aT [(XI X A)])]:=by rw [show ((A.forget i).had.set (i).toNat b).length=(A.forget i).had.length from List.length_set]; exact g2
  refine cD ?_
  refine ah [6] ?_
  refine iF ?_
  refine l_of (eu g0 7 ?_)
  intro h5 h9
  refine ae ?_
  refine cY ?_
  refine dV (cT g1 _) ?_
  rintro _ _ h4 ⟨⟨rfl,H4⟩,rfl⟩
  replace H4:=h9.ab0 H4
  refine fG H4 7 ?_
  have hE:A.inE i=0:=if_neg (by omega)
  have hA9:A.setHA i b=A.putA i b:=if_pos hE
  rw [hA9,hE]
  exact ⟨({ X with ms:=ms9,bs:=bs10 }:XP),rfl,⟨hY11.ms,hY11.ask,hY11.bn,hY11.bf⟩,rfl,S.big (L:=[_,_,_,_,_,_,_]) (H4.tk [0,1,2,3,4,5,6,8])⟩
 have H9:=H3.b7 [1,2,3,4,5,6,7,0,8]
 refine l_of (aG (qH X A j hX hI i H6 _ (H9.tk [0])) ?_)
 rintro _ h3 ⟨rfl,h7⟩
 have H7:=H9.au h7
 refine bB ?_
 refine aA ?_
 refine aX ?_
 refine dV (bC g1 7 (0) [] _ (H7.ob (k:=7) rfl)) ?_
 rintro _ _ h2 ⟨⟨rfl,H2⟩,rfl⟩
 replace H2:=H7.aK 7 H2
 refine fG H2 0 ?_
 have hE:A.inE i=7:=if_pos (by omega)
 have hA9:A.setHA i b=A:=by unfold PK.setHA; rw [hE]; exact if_neg (by decide)
 rw [hA9]
 exact ⟨X,rfl,hX,(by rw [hE]; rfl),(H2.b7 [1,2,3,4,5,6,7,8])⟩
theorem O3 (X:XP) (A:PK) (j:Nat) (hX:di X A) (hI:bQ j A) (i:Int) (b:Bool) (hj:j≤100000)  (w:World) (HS:S w [(XI X A)]):Calls Tryz.prog 19 #[vP X.g,vI i,.bool b] w fun e w'=>∃ (Y:XP),Y.g=X.g∧di Y (A.doneA i b)∧e=.returned (vI (A.doneE i))∧S w' ([(XI Y (A.doneA i b))]++[aB w (aT [(XI X A)])]):=by
 have H0:=HS.bu
 have h8:=hI.a8
 have hfl9:(A.forget i).had.length=A.n:=hI.hadl
 refine mG Tryz.func19 ?_
 refine ah [0,1,2] ?_
 refine iF ?_
 refine l_of (cA H0 l_ ?_)
 intro g1 w8 H3
 refine ae ?_
 refine l_of (eM (bh rfl) rfl (dc rfl rfl rfl) ?_)
 refine aE ?_
 by_cases H5:0≤i∧i<(A.n:Int)
 ·
  refine l_of (fZ H3 [1,2,3,4,5,6,7,0,8] (oM X A j hX hI i H5 _) ?_)
  intro c9 H8
  refine cp ?_
  refine w_v (iH ((i).toNat) (H8.rr 1)) ?_
  obtain ⟨x9,h4⟩:=(H8.rr 1).exL cP ((i).toNat)
  have hhb9:=gv h4
  refine w_v (nX ((i).toNat) (H8.rr 1) (cP.flAt1 h4 rfl)) ?_
  refine w_v (cj (b:=x9) rfl rfl) ?_
  refine cJ ?_
  rcases ef (x9) with H2 | H2
  ·
   iterate 3 refine dh (aa H2) ?_
   refine w_v (pf (aa H2)) ?_
   refine l_of (aG (fh false 9 rfl _) ?_)
   rintro _ x4 ⟨rfl,h2⟩
   replace h2:=H8.ab0 h2
   refine bB ?_
   refine aA ?_
   refine aX ?_
   refine dV (bC g1 9 (0) [] _ (h2.ob (k:=7) rfl)) ?_
   rintro _ _ x3 ⟨⟨rfl,h1⟩,rfl⟩
   replace h1:=h2.aK 7 h1
   refine fG h1 0 ?_
   have hE:A.doneE i=9:=by unfold PK.doneE; rw [if_neg (by omega),if_pos (.inl (hhb9.trans H2))]
   have hA9:A.doneA i b=A:=by unfold PK.doneA; rw [hE]; exact if_neg (by decide)
   rw [hA9]
   exact ⟨X,rfl,hX,(by rw [hE]; rfl),(h1.b7 [1,2,3,4,5,6,7,8])⟩
  iterate 2 refine aN (aa H2) xm ?_
  have g3:=H8.b7 [0,1,2,3,4,5,6,7,8]
  refine l_of (bR (cU rfl rfl rfl rfl (aa H2)) (aP rfl rfl RP) (DT X A j hX hI i H5 _ (g3.tk [0])) ?_)
  rintro _ x2 ⟨rfl,c8⟩
  have g2:=g3.au c8
  refine bW ?_
  refine w_v (pt (aa H2)) ?_
  rcases ef ((A.wholeB i)) with H4 | H4
  ·
   refine l_of (cz g2 (ez (A.wholeB i) 9 H4 _) ?_)
   intro x1 c7
   refine cD ?_
   refine ah [0,1,2,6] ?_
   refine aC ?_
   have g0:=c7.b7 [0,1,2,3,4,5,6,7,8]
   refine l_of (aG (EF X A j hX hI i H5 (by omega) _ (g0.tk [0])) ?_)
   rintro _ x0 ⟨ms22,bs23,hY24,rfl,c6⟩
   have h7:=g0.au c6
   refine bW ?_
   refine dz ?_
   refine w_v (iH ((i).toNat) (h7.rr 1)) ?_
   refine l_of (mH (j:=((i).toNat)) cP b h7 1 (bh rfl) rfl rfl rfl rfl rfl rfl vv (by omega) ?_)
   intro h3 x8
   have x7:S h3 [Ob X.g (.cells #[.map (some X.mg),vI (((A.forget i).n:Int)),vI (((A.forget i).pz:Int)),vI (((A.forget i).la:Int)),.string ((A.forget i).seed),.bool ((A.forget i).ino),.slice X.hp (((A.forget i).had.set (i).toNat b).length) X.hc,.slice X.wp (((A.forget i).wish).length) X.wc,.map (some X.bg)] 85 (0,0)),Rw 4 1 X.hp (((A.forget i).had.set (i).toNat b).length) X.hc (fl cG ((A.forget i).had.set (i).toNat b)),Rw 40 2 X.wp (((A.forget i).wish).length) X.wc (fl jC ((A.forget i).wish)),Mp (Value.int .i64) j_ cO X.mg (gV ms22),(bM fA ms22),Mp pQ j_ qE X.bg (gZ bs23),(bM g_ bs23),Ob g1 (.cells #[vI 0] 30 (0,0)),aB w (aT [(XI X A)])]:=by rw [show ((A.forget i).had.set (i).toNat b).length=(A.forget i).had.length from List.length_set]; exact x8
   refine cD ?_
   refine ah [6] ?_
   refine iF ?_
   refine l_of (eu x7 7 ?_)
   intro g9 x6
   refine ae ?_
   refine cY ?_
   refine dV (cT g1 _) ?_
   rintro _ _ g8 ⟨⟨rfl,h0⟩,rfl⟩
   replace h0:=x6.ab0 h0
   refine fG h0 7 ?_
   have hE:A.doneE i=0:=by unfold PK.doneE; rw [if_neg (by omega),if_neg (by rintro (h9 | h9); exact absurd (hhb9.symm.trans h9) (by rw [H2]; decide); exact absurd (H4.symm.trans h9) (by decide))]
   have hA9:A.doneA i b=A.putA i b:=if_pos hE
   rw [hA9,hE]
   exact ⟨({ X with ms:=ms22,bs:=bs23 }:XP),rfl,⟨hY24.ms,hY24.ask,hY24.bn,hY24.bf⟩,rfl,S.big (L:=[_,_,_,_,_,_,_]) (h0.tk [0,1,2,3,4,5,6,8])⟩
  refine l_of (aG (fh (A.wholeB i) 9 H4 _) ?_)
  rintro _ g7 ⟨rfl,H9⟩
  replace H9:=g2.ab0 H9
  refine bB ?_
  refine aA ?_
  refine aX ?_
  refine dV (bC g1 9 (0) [] _ (H9.ob (k:=7) rfl)) ?_
  rintro _ _ g6 ⟨⟨rfl,H7⟩,rfl⟩
  replace H7:=H9.aK 7 H7
  refine fG H7 0 ?_
  have hE:A.doneE i=9:=by unfold PK.doneE; rw [if_neg (by omega),if_pos (.inr H4)]
  have hA9:A.doneA i b=A:=by unfold PK.doneA; rw [hE]; exact if_neg (by decide)
  rw [hA9]
  exact ⟨X,rfl,hX,(by rw [hE]; rfl),(H7.b7 [1,2,3,4,5,6,7,8])⟩
 have h6:=H3.b7 [1,2,3,4,5,6,7,0,8]
 refine l_of (aG (qH X A j hX hI i H5 _ (h6.tk [0])) ?_)
 rintro _ g5 ⟨rfl,x5⟩
 have h5:=h6.au x5
 refine bB ?_
 refine aA ?_
 refine aX ?_
 refine dV (bC g1 7 (0) [] _ (h5.ob (k:=7) rfl)) ?_
 rintro _ _ g4 ⟨⟨rfl,H6⟩,rfl⟩
 replace H6:=h5.aK 7 H6
 refine fG H6 0 ?_
 have hE:A.doneE i=7:=if_pos (by omega)
 have hA9:A.doneA i b=A:=by unfold PK.doneA; rw [hE]; exact if_neg (by decide)
 rw [hA9]
 exact ⟨X,rfl,hX,(by rw [hE]; rfl),(H6.b7 [1,2,3,4,5,6,7,8])⟩
end Go.Proofs.YthmmfhdpkddniaaGreatDoor
