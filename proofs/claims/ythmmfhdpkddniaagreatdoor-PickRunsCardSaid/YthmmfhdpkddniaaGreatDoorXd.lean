import Derived.Test.YthmmfhdpkddniaaGreatDoorXc
set_option maxRecDepth 20000
set_option maxHeartbeats 4000000
set_option linter.all false
namespace Go.Proofs.YthmmfhdpkddniaaGreatDoor
open Go.RowKit
theorem OP:u_ Tryz.prog 85 6=some 6:=by kernel_rfl
theorem zK (X:XP) (A:PK) (j:Nat) (hX:di X A) (hI:bQ j A) (i:Int) (hi:0≤i∧i<(A.n:Int))  (w:World) (HS:S w [(XI X A)]):Calls Tryz.prog 58 #[vP X.g,vI i] w fun e w'=>e=.returned (.bool (A.openB i))∧S w' ([(XI X A)]++[aB w (aT [(XI X A)])]):=by
 have H0:=HS.bu
 have h8:=hI.a8
 refine en Tryz.func58 ?_
 refine ah [0,1] ?_
 refine eG ?_
 refine w_v (iH ((i).toNat) (H0.rr 1)) ?_
 obtain ⟨x1,H4⟩:=(H0.rr 1).exL cP ((i).toNat)
 have hhb9:=gv H4
 refine w_v (nX ((i).toNat) (H0.rr 1) (cP.flAt1 H4 rfl)) ?_
 refine w_v (cj (b:=x1) rfl rfl) ?_
 refine cJ ?_
 rcases ef (x1) with H2 | H2
 ·
  iterate 9 refine dh (aa H2) ?_
  refine w_v (pf (aa H2)) ?_
  refine ae ?_
  refine ah [4] ?_
  refine aR ?_
  refine af ?_
  have hE:A.openB i=false:=A8 (hhb9.trans H2)
  rw [hE]
  exact ⟨rfl,(H0.b7 [0,1,2,3,4,5,6,7])⟩
 refine aN (aa H2) xm ?_
 refine aN (aa H2) xn ?_
 refine aN (aa H2) (xf 7) ?_
 refine aN (aa H2) (xl H0 0) ?_
 refine aN (aa H2) xm ?_
 refine aN (aa H2) (iH ((i).toNat) (H0.rr 2)) ?_
 refine aN (v:=.pointer ((X.wp).map fun q=>q.add (((i).toNat) * 2+0))) (aa H2) (aH (bJ (m:=((i).toNat) * 2) ((H0.rr 2).some (by omega)) rfl rfl sH) rfl) ?_
 obtain ⟨x3,H3⟩:=(H0.rr 2).exL lA ((i).toNat)
 have hlv9:=vi H3
 have hdu9:=wj H3
 have hwr9:=hI.wishr x3 (List.mem_of_getElem? H3)
 refine aN (aa H2) (eX (i:=0) (j:=((i).toNat)) lA (H0.rr 2) H3 rfl rfl Tryz.underlying3 rfl rfl) ?_
 refine aN (aa H2) (ai rfl rfl rfl fK) ?_
 refine w_v (pt (aa H2)) ?_
 refine ae ?_
 refine ah [4] ?_
 refine aR ?_
 refine af ?_
 have hE:A.openB i=(decide ((0:Int)<x3.lv)):=by unfold PK.openB; rw [hhb9,H2,show A.lv i=x3.lv from hlv9]; rfl
 rw [hE]
 exact ⟨rfl,(H0.b7 [0,1,2,3,4,5,6,7])⟩
theorem F3 {A:PK} {i:Int} (h:A.openB i=false):A.endF i=true:=by unfold PK.endF; rw [h]; rfl
theorem K4 {A:PK} {i:Int} (h:A.openB i=true) (h2:∀ y∈A.blocks i,A.freeC y=false):A.endF i=true:=by
 unfold PK.endF
 rw [h]
 show (false || _)=true
 rw [Bool.false_or,List.all_eq_true]
 exact fun y hy=>by rw [h2 y hy]; rfl
theorem IY {A:PK} {i:Int} (h:A.openB i=true) {c:aV} (hc:c∈A.blocks i) (h2:A.freeC c=true):A.endF i=false:=by
 unfold PK.endF
 rw [h]
 show (false || _)=false
 rw [Bool.false_or,List.all_eq_false]
 exact ⟨c,hc,by rw [h2]; decide⟩
theorem lZ {X:XP} {A:PK} (hX:di X A) {c:aV} {i:Int} (hc:c∈A.blocks i) {b:Bool} (h:(gZ X.bs c.at).isSome=b):A.freeC c=!b:=by
 cases b with
 | true=>exact hX.yes hc h
 | false=>exact hX.no hc h
theorem BA (X:XP) (A:PK) (j:Nat) (hX:di X A) (hI:bQ j A)  (w:World) (HS:S w [(XI X A)]):Calls Tryz.prog 60 #[vP X.g] w fun e w'=>e=.returned (.bool A.endB)∧S w' ([(XI X A)]++[aB w (aT [(XI X A)])]):=by
 have H0:=HS.bu
 have h8:=hI.a8
 replace H0:=H0.nilMarks
 refine qJ 29 Tryz.func60 rfl rfl rfl ?_
 have hL:¬ LetsOut (bodyPostM (WF none) 9 Tryz.prog Tryz.f60 fun e w'=>e=.returned (.bool A.endB)∧S w' ([(XI X A)]++[aB w (aT [(XI X A)])])):=by
  rintro ⟨_,_,h⟩
  simp only [bodyPostM,reduceCtorEq,false_and,and_false,exists_false,or_false,or_self,exists_const] at h
 refine ah [0] ?_
 refine R.g_seq ?_
 refine R.g_region ?_
 refine R.l_of rfl (fun h=>hL h) (fq H0 ?_)
 intro g1 w8 H3
 refine R.l_of rfl (fun h=>hL h) (cA H3 Jw ?_)
 intro g4 c9 H6
 refine R.g_nil ?_
 refine aR ?_
 iterate 2 refine R.g_seq ?_
 refine R.g_region ?_
 refine R.w_v (fun h=>hL h) (xl H6 1) ?_
 refine R.w_v (fun h=>hL h) xn ?_
 refine R.w_v (fun h=>hL h) yq ?_
 refine R.w_v (fun h=>hL h) (xl H6 3) ?_
 refine R.w_v (fun h=>hL h) xm ?_
 refine R.g_nil ?_
 refine aR ?_
 refine R.g_block ?_
 refine vL (ι:=Nat × List Nat) (fun (ii,Ds)=>[(1,vP g1),(2,vP g4),(8,vI A.n),(9,vI ii)]) (fun (ii,Ds)=>Ds.map vX) (fun (ii,Ds) wx=>(ii≤A.n)∧(∀ y∈(jo A.n).take ii,A.endF y=true)∧S wx [Ob g4 (.cells #[.bool false] 4 (0,0)),Ob g1 (.cells #[vP X.g] 26 (0,0)),jc Ds,X0 X A,X1 X A,X2 X A,X3 X,bM fA X.ms,X5 X,bM g_ X.bs,aB w (aT [(XI X A)])]) (fun (ii,Ds)=>A.n - ii) (0,[]) ⟨rfl,rfl,rfl,rfl,trivial⟩ rfl ⟨(Nat.zero_le _),(fun y hy=>by simp at hy),(H6.tk [0,1,2,3,4,5,6,7,8,9,10])⟩ ?_
 rintro ⟨ii,Ds⟩ c8 ⟨hq,hno,H8⟩
 refine ah [1,2,8,9] ?_
 refine R.g_seq ?_
 refine R.g_region ?_
 refine R.w_v (fun h=>hL h) (ai rfl rfl rfl dG) ?_
 refine R.g_nil ?_
 refine aR ?_
 refine R.g_seq ?_
 by_cases h1:((ii:Int):Int)<(A.n:Int)
 ·
  refine R.g_cond_t rfl (dt h1) ?_
  refine R.g_skip ?_
  refine aR ?_
  refine R.g_seq ?_
  refine R.g_block ?_
  refine R.g_seq ?_
  refine R.g_region ?_
  refine R.w_v (fun h=>hL h) xm ?_
  refine R.w_v (fun h=>hL h) xa ?_
  refine R.g_nil ?_
  refine aR ?_
  iterate 2 refine R.g_seq ?_
  refine R.g_region ?_
  refine R.w_v (fun h=>hL h) (xl H8 1) ?_
  refine R.w_v (fun h=>hL h) xm ?_
  refine R.l_of rfl (fun h=>hL h) (fZ H8 [3,4,5,6,7,8,9,0,1,2,10] (zK X A j hX hI (ii:Int) (by omega) _) ?_)
  intro g0 h0
  refine R.w_v (fun h=>hL h) (v:=.bool (!((A.openB (ii:Int))))) (cj (b:=(A.openB (ii:Int))) rfl rfl) ?_
  refine R.g_nil ?_
  refine aR ?_
  rcases ef ((A.openB (ii:Int))) with H4 | H4
  ·
   refine R.g_cond_f rfl (aa H4) ?_
   refine R.g_skip ?_
   refine aR ?_
   refine R.g_seq ?_
   refine R.g_region ?_
   refine R.w_v (fun h=>hL h) (xl h0 8) ?_
   refine R.w_v (fun h=>hL h) xm ?_
   refine R.l_of rfl (fun h=>hL h) (bR (bh rfl) (aP rfl rfl yy) (rO X.g (ii:Int) _) ?_)
   rintro _ h9 ⟨ba15,bi16,rfl,H9⟩
   replace H9:=h0.ab2 H9
   refine bW ?_
   refine R.g_nil ?_
   refine aR ?_
   refine R.g_block ?_
   have c7:=H9.b3 [0,1,2,3,4,5,6,7,8,9,10,11,12]
   have c6:=S.noI (c7.tk [0,1,2,3,4,5,6,7,8,9,10])
   refine jg (α:=aV) (ι:=Nat) (encs:=vY) (base:=(fN [Ob ba15 (.cells #[vP X.g] 26 (0,0)),Ob bi16 (.cells #[vI ii] 3 (0,0)),X0 X A])) (by omega) rfl rM (mJ (X:=X) (i:=(ii:Int)) hI) (fun _=>rfl) rfl (fun pre Lx=>(∀ y∈pre,A.freeC y=false)∧Lx=[X1 X A,X2 X A,X3 X,bM fA X.ms,X5 X,bM g_ X.bs,Ob g4 (.cells #[.bool false] 4 (0,0)),Ob g1 (.cells #[vP X.g] 26 (0,0)),jc Ds,aB w (aT [(XI X A)])]) (fun cc pre Lx=>(cc=.ret∧(A.endB=false)∧Lx=[X1 X A,X2 X A,X3 X,bM fA X.ms,X5 X,bM g_ X.bs,Ob g4 (.cells #[.bool false] 4 (0,0)),Ob g1 (.cells #[vP X.g] 26 (0,0)),jc Ds,aB w (aT [(XI X A)])])) (fun p ia=>[(1,vP g1),(2,vP g4),(4,vP ia)]) (fun p ia=>[Ob ia (.cells #[vI p.pc,vI p.bg,vI p.ln] 44 (0,0))]) (fun _ _ _ _ _=>trivial) ⟨(fun _ h=>by cases h),rfl⟩ c6 ?_ ?_ ?_ ?_
   ·
    rintro l1 p Ly b2 x9
    have hL:¬ LetsOut (fun (_:Exit) (_:Act) (_:World)=>False):=fun ⟨_,_,h⟩=>h
    refine ah [1,2,19] ?_
    refine R.g_region ?_
    refine R.l_of rfl (fun h=>hL h) (cA x9 gX ?_)
    intro g2 h7 x8
    refine R.l_of rfl (fun h=>hL h) (b_ x8 0 (bh rfl) rfl rfl rfl rfl rfl dE rfl rfl (cs':=#[vI p.pc,vI p.bg,vI p.ln]) rfl ?_)
    intro h6 x7
    refine R.g_nil ?_
    refine aR ?_
    exact iD g2 ⟨rfl,rfl,rfl,trivial⟩ x7
   ·
    rintro l1 pr x ia II Kx _ b1 ⟨hJ,rfl⟩ hphi x6
    have x5:=S.unbig (L:=[_]) (x6.tk [3,0,1,2,4,5,6,7,8,9,10,11,12,13])
    refine ah [1,2,4] ?_
    obtain ⟨q9,hpr9,hxq9⟩:=hphi
    have hxm9:x∈A.blocks (ii:Int):=List.mem_of_getElem? hxq9
    have x4:S _ [_,_,_,_,_,_,_,_,_,_,_,_,_,_,_,_]:=S.unbig (x5.tk [1,0,2,3,4,5,6,7,8,9,10,11,12,13])
    refine R.g_block ?_
    refine R.g_seq ?_
    refine R.g_aS [] [] (fun ⟨_,_,h⟩=>h) x4 (fun h5 H7=>?_)
    refine eY 0 13 H7 ?_
    refine aU 1 H7 ?_
    refine aU 2 H7 ?_
    refine eY 3 2 H7 ?_
    refine bT 4 rfl H7 (fun _ H=>fS H 3) ?_
    refine bG (i:=5) ?_
    refine aG (sr x _) ?_
    rintro _ h4 ⟨rfl,H5⟩
    replace H5:=H7.ab0 H5
    refine bW ?_
    refine bF H5 ?_
    refine bT (v:=(pJ ((gZ X.bs) x.at))) 6 rfl H5 (fun _ H=>aH (bU (x:=x.at) jp H 10 rfl rfl rfl rfl ((jQ hI (i:=(ii:Int)) (by omega) hxm9)) vw) (rfl)) ?_
    refine bT (v:=.bool (!(((gZ X.bs) x.at).isSome))) 7 rfl H5 (fun _ _=>ai rfl rfl rfl (oD Tryz.underlying98)) ?_
    refine fP ?_
    refine aR ?_
    rcases ef (((gZ X.bs) x.at).isSome) with H2 | H2
    ·
     obtain ⟨ir,r,hrq,hrk,hrb,hrf⟩:=uM H2
     rw [hG hrb]
     refine R.g_cond_f rfl (aa H2) ?_
     refine R.g_skip ?_
     refine aR ?_
     have x3:=H5.b3 [0,1,2,3,4,5,6,7,8,9,10,11,12,13,14,15]
     exact fb ⟨(fun y hy=>by rcases List.mem_append.1 hy with hy | hy; exact hJ y hy; rw [List.mem_singleton] at hy; subst hy; exact lZ hX hxm9 H2),rfl⟩ (x3.tk [0,2,3,4,5,6,7,8,9,10,11,12,13])
    refine R.g_cond_t rfl (aa H2) ?_
    refine R.g_seq ?_
    refine R.g_region ?_
    refine R.l_of rfl (fun ⟨_,_,h⟩=>h) (b_ H5 12 (bh rfl) rfl rfl rfl rfl rfl vv rfl rfl (cs':=#[.bool false]) rfl ?_)
    intro h3 x2
    refine R.g_nil ?_
    refine aR ?_
    refine R.g_ret ?_
    refine aR ?_
    have x1:=x2.b3 [0,1,2,3,4,5,6,7,8,9,10,11,12,13,14,15]
    exact wv (⟨rfl,(by rw [vO,List.all_eq_false]; exact ⟨(ii:Int),List.mem_of_getElem? (cK (by omega)),by rw [IY H4 hxm9 (lZ hX hxm9 H2)]; decide⟩),rfl⟩) (x1.tk [0,2,3,4,5,6,7,8,9,10,11,12,13])
   ·
    rintro D xs _ b0 hxs ⟨hJ,rfl⟩ x0
    have g9:S _ [_,_,_,_,_,_,_,_,_,_,_,_,_,_]:=S.unbig (x0.tk [1,0,2,3,4,5,6,7,8,9,10,11])
    have g8:S _ [_,_,_,_,_,_,_,_,_,_,_,_,_]:=S.consMark (g9.tk [3,0,1,2,4,5,6,7,8,9,10,11,12,13]) (k:=11) rfl
    refine aC ?_
    refine R.g_region ?_
    refine R.w_v (fun h=>hL h) (v:=vI (((ii+1:Nat):Int))) (ai rfl rfl rfl (dY (by rw [jD (by omega)]; omega))) ?_
    refine R.w_v (fun h=>hL h) xm ?_
    refine R.g_nil ?_
    refine aR ?_
    refine nw (i:=(ii,Ds)) ((ii+1),(D :: Ds)) ?_ rfl ?_ ?_
    · exact ⟨rfl,rfl,rfl,rfl,trivial⟩
    · exact ⟨(by omega),(d6 hno (cK (by omega)) (K4 H4 (by rw [hxs] at hJ; exact hJ))),(g8.tk [9,10,11,2,3,4,5,6,7,8,12])⟩
    (try dsimp only); omega
   rintro D cc pr _ w9 _ ⟨rfl,hst,rfl⟩ g7
   have g6:S _ [_,_,_,_,_,_,_,_,_,_,_,_,_,_]:=S.unbig (g7.tk [1,0,2,3,4,5,6,7,8,9,10,11])
   have g5:S _ [_,_,_,_,_,_,_,_,_,_,_,_,_]:=S.consMark (g6.tk [3,0,1,2,4,5,6,7,8,9,10,11,12,13]) (k:=11) rfl
   refine zX ?_
   refine a_ ?_
   refine lx (g5.tk [11,0,1,2,3,4,5,6,7,8,9,10,12]) [.cell 2 4] [.bool false] rfl (fun W' hW=>⟨⟨⟨_,rfl,dp Tryz.underlying4 rfl (hW.cell (k:=9) rfl rfl)⟩,trivial⟩,?_⟩)
   replace hW:S W' [Ob ba15 (.cells #[vP X.g] 26 (0,0)),Ob bi16 (.cells #[vI ii] 3 (0,0)),X0 X A,X1 X A,X2 X A,X3 X,bM fA X.ms,X5 X,bM g_ X.bs,Ob g4 (.cells #[.bool false] 4 (0,0)),Ob g1 (.cells #[vP X.g] 26 (0,0)),aB w (aT [(XI X A)])]:=hW
   rw [hst]
   exact ⟨rfl,(hW.b7 [2,3,4,5,6,7,8,11])⟩
  refine R.g_cond_t rfl (aa H4) ?_
  refine R.g_exit ?_
  refine aC ?_
  refine R.g_region ?_
  refine R.w_v (fun h=>hL h) (v:=vI (((ii+1:Nat):Int))) (ai rfl rfl rfl (dY (by rw [jD (by omega)]; omega))) ?_
  refine R.w_v (fun h=>hL h) xm ?_
  refine R.g_nil ?_
  refine aR ?_
  refine nw (i:=(ii,Ds)) ((ii+1),Ds) ?_ rfl ?_ ?_
  · exact ⟨rfl,rfl,rfl,rfl,trivial⟩
  · exact ⟨(by omega),(d6 hno (cK (by omega)) (F3 H4)),(h0.tk [7,8,9,0,1,2,3,4,5,6,10])⟩
  (try dsimp only); omega
 refine R.g_cond_f rfl (df h1) ?_
 refine R.g_exit ?_
 refine aE ?_
 refine R.g_seq ?_
 refine R.g_region ?_
 refine R.l_of rfl (fun h=>hL h) (b_ H8 0 (bh rfl) rfl rfl rfl rfl rfl vv rfl rfl (cs':=#[.bool true]) rfl ?_)
 intro h2 g3
 refine R.g_nil ?_
 refine aR ?_
 refine R.g_ret ?_
 refine lx (g3.tk [2,0,1,3,4,5,6,7,8,9,10]) [.cell 2 4] [.bool true] rfl (fun W' hW=>⟨⟨⟨_,rfl,dp Tryz.underlying4 rfl (hW.cell (k:=0) rfl rfl)⟩,trivial⟩,?_⟩)
 replace hW:S W' [Ob g4 (.cells #[.bool true] 4 (0,0)),Ob g1 (.cells #[vP X.g] 26 (0,0)),X0 X A,X1 X A,X2 X A,X3 X,bM fA X.ms,X5 X,bM g_ X.bs,aB w (aT [(XI X A)])]:=hW
 have hE:A.endB=true:=by rw [vO,List.all_eq_true]; intro y hy; exact hno y (by rw [show ii=A.n from by omega,List.take_of_length_le (by rw [je]; exact Nat.le_refl _)]; exact hy)
 rw [hE]
 exact ⟨rfl,(hW.b7 [2,3,4,5,6,7,8,9])⟩
theorem Oe (X:XP) (A:PK) (j:Nat) (hX:di X A) (hI:bQ j A)  (w:World) (HS:S w [(XI X A)]):Calls Tryz.prog 22 #[vP X.g] w fun e w'=>e=.returned (vI (A.leftN:Int))∧S w' ([(XI X A)]++[aB w (aT [(XI X A)])]):=by
 have H0:=HS.bu
 have h8:=hI.a8
 replace H0:=H0.nilMarks
 refine qJ 44 Tryz.func22 rfl rfl rfl ?_
 have hL:¬ LetsOut (bodyPostM (WF none) 9 Tryz.prog Tryz.f22 fun e w'=>e=.returned (vI (A.leftN:Int))∧S w' ([(XI X A)]++[aB w (aT [(XI X A)])])):=by
  rintro ⟨_,_,h⟩
  simp only [bodyPostM,reduceCtorEq,false_and,and_false,exists_false,or_false,or_self,exists_const] at h
 refine ah [0] ?_
 refine R.g_seq ?_
 refine R.g_region ?_
 refine R.l_of rfl (fun h=>hL h) (fq H0 ?_)
 intro g1 b0 H3
 refine R.w_v (fun h=>hL h) xa ?_
 refine R.g_nil ?_
 refine aR ?_
 refine R.g_seq ?_
 refine R.g_region ?_
 refine R.l_of rfl (fun h=>hL h) (cA H3 Av ?_)
 intro g4 w9 H6
 refine R.l_of rfl (fun h=>hL h) (b_ H6 0 (bh rfl) rfl rfl rfl rfl rfl si rfl rfl (cs':=#[vI 0]) rfl ?_)
 intro w8 H8
 refine R.g_nil ?_
 refine aR ?_
 iterate 2 refine R.g_seq ?_
 refine R.g_region ?_
 refine R.w_v (fun h=>hL h) (xl H8 1) ?_
 refine R.w_v (fun h=>hL h) (v:=.bool false) (ai rfl rfl rfl (j3 (r:=false) Tryz.underlying26 rfl)) ?_
 refine R.g_nil ?_
 refine aR ?_
 refine R.g_cond_f rfl rfl ?_
 refine R.g_skip ?_
 refine aR ?_
 iterate 2 refine R.g_seq ?_
 refine R.g_region ?_
 refine R.w_v (fun h=>hL h) (xl H8 1) ?_
 refine R.w_v (fun h=>hL h) xn ?_
 refine R.w_v (fun h=>hL h) yq ?_
 refine R.w_v (fun h=>hL h) (xl H8 3) ?_
 refine R.w_v (fun h=>hL h) xm ?_
 refine R.g_nil ?_
 refine aR ?_
 refine R.g_block ?_
 refine vL (ι:=Nat × Nat × List Nat) (fun (ii,s,Ds)=>[(1,vP g1),(2,vI 0),(3,vP g4),(12,vI A.n),(13,vI ii)]) (fun (ii,s,Ds)=>Ds.map vX) (fun (ii,s,Ds) wx=>(ii≤A.n)∧(s=AA A ii)∧S wx [Ob g4 (.cells #[vI s] 3 (0,0)),Ob g1 (.cells #[vP X.g] 26 (0,0)),jc Ds,X0 X A,X1 X A,X2 X A,X3 X,bM fA X.ms,X5 X,bM g_ X.bs,aB w (aT [(XI X A)])]) (fun (ii,s,Ds)=>A.n - ii) (0,0,[]) ⟨rfl,rfl,rfl,rfl,rfl,trivial⟩ rfl ⟨(Nat.zero_le _),rfl,(H8.tk [0,1,2,3,4,5,6,7,8,9,10])⟩ ?_
 rintro ⟨ii,s,Ds⟩ c9 ⟨hq,hs,h1⟩
 refine ah [1,2,3,12,13] ?_
 refine R.g_seq ?_
 refine R.g_region ?_
 refine R.w_v (fun h=>hL h) (ai rfl rfl rfl dG) ?_
 refine R.g_nil ?_
 refine aR ?_
 refine R.g_seq ?_
 by_cases h0:((ii:Int):Int)<(A.n:Int)
 ·
  refine R.g_cond_t rfl (dt h0) ?_
  refine R.g_skip ?_
  refine aR ?_
  refine R.g_seq ?_
  refine R.g_block ?_
  refine R.g_seq ?_
  refine R.g_region ?_
  refine R.w_v (fun h=>hL h) xm ?_
  refine R.w_v (fun h=>hL h) xa ?_
  refine R.g_nil ?_
  refine aR ?_
  iterate 2 refine R.g_seq ?_
  refine R.g_region ?_
  refine R.w_v (fun h=>hL h) (xl h1 1) ?_
  refine R.w_v (fun h=>hL h) xm ?_
  refine R.l_of rfl (fun h=>hL h) (fZ h1 [3,4,5,6,7,8,9,0,1,2,10] (zK X A j hX hI (ii:Int) (by omega) _) ?_)
  intro g5 h3
  refine R.w_v (fun h=>hL h) (v:=.bool (!((A.openB (ii:Int))))) (cj (b:=(A.openB (ii:Int))) rfl rfl) ?_
  refine R.g_nil ?_
  refine aR ?_
  rcases ef ((A.openB (ii:Int))) with H5 | H5
  ·
   refine R.g_cond_f rfl (aa H5) ?_
   refine R.g_skip ?_
   refine aR ?_
   refine R.g_seq ?_
   refine R.g_region ?_
   refine R.w_v (fun h=>hL h) (xl h3 8) ?_
   refine R.w_v (fun h=>hL h) xm ?_
   refine R.l_of rfl (fun h=>hL h) (bR (bh rfl) (aP rfl rfl yy) (rO X.g (ii:Int) _) ?_)
   rintro _ g3 ⟨ba17,bi18,rfl,h2⟩
   replace h2:=h3.ab2 h2
   refine bW ?_
   refine R.g_nil ?_
   refine aR ?_
   refine R.g_block ?_
   have c8:=h2.b3 [0,1,2,3,4,5,6,7,8,9,10,11,12]
   have c7:=S.noI (c8.tk [0,1,2,3,4,5,6,7,8,9,10])
   refine jg (α:=aV) (ι:=Nat) (encs:=vY) (base:=(fN [Ob ba17 (.cells #[vP X.g] 26 (0,0)),Ob bi18 (.cells #[vI ii] 3 (0,0)),X0 X A])) (by omega) rfl rM (mJ (X:=X) (i:=(ii:Int)) hI) (fun _=>rfl) rfl (fun pre Lx=>∃ (n3:Nat),(n3=s+((pre).filter fun c=>!decide (c∈A.here)).length∧n3≤s+(pre).length)∧Lx=[X1 X A,X2 X A,X3 X,bM fA X.ms,X5 X,bM g_ X.bs,Ob g4 (.cells #[vI n3] 3 (0,0)),Ob g1 (.cells #[vP X.g] 26 (0,0)),jc Ds,aB w (aT [(XI X A)])]) (fun cc pre Lx=>False) (fun p ia=>[(1,vP g1),(3,vP g4),(5,vP ia)]) (fun p ia=>[Ob ia (.cells #[vI p.pc,vI p.bg,vI p.ln] 44 (0,0))]) (fun _ _ _ _ _=>trivial) ⟨s,⟨rfl,Nat.le_refl _⟩,rfl⟩ c7 ?_ ?_ ?_ ?_
   ·
    rintro l1 p Ly b6 c6
    have hL:¬ LetsOut (fun (_:Exit) (_:Act) (_:World)=>False):=fun ⟨_,_,h⟩=>h
    refine ah [1,3,23] ?_
    refine R.g_region ?_
    refine R.l_of rfl (fun h=>hL h) (cA c6 gX ?_)
    intro g6 g2 x9
    refine R.l_of rfl (fun h=>hL h) (b_ x9 0 (bh rfl) rfl rfl rfl rfl rfl dE rfl rfl (cs':=#[vI p.pc,vI p.bg,vI p.ln]) rfl ?_)
    intro g0 x8
    refine R.g_nil ?_
    refine aR ?_
    exact iD g6 ⟨rfl,rfl,rfl,trivial⟩ x8
   ·
    rintro l1 pr x ia II Kx _ b2 ⟨n3,hJ,rfl⟩ hphi x7
    have x6:=S.unbig (L:=[_]) (x7.tk [3,0,1,2,4,5,6,7,8,9,10,11,12,13])
    refine ah [1,3,5] ?_
    obtain ⟨q9,hpr9,hxq9⟩:=hphi
    have hxm9:x∈A.blocks (ii:Int):=List.mem_of_getElem? hxq9
    have hpl9:pr.length≤8:=by rw [hpr9]; have h9:=(cZ hI (ii:Int)).2; rw [List.length_take]; omega
    have x5:S _ [_,_,_,_,_,_,_,_,_,_,_,_,_,_,_,_]:=S.unbig (x6.tk [1,0,2,3,4,5,6,7,8,9,10,11,12,13])
    refine R.g_block ?_
    refine R.g_seq ?_
    refine R.g_aS [] [] (fun ⟨_,_,h⟩=>h) x5 (fun h7 H9=>?_)
    refine eY 0 13 H9 ?_
    refine aU 1 H9 ?_
    refine aU 2 H9 ?_
    refine eY 3 2 H9 ?_
    refine bT 4 rfl H9 (fun _ H=>fS H 3) ?_
    refine bG (i:=5) ?_
    refine aG (sr x _) ?_
    rintro _ h6 ⟨rfl,H7⟩
    replace H7:=H9.ab0 H7
    refine bW ?_
    refine bF H7 ?_
    refine bT (v:=(pJ ((gZ X.bs) x.at))) 6 rfl H7 (fun _ H=>aH (bU (x:=x.at) jp H 10 rfl rfl rfl rfl ((jQ hI (i:=(ii:Int)) (by omega) hxm9)) vw) (rfl)) ?_
    refine bG (i:=7) ?_
    refine iW xa ?_
    refine bF H7 ?_
    refine fP ?_
    refine aR ?_
    refine R.g_seq ?_
    refine R.g_region ?_
    refine R.w_v (fun ⟨_,_,h⟩=>h) xm ?_
    refine R.w_v (fun ⟨_,_,h⟩=>h) (v:=.bool (!(((gZ X.bs) x.at).isSome))) (ai rfl rfl rfl (oD Tryz.underlying98)) ?_
    refine R.w_v (fun ⟨_,_,h⟩=>h) xm ?_
    rcases ef (((gZ X.bs) x.at).isSome) with H2 | H2
    ·
     obtain ⟨ir,r,hrq,hrk,hrb,hrf⟩:=uM H2
     rw [hG hrb]
     refine R.l_of rfl (fun ⟨_,_,h⟩=>h) (aJ (v:=vP r.b) (cU rfl rfl rfl rfl (aa H2)) rfl rfl (bY rfl rfl) ?_)
     refine R.l_of rfl (fun ⟨_,_,h⟩=>h) (aJ (v:=vP r.b) (cU rfl rfl rfl rfl (aa H2)) rfl rfl (fm rfl rfl) ?_)
     refine R.l_of rfl (fun ⟨_,_,h⟩=>h) (aJ (v:=vP r.b) (cU rfl rfl rfl rfl (aa H2)) rfl rfl (c_ rfl rfl Ad rfl) ?_)
     refine R.l_of rfl (fun ⟨_,_,h⟩=>h) (aJ (v:=.bool r.here) (cU rfl rfl rfl rfl (aa H2)) rfl rfl (f_ rfl rfl Tryz.underlying4 rfl (H7.bkCell (k:=11) rfl hrq (c:=0) rfl)) ?_)
     refine R.l_of rfl (fun ⟨_,_,h⟩=>h) (aJ (v:=.bool (!(r.here))) (cU rfl rfl rfl rfl (aa H2)) rfl rfl (cj (b:=r.here) rfl rfl) ?_)
     refine R.w_v (fun ⟨_,_,h⟩=>h) (pf (aa H2)) ?_
     refine R.g_nil ?_
     refine aR ?_
     refine ah [3,39] ?_
     rcases ef (r.here) with H4 | H4
     ·
      refine R.g_cond_f rfl (aa H4) ?_
      refine R.g_skip ?_
      refine aR ?_
      have x4:=H7.b3 [0,1,2,3,4,5,6,7,8,9,10,11,12,13,14,15]
      exact fb ⟨n3,⟨(by rw [jM (by rw [((hX.ent hxm9 hrf).1.symm.trans H4)]; decide)]; exact hJ.1),(by simp only [List.length_append,List.length_cons,List.length_nil]; omega)⟩,rfl⟩ (x4.tk [0,2,3,4,5,6,7,8,9,10,11,12,13])
     refine R.g_cond_t rfl (aa H4) ?_
     refine R.g_region ?_
     refine R.w_v (fun ⟨_,_,h⟩=>h) (xl H7 12) ?_
     refine R.w_v (fun ⟨_,_,h⟩=>h) (v:=vI (((n3+1:Nat):Int))) (ai rfl rfl rfl (dY (by rw [jD (by have h9:=vD hI ii hq; omega)]; omega))) ?_
     refine R.l_of rfl (fun ⟨_,_,h⟩=>h) (b_ H7 12 (bh rfl) rfl rfl rfl rfl rfl si rfl rfl (cs':=#[vI (((n3+1:Nat):Int))]) rfl ?_)
     intro h5 x3
     refine R.g_nil ?_
     refine aR ?_
     have x2:=x3.b3 [0,1,2,3,4,5,6,7,8,9,10,11,12,13,14,15]
     exact fb ⟨(n3+1),⟨(by rw [lO (by rw [((hX.ent hxm9 hrf).1.symm.trans H4)]; decide),List.length_append]; simp only [List.length_cons,List.length_nil]; omega),(by simp only [List.length_append,List.length_cons,List.length_nil]; omega)⟩,rfl⟩ (x2.tk [0,2,3,4,5,6,7,8,9,10,11,12,13])
    refine R.l_of rfl (fun ⟨_,_,h⟩=>h) (ku (aa H2) ?_)
    refine R.l_of rfl (fun ⟨_,_,h⟩=>h) (ku (aa H2) ?_)
    refine R.l_of rfl (fun ⟨_,_,h⟩=>h) (ku (aa H2) ?_)
    refine R.l_of rfl (fun ⟨_,_,h⟩=>h) (ku (aa H2) ?_)
    refine R.l_of rfl (fun ⟨_,_,h⟩=>h) (ku (aa H2) ?_)
    refine R.w_v (fun ⟨_,_,h⟩=>h) (pt (aa H2)) ?_
    refine R.g_nil ?_
    refine aR ?_
    refine ah [3,39] ?_
    refine R.g_cond_t rfl rfl ?_
    refine R.g_region ?_
    refine R.w_v (fun ⟨_,_,h⟩=>h) (xl H7 12) ?_
    refine R.w_v (fun ⟨_,_,h⟩=>h) (v:=vI (((n3+1:Nat):Int))) (ai rfl rfl rfl (dY (by rw [jD (by have h9:=vD hI ii hq; omega)]; omega))) ?_
    refine R.l_of rfl (fun ⟨_,_,h⟩=>h) (b_ H7 12 (bh rfl) rfl rfl rfl rfl rfl si rfl rfl (cs':=#[vI (((n3+1:Nat):Int))]) rfl ?_)
    intro h4 x1
    refine R.g_nil ?_
    refine aR ?_
    have x0:=x1.b3 [0,1,2,3,4,5,6,7,8,9,10,11,12,13,14,15]
    exact fb ⟨(n3+1),⟨(by rw [lO (by rw [(df (xc (hX.no hxm9 H2)))]; decide),List.length_append]; simp only [List.length_cons,List.length_nil]; omega),(by simp only [List.length_append,List.length_cons,List.length_nil]; omega)⟩,rfl⟩ (x0.tk [0,2,3,4,5,6,7,8,9,10,11,12,13])
   ·
    rintro D xs _ b1 hxs ⟨n3,hJ,rfl⟩ g9
    have g8:S _ [_,_,_,_,_,_,_,_,_,_,_,_,_,_]:=S.unbig (g9.tk [1,0,2,3,4,5,6,7,8,9,10,11])
    have g7:S _ [_,_,_,_,_,_,_,_,_,_,_,_,_]:=S.consMark (g8.tk [3,0,1,2,4,5,6,7,8,9,10,11,12,13]) (k:=11) rfl
    refine aC ?_
    refine R.g_region ?_
    refine R.w_v (fun h=>hL h) (v:=vI (((ii+1:Nat):Int))) (ai rfl rfl rfl (dY (by rw [jD (by omega)]; omega))) ?_
    refine R.w_v (fun h=>hL h) xm ?_
    refine R.g_nil ?_
    refine aR ?_
    refine nw (i:=(ii,s,Ds)) ((ii+1),n3,(D :: Ds)) ?_ rfl ?_ ?_
    · exact ⟨rfl,rfl,rfl,rfl,rfl,trivial⟩
    · exact ⟨(by omega),(by rw [lq (by omega),El H5,← hs]; rw [hxs] at hJ; exact hJ.1),(g7.tk [9,10,11,2,3,4,5,6,7,8,12])⟩
    (try dsimp only); omega
   rintro D cc pr _ W _ h; exact h.elim
  refine R.g_cond_t rfl (aa H5) ?_
  refine R.g_exit ?_
  refine aC ?_
  refine R.g_region ?_
  refine R.w_v (fun h=>hL h) (v:=vI (((ii+1:Nat):Int))) (ai rfl rfl rfl (dY (by rw [jD (by omega)]; omega))) ?_
  refine R.w_v (fun h=>hL h) xm ?_
  refine R.g_nil ?_
  refine aR ?_
  refine nw (i:=(ii,s,Ds)) ((ii+1),s,Ds) ?_ rfl ?_ ?_
  · exact ⟨rfl,rfl,rfl,rfl,rfl,trivial⟩
  · exact ⟨(by omega),(by rw [lq (by omega),uX H5]; exact hs),(h3.tk [7,8,9,0,1,2,3,4,5,6,10])⟩
  (try dsimp only); omega
 refine R.g_cond_f rfl (df h0) ?_
 refine R.g_exit ?_
 refine aE ?_
 refine R.g_seq ?_
 refine R.g_region ?_
 refine R.w_v (fun h=>hL h) (xl h1 0) ?_
 refine R.w_v (fun h=>hL h) xa ?_
 refine R.g_nil ?_
 refine aR ?_
 refine R.g_ret ?_
 refine lx (h1.tk [2,0,1,3,4,5,6,7,8,9,10]) [.tmp 2] [vI s] rfl (fun W' hW=>⟨⟨rfl,trivial⟩,?_⟩)
 replace hW:S W' [Ob g4 (.cells #[vI s] 3 (0,0)),Ob g1 (.cells #[vP X.g] 26 (0,0)),X0 X A,X1 X A,X2 X A,X3 X,bM fA X.ms,X5 X,bM g_ X.bs,aB w (aT [(XI X A)])]:=hW
 have hqe:ii=A.n:=by omega
 rw [hqe,A3] at hs
 rw [← hs]
 exact ⟨rfl,(hW.b7 [2,3,4,5,6,7,8,9])⟩
end Go.Proofs.YthmmfhdpkddniaaGreatDoor
