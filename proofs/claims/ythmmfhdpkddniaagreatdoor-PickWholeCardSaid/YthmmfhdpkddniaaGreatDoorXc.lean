import Derived.Test.YthmmfhdpkddniaaGreatDoorFm
import Derived.Test.YthmmfhdpkddniaaGreatDoorXb
set_option maxRecDepth 20000
set_option maxHeartbeats 4000000
set_option linter.unusedSimpArgs false
set_option linter.unusedVariables false
namespace Go.Proofs.YthmmfhdpkddniaaGreatDoor
open Go.RowKit
theorem cl115:callable Tryz.prog 115=true:=by kernel_rfl
theorem cl47:callable Tryz.prog 47=true:=by kernel_rfl
theorem cl59:callable Tryz.prog 59=true:=by kernel_rfl
theorem fo103_0:foO Tryz.prog 103 0=some 0:=by kernel_rfl
theorem fo85_8:foO Tryz.prog 85 8=some 8:=by kernel_rfl
theorem ze98:zeO Tryz.prog 98=some (.pointer none):=by kernel_rfl
theorem okP_blk {j:Nat} {A:PK} (hI:PKI j A) {i:Int} (hi:0≤i∧i<(A.n:Int)) {c:Cho} (hc:c∈A.blocks i):okP c.at:=by
 have hn:=hI.n24
 have hs:=size_le hI i
 obtain ⟨q,hq,rfl⟩:=mem_blkL.1 hc
 refine ⟨⟨?_,?_⟩,⟨?_,?_⟩⟩
 · show _≤i; omega
 · show i≤_; omega
 · show _≤((16 * q:Nat):Int); omega
 · show ((16 * q:Nat):Int)≤_; omega
theorem XOK.no {X:XP} {A:PK} (h:XOK X A) {c:Cho} {i:Int} (hc:c∈A.blocks i) (hs:(bkM X.bs c.at).isSome=false):A.freeC c=true:=by
 have h9:=h.free hc
 rw [hs] at h9
 cases hq:A.freeC c with
 | true=>rfl
 | false=>rw [hq] at h9; cases h9
theorem XOK.yes {X:XP} {A:PK} (h:XOK X A) {c:Cho} {i:Int} (hc:c∈A.blocks i) (hs:(bkM X.bs c.at).isSome=true):A.freeC c=false:=by
 have h9:=h.free hc
 rw [hs] at h9
 cases hq:A.freeC c with
 | true=>rw [hq] at h9; cases h9
 | false=>rfl
theorem mem_snocB {l:List Cho} {x c:Cho}:decide (c∈l++[x])=(decide (c∈l) || decide (x=c)):=by
 by_cases h1:c∈l <;> by_cases h2:x=c <;> simp [h1,h2]
 exact fun e=>h2 e.symm
theorem not_here {A:PK} {c:Cho} (h:A.freeC c=true):c ∉ A.here:=by
 unfold PK.freeC at h
 simp only [Bool.and_eq_true,Bool.not_eq_eq_eq_not,Bool.not_true,decide_eq_false_iff_not] at h
 exact h.1
theorem partial_x (X:XP) (A:PK) (j:Nat) (hX:XOK X A) (hI:PKI j A) (i:Int) (hi:0≤i∧i<(A.n:Int))  (w:World) (HS:S w [(XI X A)]):Calls Tryz.prog 169 #[.pointer (some ⟨X.g,0,none⟩),.int .i64 i] w fun e w'=>e=.returned (.bool (A.partB i))∧S w' ([(XI X A)]++[Old w (fps [(XI X A)])]):=by
 have H0:=HS.beginI
 have hn24:=hI.n24
 have hn1:=hI.n1
 have hpz1:=hI.pz1
 have hpz2:=hI.pz2
 have hla1:=hI.la1
 have hla2:=hI.la2
 have hadl:=hI.hadl
 have hwl:=hI.wishl
 replace H0:S _ [_,_,_,_,_,_,_,_]:=S.unbig (L:=[_,_,_,_,_,_,_]) H0
 refine enter_m 18 Tryz.func169 rfl rfl rfl ?_
 have hL:¬ LetsOut (bodyPostM (WF none) 9 Tryz.prog Tryz.f169 fun e w'=>e=.returned (.bool (A.partB i))∧S w' ([(XI X A)]++[Old w (fps [(XI X A)])])):=by
  rintro ⟨_,_,h⟩
  simp only [bodyPostM,reduceCtorEq,false_and,and_false,exists_false,or_false,or_self,exists_const] at h
 refine g_wk [(0,_),(1,_)] ?_
 refine R.g_seq ?_
 refine R.g_region ?_
 refine R.l_of rfl (fun h=>hL h) (s_box H0 (wt0 rfl) rfl rfl rfl rfl ?_)
 intro g1 wq2 H3
 refine R.l_of rfl (fun h=>hL h) (s_alloc H3 (wt0 rfl) rfl rfl rfl ze4 ?_)
 intro g4 wq5 H6
 refine R.g_nil ?_
 refine w_0 ?_
 iterate 2 refine R.g_seq ?_
 refine R.g_region ?_
 refine R.w_v (fun h=>hL h) (xl H6 1) ?_
 refine R.w_v (fun h=>hL h) xm ?_
 refine R.l_of rfl (fun h=>hL h) (s_call (wt0 rfl) (x_call' rfl rfl cl59) (all_s X.g i _) ?_)
 rintro _ wq9 ⟨ba7,bi8,rfl,H10⟩
 replace H10:S _ [_,_,_,_,_,_,_,_,_,_,_,_]:=H6.ab (new:=[_,_]) H10 rfl
 refine b_ret rfl rfl ?_
 refine R.g_nil ?_
 refine w_0 ?_
 refine R.g_block ?_
 have H11:S _ [_,_,_,_,_,_,_,_,_,_]:=S.big (L:=[_,_,_]) (H10.tk [0,1,4,2,3,5,6,7,8,9,10,11])
 have H12:=S.noI (H11.tk [0,1,2,3,4,5,6,7,8,9])
 refine g_rangeJ (α:=Cho) (ι:=Nat) (encs:=encC) (base:=(Big [Ob ba7 (.cells #[.pointer (some ⟨X.g,0,none⟩)] 26 (0,0)),Ob bi8 (.cells #[.int .i64 i] 3 (0,0)),Ob X.g (.cells #[.map (some X.mg),.int .i64 ((A.n:Int)),.int .i64 ((A.pz:Int)),.int .i64 ((A.la:Int)),.string (A.seed),.bool A.ino,.slice X.hp A.had.length X.hc,.slice X.wp A.wish.length X.wc,.map (some X.bg)] 85 (0,0))])) (by omega) rfl cl115 (all_it (X:=X) (i:=i) hI) (fun _=>rfl) rfl (fun pre Lx=>(∀ y∈pre,A.freeC y=true)∧Lx=[Ob g4 (.cells #[.bool false] 4 (0,0)),Ob g1 (.cells #[.pointer (some ⟨X.g,0,none⟩)] 26 (0,0)),Rw 4 1 X.hp A.had.length X.hc (fl boolL A.had),Rw 40 2 X.wp A.wish.length X.wc (fl wisL A.wish),Mp (Value.int .i64) ptV okI X.mg (mtM X.ms),(Lst MtI X.ms),Mp plK ptV okP X.bg (bkM X.bs),(Lst BkI X.bs),Old w (fps [(XI X A)])]) (fun cc pre Lx=>(cc=.ret∧(A.partB i=true)∧Lx=[Ob g4 (.cells #[.bool true] 4 (0,0)),Ob g1 (.cells #[.pointer (some ⟨X.g,0,none⟩)] 26 (0,0)),Rw 4 1 X.hp A.had.length X.hc (fl boolL A.had),Rw 40 2 X.wp A.wish.length X.wc (fl wisL A.wish),Mp (Value.int .i64) ptV okI X.mg (mtM X.ms),(Lst MtI X.ms),Mp plK ptV okP X.bg (bkM X.bs),(Lst BkI X.bs),Old w (fps [(XI X A)])])) (fun p ia=>[(2,.pointer (some ⟨g1,0,none⟩)),(4,.pointer (some ⟨g4,0,none⟩)),(5,.pointer (some ⟨ia,0,none⟩))]) (fun p ia=>[Ob ia (.cells #[.int .i64 (p.pc),.int .i64 (p.bg),.int .i64 (p.ln)] 44 (0,0))]) (fun _ _ _ _ _=>trivial) ⟨(fun _ h=>by cases h),rfl⟩ H12 ?_ ?_ ?_ ?_
 ·
  rintro l1 p Ly W13 H14
  have hL:¬ LetsOut (fun (_:Exit) (_:Act) (_:World)=>False):=fun ⟨_,_,h⟩=>h
  refine g_wk [(2,_),(4,_),(9,_)] ?_
  refine R.g_region ?_
  refine R.l_of rfl (fun h=>hL h) (s_alloc H14 (wt0 rfl) rfl rfl rfl ze44 ?_)
  intro g15 wq16 H17
  refine R.l_of rfl (fun h=>hL h) (s_store H17 0 (wt0 rfl) rfl rfl rfl rfl rfl sz44 rfl rfl (cs':=#[.int .i64 (p.pc),.int .i64 (p.bg),.int .i64 (p.ln)]) rfl ?_)
  intro wq18 H19
  refine R.g_nil ?_
  refine w_0 ?_
  exact rw_assign g15 ⟨rfl,rfl,rfl,trivial⟩ H19
 ·
  rintro l1 pr x ia II Kx _ W20 ⟨hJ,rfl⟩ hphi H21
  have H22:=S.unbig (L:=[_]) (H21.tk [3,0,1,2,4,5,6,7,8,9,10,11,12])
  refine g_wk [(2,_),(4,_),(5,_)] ?_
  obtain ⟨q9,hpr9,hxq9⟩:=hphi
  have hxm9:x∈A.blocks i:=List.mem_of_getElem? hxq9
  have H23:S _ [_,_,_,_,_,_,_,_,_,_,_,_,_,_,_]:=S.unbig (H22.tk [1,0,2,3,4,5,6,7,8,9,10,11,12])
  refine R.g_block ?_
  refine R.g_seq ?_
  refine R.g_any [] (fun wx=>S wx [Ob ba7 (.cells #[.pointer (some ⟨X.g,0,none⟩)] 26 (0,0)),Ob bi8 (.cells #[.int .i64 i] 3 (0,0)),Ob X.g (.cells #[.map (some X.mg),.int .i64 ((A.n:Int)),.int .i64 ((A.pz:Int)),.int .i64 ((A.la:Int)),.string (A.seed),.bool A.ino,.slice X.hp A.had.length X.hc,.slice X.wp A.wish.length X.wc,.map (some X.bg)] 85 (0,0)),Ob ia (.cells #[.int .i64 (x.pc),.int .i64 (x.bg),.int .i64 (x.ln)] 44 (0,0)),II,Kx,Ob g4 (.cells #[.bool false] 4 (0,0)),Ob g1 (.cells #[.pointer (some ⟨X.g,0,none⟩)] 26 (0,0)),Rw 4 1 X.hp A.had.length X.hc (fl boolL A.had),Rw 40 2 X.wp A.wish.length X.wc (fl wisL A.wish),Mp (Value.int .i64) ptV okI X.mg (mtM X.ms),(Lst MtI X.ms),Mp plK ptV okP X.bg (bkM X.bs),(Lst BkI X.bs),Old w (fps [(XI X A)])]) [] (by kernel_rfl) (by kernel_rfl) (fun ⟨_,_,h⟩=>h) H23 (fun wq24 H25=>?_)
  refine a_take (v:=.pointer (some ⟨X.g,0,none⟩)) 0 rfl (wt0 rfl) rfl rfl rfl (by kernel_rfl) (by kernel_rfl) (by kernel_rfl) (by kernel_rfl) H25 (fun wx H=>x_load1 H 7 rfl rfl Tryz.underlying26 rfl rfl rfl) ?_
  refine a_take (v:=.pointer (some ⟨X.g,0,none⟩)) 1 rfl (wt0 rfl) rfl rfl rfl (by kernel_rfl) (by kernel_rfl) (by kernel_rfl) (by kernel_rfl) H25 (fun wx H=>x_nilCheck rfl rfl) ?_
  refine a_take (v:=.pointer (some ⟨X.g,8,none⟩)) 2 rfl (wt0 rfl) rfl rfl rfl (by kernel_rfl) (by kernel_rfl) (by kernel_rfl) (by kernel_rfl) H25 (fun wx H=>x_fieldAddr rfl rfl fo85_8 rfl) ?_
  refine a_take (v:=.map (some X.bg)) 3 rfl (wt0 rfl) rfl rfl rfl (by kernel_rfl) (by kernel_rfl) (by kernel_rfl) (by kernel_rfl) H25 (fun wx H=>x_load1 H 2 rfl rfl Tryz.underlying83 rfl rfl rfl) ?_
  refine a_take (v:=.agg #[.int .i64 (x.pc),.int .i64 (x.bg),.int .i64 (x.ln)]) 4 rfl (wt0 rfl) rfl rfl rfl (by kernel_rfl) (by kernel_rfl) (by kernel_rfl) (by kernel_rfl) H25 (fun wx H=>x_loadA H 3 rfl rfl Tryz.underlying44 rfl sz44 rfl rfl rfl) ?_
  refine a_one (i:=5) (by kernel_rfl) rfl ?_
  refine s_cl (at_x x _) ?_
  rintro _ wq26 ⟨rfl,H27⟩
  replace H27:=H25.ab0 H27
  refine b_ret rfl rfl ?_
  refine a_k H27 ?_
  refine a_take (v:=(optP ((bkM X.bs) x.at))) 6 rfl (wt0 rfl) rfl rfl rfl (by kernel_rfl) (by kernel_rfl) (by kernel_rfl) (by kernel_rfl) H27 (fun wx H=>ex_cast (x_lookup1 (x:=x.at) placeT H 12 rfl rfl rfl rfl ((okP_blk hI hi hxm9)) ze98) (rfl)) ?_
  refine a_take (v:=.bool (((bkM X.bs) x.at).isSome)) 7 rfl (wt0 rfl) rfl rfl rfl (by kernel_rfl) (by kernel_rfl) (by kernel_rfl) (by kernel_rfl) H27 (fun wx H=>x_bin rfl rfl rfl (b_nePO Tryz.underlying98)) ?_
  refine a_done (by kernel_rfl) ?_
  refine w_0 ?_
  rcases Bool.eq_false_or_eq_true (((bkM X.bs) x.at).isSome) with hb28 | hb28
  ·
   obtain ⟨ir,r,hrq,hrk,hrb,hrf⟩:=bkM_ex hb28
   rw [optP_s hrb]
   refine R.g_cond_t rfl hb28 ?_
   refine R.g_seq ?_
   refine R.g_region ?_
   refine R.l_of rfl (fun ⟨_,_,h⟩=>h) (s_store H27 6 (wt0 rfl) rfl rfl rfl rfl rfl sz4 rfl rfl (cs':=#[.bool true]) rfl ?_)
   intro wq29 H30
   refine R.g_nil ?_
   refine w_0 ?_
   refine R.g_ret ?_
   refine w_0 ?_
   have H31:S _ [_,_,_,_,_,_,_,_,_,_,_,_,_]:=S.big (L:=[_,_,_]) (H30.tk [0,1,2,3,4,5,6,7,8,9,10,11,12,13,14])
   exact rj_ret (⟨rfl,(by unfold PK.partB; exact List.any_eq_true.2 ⟨x,hxm9,by have h9:=hX.free hxm9; rw [hb28] at h9; cases hq:A.freeC x with | true=>rw [hq] at h9; cases h9 | false=>rfl⟩),rfl⟩) (H31.tk [0,2,3,4,5,6,7,8,9,10,11,12])
  ·
   refine R.g_cond_f rfl hb28 ?_
   refine R.g_skip ?_
   refine w_0 ?_
   have H32:S _ [_,_,_,_,_,_,_,_,_,_,_,_,_]:=S.big (L:=[_,_,_]) (H27.tk [0,1,2,3,4,5,6,7,8,9,10,11,12,13,14])
   exact rj_next ⟨(fun y hy=>by rcases List.mem_append.1 hy with hy | hy; exact hJ y hy; rw [List.mem_singleton] at hy; subst hy; have h9:=hX.free hxm9; rw [hb28] at h9; cases hq:A.freeC y with | true=>rfl | false=>rw [hq] at h9; cases h9),rfl⟩ (H32.tk [0,2,3,4,5,6,7,8,9,10,11,12])
 ·
  rintro D xs _ W33 hxs ⟨hJ,rfl⟩ H34
  have H35:S _ [_,_,_,_,_,_,_,_,_,_,_,_,_]:=S.unbig (H34.tk [1,0,2,3,4,5,6,7,8,9,10])
  refine w_k2 ?_
  refine R.g_seq ?_
  refine R.g_region ?_
  refine R.l_of rfl (fun h=>hL h) (s_store H35 4 (wt0 rfl) rfl rfl rfl rfl rfl sz4 rfl rfl (cs':=#[.bool false]) rfl ?_)
  intro wq36 H37
  refine R.g_nil ?_
  refine w_0 ?_
  refine R.g_ret ?_
  refine fin_mark H37 3 rfl [.cell 4 4] [.bool false] rfl (fun wq38 H39=>⟨⟨⟨_,rfl,run_load1 Tryz.underlying4 rfl (H39.cell (k:=4) rfl rfl)⟩,trivial⟩,?_⟩)
  have hE:A.partB i=false:=by rw [hxs] at hJ; unfold PK.partB; rw [List.any_eq_false]; exact fun y hy=>by rw [hJ y hy]; decide
  rw [hE]
  exact ⟨rfl,((S.big (L:=[_,_,_,_,_,_,_]) (H39.tk [2,6,7,8,9,10,11,12])).tk [0,1])⟩
 ·
  rintro D cc pr _ W40 _ ⟨rfl,hst,rfl⟩ H41
  have H42:S _ [_,_,_,_,_,_,_,_,_,_,_,_,_]:=S.unbig (H41.tk [1,0,2,3,4,5,6,7,8,9,10])
  refine gw_ret ?_
  refine w_k2 ?_
  refine fin_mark H42 3 rfl [.cell 4 4] [.bool true] rfl (fun wq43 H44=>⟨⟨⟨_,rfl,run_load1 Tryz.underlying4 rfl (H44.cell (k:=4) rfl rfl)⟩,trivial⟩,?_⟩)
  rw [hst]
  exact ⟨rfl,((S.big (L:=[_,_,_,_,_,_,_]) (H44.tk [2,6,7,8,9,10,11,12])).tk [0,1])⟩
theorem whole_x (X:XP) (A:PK) (j:Nat) (hX:XOK X A) (hI:PKI j A) (i:Int) (hi:0≤i∧i<(A.n:Int))  (w:World) (HS:S w [(XI X A)]):Calls Tryz.prog 54 #[.pointer (some ⟨X.g,0,none⟩),.int .i64 i] w fun e w'=>e=.returned (.bool (A.wholeB i))∧S w' ([(XI X A)]++[Old w (fps [(XI X A)])]):=by
 have H0:=HS.beginI
 have hn24:=hI.n24
 have hn1:=hI.n1
 have hpz1:=hI.pz1
 have hpz2:=hI.pz2
 have hla1:=hI.la1
 have hla2:=hI.la2
 have hadl:=hI.hadl
 have hwl:=hI.wishl
 replace H0:S _ [_,_,_,_,_,_,_,_]:=S.unbig (L:=[_,_,_,_,_,_,_]) H0
 refine enter_m 27 Tryz.func54 rfl rfl rfl ?_
 have hL:¬ LetsOut (bodyPostM (WF none) 9 Tryz.prog Tryz.f54 fun e w'=>e=.returned (.bool (A.wholeB i))∧S w' ([(XI X A)]++[Old w (fps [(XI X A)])])):=by
  rintro ⟨_,_,h⟩
  simp only [bodyPostM,reduceCtorEq,false_and,and_false,exists_false,or_false,or_self,exists_const] at h
 refine g_wk [(0,_),(1,_)] ?_
 refine R.g_seq ?_
 refine R.g_region ?_
 refine R.l_of rfl (fun h=>hL h) (s_box H0 (wt0 rfl) rfl rfl rfl rfl ?_)
 intro g1 wq2 H3
 refine R.l_of rfl (fun h=>hL h) (s_alloc H3 (wt0 rfl) rfl rfl rfl ze4 ?_)
 intro g4 wq5 H6
 refine R.g_nil ?_
 refine w_0 ?_
 iterate 2 refine R.g_seq ?_
 refine R.g_region ?_
 refine R.w_v (fun h=>hL h) (xl H6 1) ?_
 refine R.w_v (fun h=>hL h) xm ?_
 refine R.l_of rfl (fun h=>hL h) (s_call (wt0 rfl) (x_call' rfl rfl cl59) (all_s X.g i _) ?_)
 rintro _ wq9 ⟨ba7,bi8,rfl,H10⟩
 replace H10:S _ [_,_,_,_,_,_,_,_,_,_,_,_]:=H6.ab (new:=[_,_]) H10 rfl
 refine b_ret rfl rfl ?_
 refine R.g_nil ?_
 refine w_0 ?_
 refine R.g_block ?_
 have H11:S _ [_,_,_,_,_,_,_,_,_,_]:=S.big (L:=[_,_,_]) (H10.tk [0,1,4,2,3,5,6,7,8,9,10,11])
 have H12:=S.noI (H11.tk [0,1,2,3,4,5,6,7,8,9])
 refine g_rangeJ (α:=Cho) (ι:=Nat) (encs:=encC) (base:=(Big [Ob ba7 (.cells #[.pointer (some ⟨X.g,0,none⟩)] 26 (0,0)),Ob bi8 (.cells #[.int .i64 i] 3 (0,0)),Ob X.g (.cells #[.map (some X.mg),.int .i64 ((A.n:Int)),.int .i64 ((A.pz:Int)),.int .i64 ((A.la:Int)),.string (A.seed),.bool A.ino,.slice X.hp A.had.length X.hc,.slice X.wp A.wish.length X.wc,.map (some X.bg)] 85 (0,0))])) (by omega) rfl cl115 (all_it (X:=X) (i:=i) hI) (fun _=>rfl) rfl (fun pre Lx=>(∀ y∈pre,y∈A.here)∧Lx=[Ob g4 (.cells #[.bool false] 4 (0,0)),Ob g1 (.cells #[.pointer (some ⟨X.g,0,none⟩)] 26 (0,0)),Rw 4 1 X.hp A.had.length X.hc (fl boolL A.had),Rw 40 2 X.wp A.wish.length X.wc (fl wisL A.wish),Mp (Value.int .i64) ptV okI X.mg (mtM X.ms),(Lst MtI X.ms),Mp plK ptV okP X.bg (bkM X.bs),(Lst BkI X.bs),Old w (fps [(XI X A)])]) (fun cc pre Lx=>(cc=.ret∧(A.wholeB i=false)∧Lx=[Ob g4 (.cells #[.bool false] 4 (0,0)),Ob g1 (.cells #[.pointer (some ⟨X.g,0,none⟩)] 26 (0,0)),Rw 4 1 X.hp A.had.length X.hc (fl boolL A.had),Rw 40 2 X.wp A.wish.length X.wc (fl wisL A.wish),Mp (Value.int .i64) ptV okI X.mg (mtM X.ms),(Lst MtI X.ms),Mp plK ptV okP X.bg (bkM X.bs),(Lst BkI X.bs),Old w (fps [(XI X A)])])) (fun p ia=>[(2,.pointer (some ⟨g1,0,none⟩)),(4,.pointer (some ⟨g4,0,none⟩)),(5,.pointer (some ⟨ia,0,none⟩))]) (fun p ia=>[Ob ia (.cells #[.int .i64 (p.pc),.int .i64 (p.bg),.int .i64 (p.ln)] 44 (0,0))]) (fun _ _ _ _ _=>trivial) ⟨(fun _ h=>by cases h),rfl⟩ H12 ?_ ?_ ?_ ?_
 ·
  rintro l1 p Ly W13 H14
  have hL:¬ LetsOut (fun (_:Exit) (_:Act) (_:World)=>False):=fun ⟨_,_,h⟩=>h
  refine g_wk [(2,_),(4,_),(10,_)] ?_
  refine R.g_region ?_
  refine R.l_of rfl (fun h=>hL h) (s_alloc H14 (wt0 rfl) rfl rfl rfl ze44 ?_)
  intro g15 wq16 H17
  refine R.l_of rfl (fun h=>hL h) (s_store H17 0 (wt0 rfl) rfl rfl rfl rfl rfl sz44 rfl rfl (cs':=#[.int .i64 (p.pc),.int .i64 (p.bg),.int .i64 (p.ln)]) rfl ?_)
  intro wq18 H19
  refine R.g_nil ?_
  refine w_0 ?_
  exact rw_assign g15 ⟨rfl,rfl,rfl,trivial⟩ H19
 ·
  rintro l1 pr x ia II Kx _ W20 ⟨hJ,rfl⟩ hphi H21
  have H22:=S.unbig (L:=[_]) (H21.tk [3,0,1,2,4,5,6,7,8,9,10,11,12])
  refine g_wk [(2,_),(4,_),(5,_)] ?_
  obtain ⟨q9,hpr9,hxq9⟩:=hphi
  have hxm9:x∈A.blocks i:=List.mem_of_getElem? hxq9
  have H23:S _ [_,_,_,_,_,_,_,_,_,_,_,_,_,_,_]:=S.unbig (H22.tk [1,0,2,3,4,5,6,7,8,9,10,11,12])
  refine R.g_block ?_
  refine R.g_seq ?_
  refine R.g_any [] (fun wx=>S wx [Ob ba7 (.cells #[.pointer (some ⟨X.g,0,none⟩)] 26 (0,0)),Ob bi8 (.cells #[.int .i64 i] 3 (0,0)),Ob X.g (.cells #[.map (some X.mg),.int .i64 ((A.n:Int)),.int .i64 ((A.pz:Int)),.int .i64 ((A.la:Int)),.string (A.seed),.bool A.ino,.slice X.hp A.had.length X.hc,.slice X.wp A.wish.length X.wc,.map (some X.bg)] 85 (0,0)),Ob ia (.cells #[.int .i64 (x.pc),.int .i64 (x.bg),.int .i64 (x.ln)] 44 (0,0)),II,Kx,Ob g4 (.cells #[.bool false] 4 (0,0)),Ob g1 (.cells #[.pointer (some ⟨X.g,0,none⟩)] 26 (0,0)),Rw 4 1 X.hp A.had.length X.hc (fl boolL A.had),Rw 40 2 X.wp A.wish.length X.wc (fl wisL A.wish),Mp (Value.int .i64) ptV okI X.mg (mtM X.ms),(Lst MtI X.ms),Mp plK ptV okP X.bg (bkM X.bs),(Lst BkI X.bs),Old w (fps [(XI X A)])]) [] (by kernel_rfl) (by kernel_rfl) (fun ⟨_,_,h⟩=>h) H23 (fun wq24 H25=>?_)
  refine a_take (v:=.pointer (some ⟨X.g,0,none⟩)) 0 rfl (wt0 rfl) rfl rfl rfl (by kernel_rfl) (by kernel_rfl) (by kernel_rfl) (by kernel_rfl) H25 (fun wx H=>x_load1 H 7 rfl rfl Tryz.underlying26 rfl rfl rfl) ?_
  refine a_take (v:=.pointer (some ⟨X.g,0,none⟩)) 1 rfl (wt0 rfl) rfl rfl rfl (by kernel_rfl) (by kernel_rfl) (by kernel_rfl) (by kernel_rfl) H25 (fun wx H=>x_nilCheck rfl rfl) ?_
  refine a_take (v:=.pointer (some ⟨X.g,8,none⟩)) 2 rfl (wt0 rfl) rfl rfl rfl (by kernel_rfl) (by kernel_rfl) (by kernel_rfl) (by kernel_rfl) H25 (fun wx H=>x_fieldAddr rfl rfl fo85_8 rfl) ?_
  refine a_take (v:=.map (some X.bg)) 3 rfl (wt0 rfl) rfl rfl rfl (by kernel_rfl) (by kernel_rfl) (by kernel_rfl) (by kernel_rfl) H25 (fun wx H=>x_load1 H 2 rfl rfl Tryz.underlying83 rfl rfl rfl) ?_
  refine a_take (v:=.agg #[.int .i64 (x.pc),.int .i64 (x.bg),.int .i64 (x.ln)]) 4 rfl (wt0 rfl) rfl rfl rfl (by kernel_rfl) (by kernel_rfl) (by kernel_rfl) (by kernel_rfl) H25 (fun wx H=>x_loadA H 3 rfl rfl Tryz.underlying44 rfl sz44 rfl rfl rfl) ?_
  refine a_one (i:=5) (by kernel_rfl) rfl ?_
  refine s_cl (at_x x _) ?_
  rintro _ wq26 ⟨rfl,H27⟩
  replace H27:=H25.ab0 H27
  refine b_ret rfl rfl ?_
  refine a_k H27 ?_
  refine a_take (v:=(optP ((bkM X.bs) x.at))) 6 rfl (wt0 rfl) rfl rfl rfl (by kernel_rfl) (by kernel_rfl) (by kernel_rfl) (by kernel_rfl) H27 (fun wx H=>ex_cast (x_lookup1 (x:=x.at) placeT H 12 rfl rfl rfl rfl ((okP_blk hI hi hxm9)) ze98) (rfl)) ?_
  refine a_one (i:=7) (by kernel_rfl) rfl ?_
  refine s_v xa ?_
  refine a_k H27 ?_
  refine a_done (by kernel_rfl) ?_
  refine w_0 ?_
  refine R.g_seq ?_
  refine R.g_region ?_
  refine R.w_v (fun ⟨_,_,h⟩=>h) xm ?_
  refine R.w_v (fun ⟨_,_,h⟩=>h) (v:=.bool (!(((bkM X.bs) x.at).isSome))) (x_bin rfl rfl rfl (b_eqPO Tryz.underlying98)) ?_
  refine R.w_v (fun ⟨_,_,h⟩=>h) xm ?_
  rcases Bool.eq_false_or_eq_true (((bkM X.bs) x.at).isSome) with hb28 | hb28
  ·
   obtain ⟨ir,r,hrq,hrk,hrb,hrf⟩:=bkM_ex hb28
   rw [optP_s hrb]
   refine R.l_of rfl (fun ⟨_,_,h⟩=>h) (s_val (v:=.pointer (some ⟨r.b,0,none⟩)) (wt1 rfl rfl rfl rfl (neg_of hb28)) rfl rfl (x_move rfl rfl) ?_)
   refine R.l_of rfl (fun ⟨_,_,h⟩=>h) (s_val (v:=.pointer (some ⟨r.b,0,none⟩)) (wt1 rfl rfl rfl rfl (neg_of hb28)) rfl rfl (x_nilCheck rfl rfl) ?_)
   refine R.l_of rfl (fun ⟨_,_,h⟩=>h) (s_val (v:=.pointer (some ⟨r.b,0,none⟩)) (wt1 rfl rfl rfl rfl (neg_of hb28)) rfl rfl (x_fieldAddr rfl rfl fo103_0 rfl) ?_)
   refine R.l_of rfl (fun ⟨_,_,h⟩=>h) (s_val (v:=.bool r.here) (wt1 rfl rfl rfl rfl (neg_of hb28)) rfl rfl (x_loadC rfl rfl Tryz.underlying4 rfl (H27.bkCell (k:=13) rfl hrq (c:=0) rfl)) ?_)
   refine R.l_of rfl (fun ⟨_,_,h⟩=>h) (s_val (v:=.bool (!(r.here))) (wt1 rfl rfl rfl rfl (neg_of hb28)) rfl rfl (x_not (b:=r.here) rfl rfl) ?_)
   refine R.w_v (fun ⟨_,_,h⟩=>h) (v:=.bool (!(r.here))) (x_pick_f rfl rfl (neg_of hb28) rfl) ?_
   refine R.g_nil ?_
   refine w_0 ?_
   refine g_wk [(4,_),(26,_)] ?_
   rcases Bool.eq_false_or_eq_true (r.here) with hb29 | hb29
   ·
    refine R.g_cond_f rfl (neg_of hb29) ?_
    refine R.g_skip ?_
    refine w_0 ?_
    have H30:S _ [_,_,_,_,_,_,_,_,_,_,_,_,_]:=S.big (L:=[_,_,_]) (H27.tk [0,1,2,3,4,5,6,7,8,9,10,11,12,13,14])
    exact rj_next ⟨(fun y hy=>by rcases List.mem_append.1 hy with hy | hy; exact hJ y hy; rw [List.mem_singleton] at hy; subst hy; have e9:=(hX.ent hxm9 hrf).1; rw [hb29] at e9; exact of_decide_eq_true e9.symm),rfl⟩ (H30.tk [0,2,3,4,5,6,7,8,9,10,11,12])
   ·
    refine R.g_cond_t rfl (neg_of hb29) ?_
    refine R.g_seq ?_
    refine R.g_region ?_
    refine R.l_of rfl (fun ⟨_,_,h⟩=>h) (s_store H27 6 (wt0 rfl) rfl rfl rfl rfl rfl sz4 rfl rfl (cs':=#[.bool false]) rfl ?_)
    intro wq31 H32
    refine R.g_nil ?_
    refine w_0 ?_
    refine R.g_ret ?_
    refine w_0 ?_
    have H33:S _ [_,_,_,_,_,_,_,_,_,_,_,_,_]:=S.big (L:=[_,_,_]) (H32.tk [0,1,2,3,4,5,6,7,8,9,10,11,12,13,14])
    exact rj_ret (⟨rfl,(by unfold PK.wholeB; exact List.all_eq_false.2 ⟨x,hxm9,by rw [decide_eq_false (fun h9=>by have e9:=(hX.ent hxm9 hrf).1; rw [hb29,decide_eq_true h9] at e9; cases e9)]; decide⟩),rfl⟩) (H33.tk [0,2,3,4,5,6,7,8,9,10,11,12])
  ·
   refine R.l_of rfl (fun ⟨_,_,h⟩=>h) (s_not (wn1 rfl rfl rfl rfl (neg_of hb28)) rfl rfl ?_)
   refine R.l_of rfl (fun ⟨_,_,h⟩=>h) (s_not (wn1 rfl rfl rfl rfl (neg_of hb28)) rfl rfl ?_)
   refine R.l_of rfl (fun ⟨_,_,h⟩=>h) (s_not (wn1 rfl rfl rfl rfl (neg_of hb28)) rfl rfl ?_)
   refine R.l_of rfl (fun ⟨_,_,h⟩=>h) (s_not (wn1 rfl rfl rfl rfl (neg_of hb28)) rfl rfl ?_)
   refine R.l_of rfl (fun ⟨_,_,h⟩=>h) (s_not (wn1 rfl rfl rfl rfl (neg_of hb28)) rfl rfl ?_)
   refine R.w_v (fun ⟨_,_,h⟩=>h) (v:=.bool true) (x_pick_t rfl rfl (neg_of hb28) rfl) ?_
   refine R.g_nil ?_
   refine w_0 ?_
   refine g_wk [(4,_),(26,_)] ?_
   refine R.g_cond_t rfl rfl ?_
   refine R.g_seq ?_
   refine R.g_region ?_
   refine R.l_of rfl (fun ⟨_,_,h⟩=>h) (s_store H27 6 (wt0 rfl) rfl rfl rfl rfl rfl sz4 rfl rfl (cs':=#[.bool false]) rfl ?_)
   intro wq34 H35
   refine R.g_nil ?_
   refine w_0 ?_
   refine R.g_ret ?_
   refine w_0 ?_
   have H36:S _ [_,_,_,_,_,_,_,_,_,_,_,_,_]:=S.big (L:=[_,_,_]) (H35.tk [0,1,2,3,4,5,6,7,8,9,10,11,12,13,14])
   exact rj_ret (⟨rfl,(by unfold PK.wholeB; exact List.all_eq_false.2 ⟨x,hxm9,by rw [decide_eq_false (not_here (hX.no hxm9 hb28))]; decide⟩),rfl⟩) (H36.tk [0,2,3,4,5,6,7,8,9,10,11,12])
 ·
  rintro D xs _ W37 hxs ⟨hJ,rfl⟩ H38
  have H39:S _ [_,_,_,_,_,_,_,_,_,_,_,_,_]:=S.unbig (H38.tk [1,0,2,3,4,5,6,7,8,9,10])
  refine w_k2 ?_
  refine R.g_seq ?_
  refine R.g_region ?_
  refine R.l_of rfl (fun h=>hL h) (s_store H39 4 (wt0 rfl) rfl rfl rfl rfl rfl sz4 rfl rfl (cs':=#[.bool true]) rfl ?_)
  intro wq40 H41
  refine R.g_nil ?_
  refine w_0 ?_
  refine R.g_ret ?_
  refine fin_mark H41 3 rfl [.cell 4 4] [.bool true] rfl (fun wq42 H43=>⟨⟨⟨_,rfl,run_load1 Tryz.underlying4 rfl (H43.cell (k:=4) rfl rfl)⟩,trivial⟩,?_⟩)
  have hE:A.wholeB i=true:=by rw [hxs] at hJ; unfold PK.wholeB; rw [List.all_eq_true]; exact fun y hy=>decide_eq_true (hJ y hy)
  rw [hE]
  exact ⟨rfl,((S.big (L:=[_,_,_,_,_,_,_]) (H43.tk [2,6,7,8,9,10,11,12])).tk [0,1])⟩
 ·
  rintro D cc pr _ W44 _ ⟨rfl,hst,rfl⟩ H45
  have H46:S _ [_,_,_,_,_,_,_,_,_,_,_,_,_]:=S.unbig (H45.tk [1,0,2,3,4,5,6,7,8,9,10])
  refine gw_ret ?_
  refine w_k2 ?_
  refine fin_mark H46 3 rfl [.cell 4 4] [.bool false] rfl (fun wq47 H48=>⟨⟨⟨_,rfl,run_load1 Tryz.underlying4 rfl (H48.cell (k:=4) rfl rfl)⟩,trivial⟩,?_⟩)
  rw [hst]
  exact ⟨rfl,((S.big (L:=[_,_,_,_,_,_,_]) (H48.tk [2,6,7,8,9,10,11,12])).tk [0,1])⟩
theorem is_t (X:XP) (A:PK) (j:Nat) (hX:XOK X A) (hI:PKI j A) (c:Cho) (hp:0≤c.pc∧c.pc<(A.n:Int)) (hc:A.isB c)  (w:World) (HS:S w [(XI X A)]):Calls Tryz.prog 50 #[.pointer (some ⟨X.g,0,none⟩),.agg #[.int .i64 (c.pc),.int .i64 (c.bg),.int .i64 (c.ln)]] w fun e w'=>e=.returned (.tuple #[])∧S w' ([(XI X A)]++[Old w (fps [(XI X A)])]):=by
 have H0:=HS.beginI
 have hn24:=hI.n24
 have hn1:=hI.n1
 have hpz1:=hI.pz1
 have hpz2:=hI.pz2
 have hla1:=hI.la1
 have hla2:=hI.la2
 have hadl:=hI.hadl
 have hwl:=hI.wishl
 replace H0:S _ [_,_,_,_,_,_,_,_]:=S.unbig (L:=[_,_,_,_,_,_,_]) H0
 refine enter_w 19 Tryz.func50 rfl rfl rfl ?_
 have hL:¬ LetsOut (bodyPostW Tryz.prog Tryz.f50 fun e w'=>e=.returned (.tuple #[])∧S w' ([(XI X A)]++[Old w (fps [(XI X A)])])):=by
  rintro ⟨_,_,h⟩
  simp only [bodyPostW,reduceCtorEq,false_and,and_false,exists_false,or_false,or_self,exists_const] at h
 refine g_wk [(0,_),(1,_)] ?_
 refine R.g_seq ?_
 refine R.g_region ?_
 refine R.l_of rfl (fun h=>hL h) (s_box H0 (wt0 rfl) rfl rfl rfl rfl ?_)
 intro g1 wq2 H3
 refine R.g_nil ?_
 refine w_0 ?_
 refine R.g_seq ?_
 refine R.g_region ?_
 refine R.l_of rfl (fun h=>hL h) (s_alloc H3 (wt0 rfl) rfl rfl rfl ze4 ?_)
 intro g4 wq5 H6
 refine R.l_of rfl (fun h=>hL h) (s_store H6 0 (wt0 rfl) rfl rfl rfl rfl rfl sz4 rfl rfl (cs':=#[.bool false]) rfl ?_)
 intro wq7 H8
 refine R.g_nil ?_
 refine w_0 ?_
 iterate 2 refine R.g_seq ?_
 refine R.g_region ?_
 refine R.w_v (fun h=>hL h) xm ?_
 refine R.w_v (fun h=>hL h) x_f ?_
 refine R.w_v (fun h=>hL h) (xl H8 1) ?_
 refine R.l_of rfl (fun h=>hL h) (s_call (wt0 rfl) (x_call' rfl rfl cl59) (all_s X.g c.pc _) ?_)
 rintro _ wq11 ⟨ba9,bi10,rfl,H12⟩
 replace H12:S _ [_,_,_,_,_,_,_,_,_,_,_,_]:=H8.ab (new:=[_,_]) H12 rfl
 refine b_ret rfl rfl ?_
 refine R.g_nil ?_
 refine w_0 ?_
 refine R.g_block ?_
 have H13:S _ [_,_,_,_,_,_,_,_,_,_]:=S.big (L:=[_,_,_]) (H12.tk [0,1,4,2,3,5,6,7,8,9,10,11])
 have H14:=S.noI (H13.tk [0,1,2,3,4,5,6,7,8,9])
 refine g_rangeJ (α:=Cho) (ι:=Nat) (encs:=encC) (base:=(Big [Ob ba9 (.cells #[.pointer (some ⟨X.g,0,none⟩)] 26 (0,0)),Ob bi10 (.cells #[.int .i64 (c.pc)] 3 (0,0)),Ob X.g (.cells #[.map (some X.mg),.int .i64 ((A.n:Int)),.int .i64 ((A.pz:Int)),.int .i64 ((A.la:Int)),.string (A.seed),.bool A.ino,.slice X.hp A.had.length X.hc,.slice X.wp A.wish.length X.wc,.map (some X.bg)] 85 (0,0))])) (by omega) rfl cl115 (all_it (X:=X) (i:=c.pc) hI) (fun _=>rfl) rfl (fun pre Lx=>∃ (ok:Bool),(ok=decide (c∈pre))∧Lx=[Ob g4 (.cells #[.bool ok] 4 (0,0)),Ob g1 (.cells #[.int .i64 (c.pc),.int .i64 (c.bg),.int .i64 (c.ln)] 44 (0,0)),Rw 4 1 X.hp A.had.length X.hc (fl boolL A.had),Rw 40 2 X.wp A.wish.length X.wc (fl wisL A.wish),Mp (Value.int .i64) ptV okI X.mg (mtM X.ms),(Lst MtI X.ms),Mp plK ptV okP X.bg (bkM X.bs),(Lst BkI X.bs),Old w (fps [(XI X A)])]) (fun cc pre Lx=>False) (fun p ia=>[(3,.pointer (some ⟨g1,0,none⟩)),(4,.pointer (some ⟨g4,0,none⟩)),(5,.pointer (some ⟨ia,0,none⟩))]) (fun p ia=>[Ob ia (.cells #[.int .i64 (p.pc),.int .i64 (p.bg),.int .i64 (p.ln)] 44 (0,0))]) (fun _ _ _ _ _=>trivial) ⟨false,(by simp),rfl⟩ H14 ?_ ?_ ?_ ?_
 ·
  rintro l1 p Ly W15 H16
  have hL:¬ LetsOut (fun (_:Exit) (_:Act) (_:World)=>False):=fun ⟨_,_,h⟩=>h
  refine g_wk [(3,_),(4,_),(10,_)] ?_
  refine R.g_region ?_
  refine R.l_of rfl (fun h=>hL h) (s_alloc H16 (wt0 rfl) rfl rfl rfl ze44 ?_)
  intro g17 wq18 H19
  refine R.l_of rfl (fun h=>hL h) (s_store H19 0 (wt0 rfl) rfl rfl rfl rfl rfl sz44 rfl rfl (cs':=#[.int .i64 (p.pc),.int .i64 (p.bg),.int .i64 (p.ln)]) rfl ?_)
  intro wq20 H21
  refine R.g_nil ?_
  refine w_0 ?_
  exact rw_assign g17 ⟨rfl,rfl,rfl,trivial⟩ H21
 ·
  rintro l1 pr x ia II Kx _ W22 ⟨ok,hJ,rfl⟩ hphi H23
  have H24:=S.unbig (L:=[_]) (H23.tk [3,0,1,2,4,5,6,7,8,9,10,11,12])
  refine g_wk [(3,_),(4,_),(5,_)] ?_
  obtain ⟨q9,hpr9,hxq9⟩:=hphi
  have hxm9:x∈A.blocks c.pc:=List.mem_of_getElem? hxq9
  have H25:S _ [_,_,_,_,_,_,_,_,_,_,_,_,_,_,_]:=S.unbig (H24.tk [1,0,2,3,4,5,6,7,8,9,10,11,12])
  refine R.g_block ?_
  refine R.g_region ?_
  refine R.w_v (fun ⟨_,_,h⟩=>h) (xl H25 6) ?_
  refine R.w_v (fun ⟨_,_,h⟩=>h) xm ?_
  rcases Bool.eq_false_or_eq_true (ok) with hb26 | hb26
  ·
   refine R.l_of rfl (fun ⟨_,_,h⟩=>h) (s_not (wn1 rfl rfl rfl rfl hb26) rfl rfl ?_)
   refine R.l_of rfl (fun ⟨_,_,h⟩=>h) (s_not (wn1 rfl rfl rfl rfl hb26) rfl rfl ?_)
   refine R.l_of rfl (fun ⟨_,_,h⟩=>h) (s_not (wn1 rfl rfl rfl rfl hb26) rfl rfl ?_)
   refine R.w_v (fun ⟨_,_,h⟩=>h) (v:=.bool true) (x_pick_t rfl rfl hb26 rfl) ?_
   refine R.l_of rfl (fun ⟨_,_,h⟩=>h) (s_store H25 6 (wt0 rfl) rfl rfl rfl rfl rfl sz4 rfl rfl (cs':=#[.bool true]) rfl ?_)
   intro wq27 H28
   refine R.g_nil ?_
   refine w_0 ?_
   have H29:S _ [_,_,_,_,_,_,_,_,_,_,_,_,_]:=S.big (L:=[_,_,_]) (H28.tk [0,1,2,3,4,5,6,7,8,9,10,11,12,13,14])
   exact rj_next ⟨true,(by rw [mem_snocB,← hJ]; simp [hb26]),rfl⟩ (H29.tk [0,2,3,4,5,6,7,8,9,10,11,12])
  ·
   refine R.l_of rfl (fun ⟨_,_,h⟩=>h) (s_val (v:=.agg #[.int .i64 (x.pc),.int .i64 (x.bg),.int .i64 (x.ln)]) (wt1 rfl rfl rfl rfl hb26) rfl rfl (x_loadA H25 3 rfl rfl Tryz.underlying44 rfl sz44 rfl rfl rfl) ?_)
   refine R.l_of rfl (fun ⟨_,_,h⟩=>h) (s_val (v:=.agg #[.int .i64 (c.pc),.int .i64 (c.bg),.int .i64 (c.ln)]) (wt1 rfl rfl rfl rfl hb26) rfl rfl (x_loadA H25 7 rfl rfl Tryz.underlying44 rfl sz44 rfl rfl rfl) ?_)
   refine R.l_of rfl (fun ⟨_,_,h⟩=>h) (s_val (v:=.bool (decide (x=c))) (wt1 rfl rfl rfl rfl hb26) rfl rfl (x_bin rfl rfl rfl (b_choE x c)) ?_)
   refine R.w_v (fun ⟨_,_,h⟩=>h) (v:=.bool (decide (x=c))) (x_pick_f rfl rfl hb26 rfl) ?_
   refine R.l_of rfl (fun ⟨_,_,h⟩=>h) (s_store H25 6 (wt0 rfl) rfl rfl rfl rfl rfl sz4 rfl rfl (cs':=#[.bool (decide (x=c))]) rfl ?_)
   intro wq30 H31
   refine R.g_nil ?_
   refine w_0 ?_
   have H32:S _ [_,_,_,_,_,_,_,_,_,_,_,_,_]:=S.big (L:=[_,_,_]) (H31.tk [0,1,2,3,4,5,6,7,8,9,10,11,12,13,14])
   exact rj_next ⟨decide (x=c),(by rw [mem_snocB,← hJ]; simp [hb26]),rfl⟩ (H32.tk [0,2,3,4,5,6,7,8,9,10,11,12])
 ·
  rintro D xs _ W33 hxs ⟨ok,hJ,rfl⟩ H34
  have H35:S _ [_,_,_,_,_,_,_,_,_,_,_,_,_]:=S.unbig (H34.tk [1,0,2,3,4,5,6,7,8,9,10])
  refine w_k2 ?_
  refine R.g_region ?_
  refine R.w_v (fun h=>hL h) (xl H35 4) ?_
  refine R.l_of rfl (fun h=>hL h) (s_call (wt0 rfl) (x_call' rfl rfl cl39) (need_t ok 1 (by rw [hJ,hxs]; exact decide_eq_true hc.2.2) _) ?_)
  rintro _ wq36 ⟨rfl,H37⟩
  replace H37:=H35.ab0 H37
  refine b_ret rfl rfl ?_
  refine R.g_nil ?_
  refine fin_wend ?_
  refine glw_mark (by simp) H37 (k:=3) rfl ?_
  intro wq38 H39
  refine glw_ret [] [] rfl trivial ?_
  exact ⟨rfl,((S.big (L:=[_,_,_,_,_,_,_]) (H39.tk [2,6,7,8,9,10,11,12])).tk [0,1])⟩
 · rintro D cc pr _ W _ h; exact h.elim
theorem is_f (X:XP) (A:PK) (j:Nat) (hX:XOK X A) (hI:PKI j A) (c:Cho) (hp:0≤c.pc∧c.pc<(A.n:Int)) (hc:¬ A.isB c)  (w:World) (HS:S w [(XI X A)]):Calls Tryz.prog 50 #[.pointer (some ⟨X.g,0,none⟩),.agg #[.int .i64 (c.pc),.int .i64 (c.bg),.int .i64 (c.ln)]] w fun e w'=>e=.panicked [{ v:=.iface 134 (.int .i64 1),recovered:=false }]∧S w' ([(XI X A)]++[Old w (fps [(XI X A)])]):=by
 have H0:=HS.beginI
 have hn24:=hI.n24
 have hn1:=hI.n1
 have hpz1:=hI.pz1
 have hpz2:=hI.pz2
 have hla1:=hI.la1
 have hla2:=hI.la2
 have hadl:=hI.hadl
 have hwl:=hI.wishl
 replace H0:S _ [_,_,_,_,_,_,_,_]:=S.unbig (L:=[_,_,_,_,_,_,_]) H0
 refine enter_w 19 Tryz.func50 rfl rfl rfl ?_
 have hL:¬ LetsOut (bodyPostW Tryz.prog Tryz.f50 fun e w'=>e=.panicked [{ v:=.iface 134 (.int .i64 1),recovered:=false }]∧S w' ([(XI X A)]++[Old w (fps [(XI X A)])])):=by
  rintro ⟨_,_,h⟩
  simp only [bodyPostW,reduceCtorEq,false_and,and_false,exists_false,or_false,or_self,exists_const] at h
 refine g_wk [(0,_),(1,_)] ?_
 refine R.g_seq ?_
 refine R.g_region ?_
 refine R.l_of rfl (fun h=>hL h) (s_box H0 (wt0 rfl) rfl rfl rfl rfl ?_)
 intro g1 wq2 H3
 refine R.g_nil ?_
 refine w_0 ?_
 refine R.g_seq ?_
 refine R.g_region ?_
 refine R.l_of rfl (fun h=>hL h) (s_alloc H3 (wt0 rfl) rfl rfl rfl ze4 ?_)
 intro g4 wq5 H6
 refine R.l_of rfl (fun h=>hL h) (s_store H6 0 (wt0 rfl) rfl rfl rfl rfl rfl sz4 rfl rfl (cs':=#[.bool false]) rfl ?_)
 intro wq7 H8
 refine R.g_nil ?_
 refine w_0 ?_
 iterate 2 refine R.g_seq ?_
 refine R.g_region ?_
 refine R.w_v (fun h=>hL h) xm ?_
 refine R.w_v (fun h=>hL h) x_f ?_
 refine R.w_v (fun h=>hL h) (xl H8 1) ?_
 refine R.l_of rfl (fun h=>hL h) (s_call (wt0 rfl) (x_call' rfl rfl cl59) (all_s X.g c.pc _) ?_)
 rintro _ wq11 ⟨ba9,bi10,rfl,H12⟩
 replace H12:S _ [_,_,_,_,_,_,_,_,_,_,_,_]:=H8.ab (new:=[_,_]) H12 rfl
 refine b_ret rfl rfl ?_
 refine R.g_nil ?_
 refine w_0 ?_
 refine R.g_block ?_
 have H13:S _ [_,_,_,_,_,_,_,_,_,_]:=S.big (L:=[_,_,_]) (H12.tk [0,1,4,2,3,5,6,7,8,9,10,11])
 have H14:=S.noI (H13.tk [0,1,2,3,4,5,6,7,8,9])
 refine g_rangeJ (α:=Cho) (ι:=Nat) (encs:=encC) (base:=(Big [Ob ba9 (.cells #[.pointer (some ⟨X.g,0,none⟩)] 26 (0,0)),Ob bi10 (.cells #[.int .i64 (c.pc)] 3 (0,0)),Ob X.g (.cells #[.map (some X.mg),.int .i64 ((A.n:Int)),.int .i64 ((A.pz:Int)),.int .i64 ((A.la:Int)),.string (A.seed),.bool A.ino,.slice X.hp A.had.length X.hc,.slice X.wp A.wish.length X.wc,.map (some X.bg)] 85 (0,0))])) (by omega) rfl cl115 (all_it (X:=X) (i:=c.pc) hI) (fun _=>rfl) rfl (fun pre Lx=>∃ (ok:Bool),(ok=decide (c∈pre))∧Lx=[Ob g4 (.cells #[.bool ok] 4 (0,0)),Ob g1 (.cells #[.int .i64 (c.pc),.int .i64 (c.bg),.int .i64 (c.ln)] 44 (0,0)),Rw 4 1 X.hp A.had.length X.hc (fl boolL A.had),Rw 40 2 X.wp A.wish.length X.wc (fl wisL A.wish),Mp (Value.int .i64) ptV okI X.mg (mtM X.ms),(Lst MtI X.ms),Mp plK ptV okP X.bg (bkM X.bs),(Lst BkI X.bs),Old w (fps [(XI X A)])]) (fun cc pre Lx=>False) (fun p ia=>[(3,.pointer (some ⟨g1,0,none⟩)),(4,.pointer (some ⟨g4,0,none⟩)),(5,.pointer (some ⟨ia,0,none⟩))]) (fun p ia=>[Ob ia (.cells #[.int .i64 (p.pc),.int .i64 (p.bg),.int .i64 (p.ln)] 44 (0,0))]) (fun _ _ _ _ _=>trivial) ⟨false,(by simp),rfl⟩ H14 ?_ ?_ ?_ ?_
 ·
  rintro l1 p Ly W15 H16
  have hL:¬ LetsOut (fun (_:Exit) (_:Act) (_:World)=>False):=fun ⟨_,_,h⟩=>h
  refine g_wk [(3,_),(4,_),(10,_)] ?_
  refine R.g_region ?_
  refine R.l_of rfl (fun h=>hL h) (s_alloc H16 (wt0 rfl) rfl rfl rfl ze44 ?_)
  intro g17 wq18 H19
  refine R.l_of rfl (fun h=>hL h) (s_store H19 0 (wt0 rfl) rfl rfl rfl rfl rfl sz44 rfl rfl (cs':=#[.int .i64 (p.pc),.int .i64 (p.bg),.int .i64 (p.ln)]) rfl ?_)
  intro wq20 H21
  refine R.g_nil ?_
  refine w_0 ?_
  exact rw_assign g17 ⟨rfl,rfl,rfl,trivial⟩ H21
 ·
  rintro l1 pr x ia II Kx _ W22 ⟨ok,hJ,rfl⟩ hphi H23
  have H24:=S.unbig (L:=[_]) (H23.tk [3,0,1,2,4,5,6,7,8,9,10,11,12])
  refine g_wk [(3,_),(4,_),(5,_)] ?_
  obtain ⟨q9,hpr9,hxq9⟩:=hphi
  have hxm9:x∈A.blocks c.pc:=List.mem_of_getElem? hxq9
  have H25:S _ [_,_,_,_,_,_,_,_,_,_,_,_,_,_,_]:=S.unbig (H24.tk [1,0,2,3,4,5,6,7,8,9,10,11,12])
  refine R.g_block ?_
  refine R.g_region ?_
  refine R.w_v (fun ⟨_,_,h⟩=>h) (xl H25 6) ?_
  refine R.w_v (fun ⟨_,_,h⟩=>h) xm ?_
  rcases Bool.eq_false_or_eq_true (ok) with hb26 | hb26
  ·
   refine R.l_of rfl (fun ⟨_,_,h⟩=>h) (s_not (wn1 rfl rfl rfl rfl hb26) rfl rfl ?_)
   refine R.l_of rfl (fun ⟨_,_,h⟩=>h) (s_not (wn1 rfl rfl rfl rfl hb26) rfl rfl ?_)
   refine R.l_of rfl (fun ⟨_,_,h⟩=>h) (s_not (wn1 rfl rfl rfl rfl hb26) rfl rfl ?_)
   refine R.w_v (fun ⟨_,_,h⟩=>h) (v:=.bool true) (x_pick_t rfl rfl hb26 rfl) ?_
   refine R.l_of rfl (fun ⟨_,_,h⟩=>h) (s_store H25 6 (wt0 rfl) rfl rfl rfl rfl rfl sz4 rfl rfl (cs':=#[.bool true]) rfl ?_)
   intro wq27 H28
   refine R.g_nil ?_
   refine w_0 ?_
   have H29:S _ [_,_,_,_,_,_,_,_,_,_,_,_,_]:=S.big (L:=[_,_,_]) (H28.tk [0,1,2,3,4,5,6,7,8,9,10,11,12,13,14])
   exact rj_next ⟨true,(by rw [mem_snocB,← hJ]; simp [hb26]),rfl⟩ (H29.tk [0,2,3,4,5,6,7,8,9,10,11,12])
  ·
   refine R.l_of rfl (fun ⟨_,_,h⟩=>h) (s_val (v:=.agg #[.int .i64 (x.pc),.int .i64 (x.bg),.int .i64 (x.ln)]) (wt1 rfl rfl rfl rfl hb26) rfl rfl (x_loadA H25 3 rfl rfl Tryz.underlying44 rfl sz44 rfl rfl rfl) ?_)
   refine R.l_of rfl (fun ⟨_,_,h⟩=>h) (s_val (v:=.agg #[.int .i64 (c.pc),.int .i64 (c.bg),.int .i64 (c.ln)]) (wt1 rfl rfl rfl rfl hb26) rfl rfl (x_loadA H25 7 rfl rfl Tryz.underlying44 rfl sz44 rfl rfl rfl) ?_)
   refine R.l_of rfl (fun ⟨_,_,h⟩=>h) (s_val (v:=.bool (decide (x=c))) (wt1 rfl rfl rfl rfl hb26) rfl rfl (x_bin rfl rfl rfl (b_choE x c)) ?_)
   refine R.w_v (fun ⟨_,_,h⟩=>h) (v:=.bool (decide (x=c))) (x_pick_f rfl rfl hb26 rfl) ?_
   refine R.l_of rfl (fun ⟨_,_,h⟩=>h) (s_store H25 6 (wt0 rfl) rfl rfl rfl rfl rfl sz4 rfl rfl (cs':=#[.bool (decide (x=c))]) rfl ?_)
   intro wq30 H31
   refine R.g_nil ?_
   refine w_0 ?_
   have H32:S _ [_,_,_,_,_,_,_,_,_,_,_,_,_]:=S.big (L:=[_,_,_]) (H31.tk [0,1,2,3,4,5,6,7,8,9,10,11,12,13,14])
   exact rj_next ⟨decide (x=c),(by rw [mem_snocB,← hJ]; simp [hb26]),rfl⟩ (H32.tk [0,2,3,4,5,6,7,8,9,10,11,12])
 ·
  rintro D xs _ W33 hxs ⟨ok,hJ,rfl⟩ H34
  have H35:S _ [_,_,_,_,_,_,_,_,_,_,_,_,_]:=S.unbig (H34.tk [1,0,2,3,4,5,6,7,8,9,10])
  refine w_k2 ?_
  refine R.g_region ?_
  refine R.w_v (fun h=>hL h) (xl H35 4) ?_
  refine R.l_of rfl (fun h=>hL h) (s_call (wt0 rfl) (x_call' rfl rfl cl39) (need_f ok 1 (by rw [hJ,hxs]; exact decide_eq_false fun h9=>hc ⟨hp.1,hp.2,h9⟩) _) ?_)
  rintro _ wq36 ⟨rfl,H37⟩
  replace H37:=H35.ab0 H37
  refine b_panic ?_
  refine fin_wpanic ?_
  refine glw_mark (by simp) H37 (k:=3) rfl ?_
  intro wq38 H39
  refine glw_panic ?_
  exact ⟨rfl,((S.big (L:=[_,_,_,_,_,_,_]) (H39.tk [2,6,7,8,9,10,11,12])).tk [0,1])⟩
 · rintro D cc pr _ W _ h; exact h.elim
end Go.Proofs.YthmmfhdpkddniaaGreatDoor
