import Derived.Test.YthmmfhdpkddniaaGreatDoorFm
import Derived.Test.YthmmfhdpkddniaaGreatDoorXc
set_option maxRecDepth 20000
set_option maxHeartbeats 4000000
set_option linter.unusedSimpArgs false
set_option linter.unusedVariables false
namespace Go.Proofs.YthmmfhdpkddniaaGreatDoor
open Go.RowKit
theorem cl58:callable Tryz.prog 58=true:=by kernel_rfl
theorem fo85_6:foO Tryz.prog 85 6=some 6:=by kernel_rfl
theorem open_x (X:XP) (A:PK) (j:Nat) (hX:XOK X A) (hI:PKI j A) (i:Int) (hi:0≤i∧i<(A.n:Int))  (w:World) (HS:S w [(XI X A)]):Calls Tryz.prog 58 #[.pointer (some ⟨X.g,0,none⟩),.int .i64 i] w fun e w'=>e=.returned (.bool (A.openB i))∧S w' ([(XI X A)]++[Old w (fps [(XI X A)])]):=by
 have H0:=HS.beginI
 have hn24:=hI.n24
 have hn1:=hI.n1
 have hpz1:=hI.pz1
 have hpz2:=hI.pz2
 have hla1:=hI.la1
 have hla2:=hI.la2
 have hadl:=hI.hadl
 have hwl:=hI.wishl
 replace H0:S _ [_,_,_,_,_,_,_,_]:=S.unbig (L:=[_,_,_,_,_,_,_]) H0
 refine enter 24 Tryz.func58 rfl rfl rfl ?_
 refine g_wk [(0,_),(1,_)] ?_
 refine w_s ?_
 refine w_k8 ?_
 refine w_v (x_i ((i).toNat) (H0.rr 1)) ?_
 obtain ⟨x1,hx1⟩:=(H0.rr 1).exL boolE ((i).toNat)
 have hhb9:=bitAt_at hx1
 refine w_v (x_r ((i).toNat) (H0.rr 1) (boolE.flAt1 hx1 rfl)) ?_
 refine w_v (x_not (b:=x1) rfl rfl) ?_
 refine w_m ?_
 rcases Bool.eq_false_or_eq_true (x1) with hb2 | hb2
 ·
  iterate 9 refine w_n (neg_of hb2) ?_
  refine w_v (x_pick_f rfl rfl (neg_of hb2) rfl) ?_
  refine w_k2 ?_
  refine g_wk [(4,_)] ?_
  refine g_ret ?_
  refine fin_r [.tmp 4] [.bool false] ?_
  have hE:A.openB i=false:=open_had (hhb9.trans hb2)
  rw [hE]
  exact ⟨rfl,((S.big (L:=[_,_,_,_,_,_,_]) (H0.tk [0,1,2,3,4,5,6,7])).tk [0,1])⟩
 ·
  refine w_g (neg_of hb2) xm ?_
  refine w_g (neg_of hb2) xn ?_
  refine w_g (neg_of hb2) (xf 7) ?_
  refine w_g (neg_of hb2) (xl H0 0) ?_
  refine w_g (neg_of hb2) xm ?_
  refine w_g (neg_of hb2) (x_i ((i).toNat) (H0.rr 2)) ?_
  refine w_g (v:=.pointer ((X.wp).map fun q=>q.add (((i).toNat) * 2+0))) (neg_of hb2) (ex_cast (x_fieldAddrG (m:=((i).toNat) * 2) ((H0.rr 2).some (by omega)) rfl rfl fo40_0) rfl) ?_
  obtain ⟨x3,hx3⟩:=(H0.rr 2).exL wisE ((i).toNat)
  have hlv9:=lv_at hx3
  have hdu9:=du_at hx3
  have hwr9:=hI.wishr x3 (List.mem_of_getElem? hx3)
  refine w_g (neg_of hb2) (x_loadF1 (i:=0) (j:=((i).toNat)) wisE (H0.rr 2) hx3 rfl rfl Tryz.underlying3 rfl rfl) ?_
  refine w_g (neg_of hb2) (x_bin rfl rfl rfl b_gtr) ?_
  refine w_v (x_pick_t rfl rfl (neg_of hb2) rfl) ?_
  refine w_k2 ?_
  refine g_wk [(4,_)] ?_
  refine g_ret ?_
  refine fin_r [.tmp 4] [.bool (decide ((0:Int)<x3.lv))] ?_
  have hE:A.openB i=(decide ((0:Int)<x3.lv)):=by unfold PK.openB; rw [hhb9,hb2,show A.lv i=x3.lv from hlv9]; rfl
  rw [hE]
  exact ⟨rfl,((S.big (L:=[_,_,_,_,_,_,_]) (H0.tk [0,1,2,3,4,5,6,7])).tk [0,1])⟩
theorem endF_skip {A:PK} {i:Int} (h:A.openB i=false):A.endF i=true:=by unfold PK.endF; rw [h]; rfl
theorem endF_go {A:PK} {i:Int} (h:A.openB i=true) (h2:∀ y∈A.blocks i,A.freeC y=false):A.endF i=true:=by
 unfold PK.endF
 rw [h]
 show (false || _)=true
 rw [Bool.false_or,List.all_eq_true]
 exact fun y hy=>by rw [h2 y hy]; rfl
theorem endF_not {A:PK} {i:Int} (h:A.openB i=true) {c:Cho} (hc:c∈A.blocks i) (h2:A.freeC c=true):A.endF i=false:=by
 unfold PK.endF
 rw [h]
 show (false || _)=false
 rw [Bool.false_or,List.all_eq_false]
 exact ⟨c,hc,by rw [h2]; decide⟩
theorem freeC_of {X:XP} {A:PK} (hX:XOK X A) {c:Cho} {i:Int} (hc:c∈A.blocks i) {b:Bool} (h:(bkM X.bs c.at).isSome=b):A.freeC c=!b:=by
 cases b with
 | true=>exact hX.yes hc h
 | false=>exact hX.no hc h
theorem ending_x (X:XP) (A:PK) (j:Nat) (hX:XOK X A) (hI:PKI j A)  (w:World) (HS:S w [(XI X A)]):Calls Tryz.prog 60 #[.pointer (some ⟨X.g,0,none⟩)] w fun e w'=>e=.returned (.bool A.endB)∧S w' ([(XI X A)]++[Old w (fps [(XI X A)])]):=by
 have H0:=HS.beginI
 have hn24:=hI.n24
 have hn1:=hI.n1
 have hpz1:=hI.pz1
 have hpz2:=hI.pz2
 have hla1:=hI.la1
 have hla2:=hI.la2
 have hadl:=hI.hadl
 have hwl:=hI.wishl
 replace H0:S _ [_,_,_,_,_,_,_,_]:=S.unbig (L:=[_,_,_,_,_,_,_]) H0
 replace H0:=H0.nilMarks
 refine enter_m 29 Tryz.func60 rfl rfl rfl ?_
 have hL:¬ LetsOut (bodyPostM (WF none) 9 Tryz.prog Tryz.f60 fun e w'=>e=.returned (.bool A.endB)∧S w' ([(XI X A)]++[Old w (fps [(XI X A)])])):=by
  rintro ⟨_,_,h⟩
  simp only [bodyPostM,reduceCtorEq,false_and,and_false,exists_false,or_false,or_self,exists_const] at h
 refine g_wk [(0,_)] ?_
 refine R.g_seq ?_
 refine R.g_region ?_
 refine R.l_of rfl (fun h=>hL h) (s_box H0 (wt0 rfl) rfl rfl rfl rfl ?_)
 intro g1 wq2 H3
 refine R.l_of rfl (fun h=>hL h) (s_alloc H3 (wt0 rfl) rfl rfl rfl ze4 ?_)
 intro g4 wq5 H6
 refine R.g_nil ?_
 refine w_0 ?_
 iterate 2 refine R.g_seq ?_
 refine R.g_region ?_
 refine R.w_v (fun h=>hL h) (xl H6 1) ?_
 refine R.w_v (fun h=>hL h) xn ?_
 refine R.w_v (fun h=>hL h) x_f ?_
 refine R.w_v (fun h=>hL h) (xl H6 3) ?_
 refine R.w_v (fun h=>hL h) xm ?_
 refine R.g_nil ?_
 refine w_0 ?_
 refine R.g_block ?_
 refine g_loopD (ι:=Nat × List Nat) (fun (ii,Ds)=>[(1,.pointer (some ⟨g1,0,none⟩)),(2,.pointer (some ⟨g4,0,none⟩)),(8,.int .i64 ((A.n:Int))),(9,.int .i64 ((ii:Int)))]) (fun (ii,Ds)=>Ds.map mark) (fun (ii,Ds) wx=>(ii≤A.n)∧(∀ y∈(idxs A.n).take ii,A.endF y=true)∧S wx [Ob g4 (.cells #[.bool false] 4 (0,0)),Ob g1 (.cells #[.pointer (some ⟨X.g,0,none⟩)] 26 (0,0)),Marks Ds,Ob X.g (.cells #[.map (some X.mg),.int .i64 ((A.n:Int)),.int .i64 ((A.pz:Int)),.int .i64 ((A.la:Int)),.string (A.seed),.bool A.ino,.slice X.hp A.had.length X.hc,.slice X.wp A.wish.length X.wc,.map (some X.bg)] 85 (0,0)),Rw 4 1 X.hp A.had.length X.hc (fl boolL A.had),Rw 40 2 X.wp A.wish.length X.wc (fl wisL A.wish),Mp (Value.int .i64) ptV okI X.mg (mtM X.ms),(Lst MtI X.ms),Mp plK ptV okP X.bg (bkM X.bs),(Lst BkI X.bs),Old w (fps [(XI X A)])]) (fun (ii,Ds)=>A.n - ii) (0,[]) ⟨rfl,rfl,rfl,rfl,trivial⟩ rfl ⟨(Nat.zero_le _),(fun y hy=>by simp at hy),(H6.tk [0,1,2,3,4,5,6,7,8,9,10])⟩ ?_
 rintro ⟨ii,Ds⟩ wq7 ⟨hq,hno,H8⟩
 refine g_wk [(1,_),(2,_),(8,_),(9,_)] ?_
 refine R.g_seq ?_
 refine R.g_region ?_
 refine R.w_v (fun h=>hL h) (x_bin rfl rfl rfl b_lss) ?_
 refine R.g_nil ?_
 refine w_0 ?_
 refine R.g_seq ?_
 by_cases hb9:((ii:Int):Int)<(A.n:Int)
 ·
  refine R.g_cond_t rfl (decide_eq_true hb9) ?_
  refine R.g_skip ?_
  refine w_0 ?_
  refine R.g_seq ?_
  refine R.g_block ?_
  refine R.g_seq ?_
  refine R.g_region ?_
  refine R.w_v (fun h=>hL h) xm ?_
  refine R.w_v (fun h=>hL h) xa ?_
  refine R.g_nil ?_
  refine w_0 ?_
  iterate 2 refine R.g_seq ?_
  refine R.g_region ?_
  refine R.w_v (fun h=>hL h) (xl H8 1) ?_
  refine R.w_v (fun h=>hL h) xm ?_
  have H10:S _ [_,_,_,_,_]:=S.big (L:=[_,_,_,_,_,_,_]) (H8.tk [3,4,5,6,7,8,9,0,1,2,10])
  refine R.l_of rfl (fun h=>hL h) (s_call (wt0 rfl) (x_call' rfl rfl cl58) (open_x X A j hX hI (ii:Int) (by omega) _ (H10.tk [0])) ?_)
  rintro _ wq11 ⟨rfl,H12⟩
  replace H12:S _ [_,_,_,_,_]:=H10.abI (new:=[_]) [0] H12 rfl
  have H13:S _ [_,_,_,_,_,_,_,_,_,_,_]:=S.unbig (L:=[_,_,_,_,_,_,_]) (H12.tk [0,1,2,3,4])
  refine b_ret rfl rfl ?_
  refine R.w_v (fun h=>hL h) (v:=.bool (!((A.openB (ii:Int))))) (x_not (b:=(A.openB (ii:Int))) rfl rfl) ?_
  refine R.g_nil ?_
  refine w_0 ?_
  rcases Bool.eq_false_or_eq_true ((A.openB (ii:Int))) with hb14 | hb14
  ·
   refine R.g_cond_f rfl (neg_of hb14) ?_
   refine R.g_skip ?_
   refine w_0 ?_
   refine R.g_seq ?_
   refine R.g_region ?_
   refine R.w_v (fun h=>hL h) (xl H13 8) ?_
   refine R.w_v (fun h=>hL h) xm ?_
   refine R.l_of rfl (fun h=>hL h) (s_call (wt0 rfl) (x_call' rfl rfl cl59) (all_s X.g (ii:Int) _) ?_)
   rintro _ wq17 ⟨ba15,bi16,rfl,H18⟩
   replace H18:S _ [_,_,_,_,_,_,_,_,_,_,_,_,_]:=H13.ab (new:=[_,_]) H18 rfl
   refine b_ret rfl rfl ?_
   refine R.g_nil ?_
   refine w_0 ?_
   refine R.g_block ?_
   have H19:S _ [_,_,_,_,_,_,_,_,_,_,_]:=S.big (L:=[_,_,_]) (H18.tk [0,1,2,3,4,5,6,7,8,9,10,11,12])
   have H20:=S.noI (H19.tk [0,1,2,3,4,5,6,7,8,9,10])
   refine g_rangeJ (α:=Cho) (ι:=Nat) (encs:=encC) (base:=(Big [Ob ba15 (.cells #[.pointer (some ⟨X.g,0,none⟩)] 26 (0,0)),Ob bi16 (.cells #[.int .i64 ((ii:Int))] 3 (0,0)),Ob X.g (.cells #[.map (some X.mg),.int .i64 ((A.n:Int)),.int .i64 ((A.pz:Int)),.int .i64 ((A.la:Int)),.string (A.seed),.bool A.ino,.slice X.hp A.had.length X.hc,.slice X.wp A.wish.length X.wc,.map (some X.bg)] 85 (0,0))])) (by omega) rfl cl115 (all_it (X:=X) (i:=(ii:Int)) hI) (fun _=>rfl) rfl (fun pre Lx=>(∀ y∈pre,A.freeC y=false)∧Lx=[Rw 4 1 X.hp A.had.length X.hc (fl boolL A.had),Rw 40 2 X.wp A.wish.length X.wc (fl wisL A.wish),Mp (Value.int .i64) ptV okI X.mg (mtM X.ms),(Lst MtI X.ms),Mp plK ptV okP X.bg (bkM X.bs),(Lst BkI X.bs),Ob g4 (.cells #[.bool false] 4 (0,0)),Ob g1 (.cells #[.pointer (some ⟨X.g,0,none⟩)] 26 (0,0)),Marks Ds,Old w (fps [(XI X A)])]) (fun cc pre Lx=>(cc=.ret∧(A.endB=false)∧Lx=[Rw 4 1 X.hp A.had.length X.hc (fl boolL A.had),Rw 40 2 X.wp A.wish.length X.wc (fl wisL A.wish),Mp (Value.int .i64) ptV okI X.mg (mtM X.ms),(Lst MtI X.ms),Mp plK ptV okP X.bg (bkM X.bs),(Lst BkI X.bs),Ob g4 (.cells #[.bool false] 4 (0,0)),Ob g1 (.cells #[.pointer (some ⟨X.g,0,none⟩)] 26 (0,0)),Marks Ds,Old w (fps [(XI X A)])])) (fun p ia=>[(1,.pointer (some ⟨g1,0,none⟩)),(2,.pointer (some ⟨g4,0,none⟩)),(4,.pointer (some ⟨ia,0,none⟩))]) (fun p ia=>[Ob ia (.cells #[.int .i64 (p.pc),.int .i64 (p.bg),.int .i64 (p.ln)] 44 (0,0))]) (fun _ _ _ _ _=>trivial) ⟨(fun _ h=>by cases h),rfl⟩ H20 ?_ ?_ ?_ ?_
   ·
    rintro l1 p Ly W21 H22
    have hL:¬ LetsOut (fun (_:Exit) (_:Act) (_:World)=>False):=fun ⟨_,_,h⟩=>h
    refine g_wk [(1,_),(2,_),(19,_)] ?_
    refine R.g_region ?_
    refine R.l_of rfl (fun h=>hL h) (s_alloc H22 (wt0 rfl) rfl rfl rfl ze44 ?_)
    intro g23 wq24 H25
    refine R.l_of rfl (fun h=>hL h) (s_store H25 0 (wt0 rfl) rfl rfl rfl rfl rfl sz44 rfl rfl (cs':=#[.int .i64 (p.pc),.int .i64 (p.bg),.int .i64 (p.ln)]) rfl ?_)
    intro wq26 H27
    refine R.g_nil ?_
    refine w_0 ?_
    exact rw_assign g23 ⟨rfl,rfl,rfl,trivial⟩ H27
   ·
    rintro l1 pr x ia II Kx _ W28 ⟨hJ,rfl⟩ hphi H29
    have H30:=S.unbig (L:=[_]) (H29.tk [3,0,1,2,4,5,6,7,8,9,10,11,12,13])
    refine g_wk [(1,_),(2,_),(4,_)] ?_
    obtain ⟨q9,hpr9,hxq9⟩:=hphi
    have hxm9:x∈A.blocks (ii:Int):=List.mem_of_getElem? hxq9
    have H31:S _ [_,_,_,_,_,_,_,_,_,_,_,_,_,_,_,_]:=S.unbig (H30.tk [1,0,2,3,4,5,6,7,8,9,10,11,12,13])
    refine R.g_block ?_
    refine R.g_seq ?_
    refine R.g_any [] (fun wx=>S wx [Ob ba15 (.cells #[.pointer (some ⟨X.g,0,none⟩)] 26 (0,0)),Ob bi16 (.cells #[.int .i64 ((ii:Int))] 3 (0,0)),Ob X.g (.cells #[.map (some X.mg),.int .i64 ((A.n:Int)),.int .i64 ((A.pz:Int)),.int .i64 ((A.la:Int)),.string (A.seed),.bool A.ino,.slice X.hp A.had.length X.hc,.slice X.wp A.wish.length X.wc,.map (some X.bg)] 85 (0,0)),Ob ia (.cells #[.int .i64 (x.pc),.int .i64 (x.bg),.int .i64 (x.ln)] 44 (0,0)),II,Kx,Rw 4 1 X.hp A.had.length X.hc (fl boolL A.had),Rw 40 2 X.wp A.wish.length X.wc (fl wisL A.wish),Mp (Value.int .i64) ptV okI X.mg (mtM X.ms),(Lst MtI X.ms),Mp plK ptV okP X.bg (bkM X.bs),(Lst BkI X.bs),Ob g4 (.cells #[.bool false] 4 (0,0)),Ob g1 (.cells #[.pointer (some ⟨X.g,0,none⟩)] 26 (0,0)),Marks Ds,Old w (fps [(XI X A)])]) [] (by kernel_rfl) (by kernel_rfl) (fun ⟨_,_,h⟩=>h) H31 (fun wq32 H33=>?_)
    refine a_take (v:=.pointer (some ⟨X.g,0,none⟩)) 0 rfl (wt0 rfl) rfl rfl rfl (by kernel_rfl) (by kernel_rfl) (by kernel_rfl) (by kernel_rfl) H33 (fun wx H=>x_load1 H 13 rfl rfl Tryz.underlying26 rfl rfl rfl) ?_
    refine a_take (v:=.pointer (some ⟨X.g,0,none⟩)) 1 rfl (wt0 rfl) rfl rfl rfl (by kernel_rfl) (by kernel_rfl) (by kernel_rfl) (by kernel_rfl) H33 (fun wx H=>x_nilCheck rfl rfl) ?_
    refine a_take (v:=.pointer (some ⟨X.g,8,none⟩)) 2 rfl (wt0 rfl) rfl rfl rfl (by kernel_rfl) (by kernel_rfl) (by kernel_rfl) (by kernel_rfl) H33 (fun wx H=>x_fieldAddr rfl rfl fo85_8 rfl) ?_
    refine a_take (v:=.map (some X.bg)) 3 rfl (wt0 rfl) rfl rfl rfl (by kernel_rfl) (by kernel_rfl) (by kernel_rfl) (by kernel_rfl) H33 (fun wx H=>x_load1 H 2 rfl rfl Tryz.underlying83 rfl rfl rfl) ?_
    refine a_take (v:=.agg #[.int .i64 (x.pc),.int .i64 (x.bg),.int .i64 (x.ln)]) 4 rfl (wt0 rfl) rfl rfl rfl (by kernel_rfl) (by kernel_rfl) (by kernel_rfl) (by kernel_rfl) H33 (fun wx H=>x_loadA H 3 rfl rfl Tryz.underlying44 rfl sz44 rfl rfl rfl) ?_
    refine a_one (i:=5) (by kernel_rfl) rfl ?_
    refine s_cl (at_x x _) ?_
    rintro _ wq34 ⟨rfl,H35⟩
    replace H35:=H33.ab0 H35
    refine b_ret rfl rfl ?_
    refine a_k H35 ?_
    refine a_take (v:=(optP ((bkM X.bs) x.at))) 6 rfl (wt0 rfl) rfl rfl rfl (by kernel_rfl) (by kernel_rfl) (by kernel_rfl) (by kernel_rfl) H35 (fun wx H=>ex_cast (x_lookup1 (x:=x.at) placeT H 10 rfl rfl rfl rfl ((okP_blk hI (i:=(ii:Int)) (by omega) hxm9)) ze98) (rfl)) ?_
    refine a_take (v:=.bool (!(((bkM X.bs) x.at).isSome))) 7 rfl (wt0 rfl) rfl rfl rfl (by kernel_rfl) (by kernel_rfl) (by kernel_rfl) (by kernel_rfl) H35 (fun wx H=>x_bin rfl rfl rfl (b_eqPO Tryz.underlying98)) ?_
    refine a_done (by kernel_rfl) ?_
    refine w_0 ?_
    rcases Bool.eq_false_or_eq_true (((bkM X.bs) x.at).isSome) with hb36 | hb36
    ·
     obtain ⟨ir,r,hrq,hrk,hrb,hrf⟩:=bkM_ex hb36
     rw [optP_s hrb]
     refine R.g_cond_f rfl (neg_of hb36) ?_
     refine R.g_skip ?_
     refine w_0 ?_
     have H37:S _ [_,_,_,_,_,_,_,_,_,_,_,_,_,_]:=S.big (L:=[_,_,_]) (H35.tk [0,1,2,3,4,5,6,7,8,9,10,11,12,13,14,15])
     exact rj_next ⟨(fun y hy=>by rcases List.mem_append.1 hy with hy | hy; exact hJ y hy; rw [List.mem_singleton] at hy; subst hy; exact freeC_of hX hxm9 hb36),rfl⟩ (H37.tk [0,2,3,4,5,6,7,8,9,10,11,12,13])
    ·
     refine R.g_cond_t rfl (neg_of hb36) ?_
     refine R.g_seq ?_
     refine R.g_region ?_
     refine R.l_of rfl (fun ⟨_,_,h⟩=>h) (s_store H35 12 (wt0 rfl) rfl rfl rfl rfl rfl sz4 rfl rfl (cs':=#[.bool false]) rfl ?_)
     intro wq38 H39
     refine R.g_nil ?_
     refine w_0 ?_
     refine R.g_ret ?_
     refine w_0 ?_
     have H40:S _ [_,_,_,_,_,_,_,_,_,_,_,_,_,_]:=S.big (L:=[_,_,_]) (H39.tk [0,1,2,3,4,5,6,7,8,9,10,11,12,13,14,15])
     exact rj_ret (⟨rfl,(by rw [endB_eq,List.all_eq_false]; exact ⟨(ii:Int),List.mem_of_getElem? (idxs_at (by omega)),by rw [endF_not hb14 hxm9 (freeC_of hX hxm9 hb36)]; decide⟩),rfl⟩) (H40.tk [0,2,3,4,5,6,7,8,9,10,11,12,13])
   ·
    rintro D xs _ W41 hxs ⟨hJ,rfl⟩ H42
    have H43:S _ [_,_,_,_,_,_,_,_,_,_,_,_,_,_]:=S.unbig (H42.tk [1,0,2,3,4,5,6,7,8,9,10,11])
    have H44:S _ [_,_,_,_,_,_,_,_,_,_,_,_,_]:=S.consMark (H43.tk [3,0,1,2,4,5,6,7,8,9,10,11,12,13]) (k:=11) rfl
    refine w_k3 ?_
    refine R.g_region ?_
    refine R.w_v (fun h=>hL h) (v:=.int .i64 (((ii+1:Nat):Int))) (x_bin rfl rfl rfl (b_add (by rw [w64 (by omega)]; omega))) ?_
    refine R.w_v (fun h=>hL h) xm ?_
    refine R.g_nil ?_
    refine w_0 ?_
    refine g_roundD (i:=(ii,Ds)) ((ii+1),(D :: Ds)) ?_ rfl ?_ ?_
    · exact ⟨rfl,rfl,rfl,rfl,trivial⟩
    · exact ⟨(by omega),(no_takeP hno (idxs_at (by omega)) (endF_go hb14 (by rw [hxs] at hJ; exact hJ))),(H44.tk [9,10,11,2,3,4,5,6,7,8,12])⟩
    · (try dsimp only); omega
   ·
    rintro D cc pr _ W45 _ ⟨rfl,hst,rfl⟩ H46
    have H47:S _ [_,_,_,_,_,_,_,_,_,_,_,_,_,_]:=S.unbig (H46.tk [1,0,2,3,4,5,6,7,8,9,10,11])
    have H48:S _ [_,_,_,_,_,_,_,_,_,_,_,_,_]:=S.consMark (H47.tk [3,0,1,2,4,5,6,7,8,9,10,11,12,13]) (k:=11) rfl
    refine gw_ret ?_
    refine w_k6 ?_
    refine fin_marks (H48.tk [11,0,1,2,3,4,5,6,7,8,9,10,12]) [.cell 2 4] [.bool false] rfl (fun W' hW=>⟨⟨⟨_,rfl,run_load1 Tryz.underlying4 rfl (hW.cell (k:=9) rfl rfl)⟩,trivial⟩,?_⟩)
    replace hW:S W' [Ob ba15 (.cells #[.pointer (some ⟨X.g,0,none⟩)] 26 (0,0)),Ob bi16 (.cells #[.int .i64 ((ii:Int))] 3 (0,0)),Ob X.g (.cells #[.map (some X.mg),.int .i64 ((A.n:Int)),.int .i64 ((A.pz:Int)),.int .i64 ((A.la:Int)),.string (A.seed),.bool A.ino,.slice X.hp A.had.length X.hc,.slice X.wp A.wish.length X.wc,.map (some X.bg)] 85 (0,0)),Rw 4 1 X.hp A.had.length X.hc (fl boolL A.had),Rw 40 2 X.wp A.wish.length X.wc (fl wisL A.wish),Mp (Value.int .i64) ptV okI X.mg (mtM X.ms),(Lst MtI X.ms),Mp plK ptV okP X.bg (bkM X.bs),(Lst BkI X.bs),Ob g4 (.cells #[.bool false] 4 (0,0)),Ob g1 (.cells #[.pointer (some ⟨X.g,0,none⟩)] 26 (0,0)),Old w (fps [(XI X A)])]:=hW
    rw [hst]
    exact ⟨rfl,((S.big (L:=[_,_,_,_,_,_,_]) (hW.tk [2,3,4,5,6,7,8,11])).tk [0,1])⟩
  ·
   refine R.g_cond_t rfl (neg_of hb14) ?_
   refine R.g_exit ?_
   refine w_k3 ?_
   refine R.g_region ?_
   refine R.w_v (fun h=>hL h) (v:=.int .i64 (((ii+1:Nat):Int))) (x_bin rfl rfl rfl (b_add (by rw [w64 (by omega)]; omega))) ?_
   refine R.w_v (fun h=>hL h) xm ?_
   refine R.g_nil ?_
   refine w_0 ?_
   refine g_roundD (i:=(ii,Ds)) ((ii+1),Ds) ?_ rfl ?_ ?_
   · exact ⟨rfl,rfl,rfl,rfl,trivial⟩
   · exact ⟨(by omega),(no_takeP hno (idxs_at (by omega)) (endF_skip hb14)),(H13.tk [7,8,9,0,1,2,3,4,5,6,10])⟩
   · (try dsimp only); omega
 ·
  refine R.g_cond_f rfl (decide_eq_false hb9) ?_
  refine R.g_exit ?_
  refine w_k4 ?_
  refine R.g_seq ?_
  refine R.g_region ?_
  refine R.l_of rfl (fun h=>hL h) (s_store H8 0 (wt0 rfl) rfl rfl rfl rfl rfl sz4 rfl rfl (cs':=#[.bool true]) rfl ?_)
  intro wq49 H50
  refine R.g_nil ?_
  refine w_0 ?_
  refine R.g_ret ?_
  refine fin_marks (H50.tk [2,0,1,3,4,5,6,7,8,9,10]) [.cell 2 4] [.bool true] rfl (fun W' hW=>⟨⟨⟨_,rfl,run_load1 Tryz.underlying4 rfl (hW.cell (k:=0) rfl rfl)⟩,trivial⟩,?_⟩)
  replace hW:S W' [Ob g4 (.cells #[.bool true] 4 (0,0)),Ob g1 (.cells #[.pointer (some ⟨X.g,0,none⟩)] 26 (0,0)),Ob X.g (.cells #[.map (some X.mg),.int .i64 ((A.n:Int)),.int .i64 ((A.pz:Int)),.int .i64 ((A.la:Int)),.string (A.seed),.bool A.ino,.slice X.hp A.had.length X.hc,.slice X.wp A.wish.length X.wc,.map (some X.bg)] 85 (0,0)),Rw 4 1 X.hp A.had.length X.hc (fl boolL A.had),Rw 40 2 X.wp A.wish.length X.wc (fl wisL A.wish),Mp (Value.int .i64) ptV okI X.mg (mtM X.ms),(Lst MtI X.ms),Mp plK ptV okP X.bg (bkM X.bs),(Lst BkI X.bs),Old w (fps [(XI X A)])]:=hW
  have hE:A.endB=true:=by rw [endB_eq,List.all_eq_true]; intro y hy; exact hno y (by rw [show ii=A.n from by omega,List.take_of_length_le (by rw [idxs_len]; exact Nat.le_refl _)]; exact hy)
  rw [hE]
  exact ⟨rfl,((S.big (L:=[_,_,_,_,_,_,_]) (hW.tk [2,3,4,5,6,7,8,9])).tk [0,1])⟩
theorem left_x (X:XP) (A:PK) (j:Nat) (hX:XOK X A) (hI:PKI j A)  (w:World) (HS:S w [(XI X A)]):Calls Tryz.prog 22 #[.pointer (some ⟨X.g,0,none⟩)] w fun e w'=>e=.returned (.int .i64 (A.leftN:Int))∧S w' ([(XI X A)]++[Old w (fps [(XI X A)])]):=by
 have H0:=HS.beginI
 have hn24:=hI.n24
 have hn1:=hI.n1
 have hpz1:=hI.pz1
 have hpz2:=hI.pz2
 have hla1:=hI.la1
 have hla2:=hI.la2
 have hadl:=hI.hadl
 have hwl:=hI.wishl
 replace H0:S _ [_,_,_,_,_,_,_,_]:=S.unbig (L:=[_,_,_,_,_,_,_]) H0
 replace H0:=H0.nilMarks
 refine enter_m 44 Tryz.func22 rfl rfl rfl ?_
 have hL:¬ LetsOut (bodyPostM (WF none) 9 Tryz.prog Tryz.f22 fun e w'=>e=.returned (.int .i64 (A.leftN:Int))∧S w' ([(XI X A)]++[Old w (fps [(XI X A)])])):=by
  rintro ⟨_,_,h⟩
  simp only [bodyPostM,reduceCtorEq,false_and,and_false,exists_false,or_false,or_self,exists_const] at h
 refine g_wk [(0,_)] ?_
 refine R.g_seq ?_
 refine R.g_region ?_
 refine R.l_of rfl (fun h=>hL h) (s_box H0 (wt0 rfl) rfl rfl rfl rfl ?_)
 intro g1 wq2 H3
 refine R.w_v (fun h=>hL h) xa ?_
 refine R.g_nil ?_
 refine w_0 ?_
 refine R.g_seq ?_
 refine R.g_region ?_
 refine R.l_of rfl (fun h=>hL h) (s_alloc H3 (wt0 rfl) rfl rfl rfl ze3 ?_)
 intro g4 wq5 H6
 refine R.l_of rfl (fun h=>hL h) (s_store H6 0 (wt0 rfl) rfl rfl rfl rfl rfl sz3 rfl rfl (cs':=#[.int .i64 0]) rfl ?_)
 intro wq7 H8
 refine R.g_nil ?_
 refine w_0 ?_
 iterate 2 refine R.g_seq ?_
 refine R.g_region ?_
 refine R.w_v (fun h=>hL h) (xl H8 1) ?_
 refine R.w_v (fun h=>hL h) (v:=.bool false) (x_bin rfl rfl rfl (b_eqN (r:=false) Tryz.underlying26 rfl)) ?_
 refine R.g_nil ?_
 refine w_0 ?_
 refine R.g_cond_f rfl rfl ?_
 refine R.g_skip ?_
 refine w_0 ?_
 iterate 2 refine R.g_seq ?_
 refine R.g_region ?_
 refine R.w_v (fun h=>hL h) (xl H8 1) ?_
 refine R.w_v (fun h=>hL h) xn ?_
 refine R.w_v (fun h=>hL h) x_f ?_
 refine R.w_v (fun h=>hL h) (xl H8 3) ?_
 refine R.w_v (fun h=>hL h) xm ?_
 refine R.g_nil ?_
 refine w_0 ?_
 refine R.g_block ?_
 refine g_loopD (ι:=Nat × Nat × List Nat) (fun (ii,s,Ds)=>[(1,.pointer (some ⟨g1,0,none⟩)),(2,.int .i64 0),(3,.pointer (some ⟨g4,0,none⟩)),(12,.int .i64 ((A.n:Int))),(13,.int .i64 ((ii:Int)))]) (fun (ii,s,Ds)=>Ds.map mark) (fun (ii,s,Ds) wx=>(ii≤A.n)∧(s=sumN A ii)∧S wx [Ob g4 (.cells #[.int .i64 ((s:Int))] 3 (0,0)),Ob g1 (.cells #[.pointer (some ⟨X.g,0,none⟩)] 26 (0,0)),Marks Ds,Ob X.g (.cells #[.map (some X.mg),.int .i64 ((A.n:Int)),.int .i64 ((A.pz:Int)),.int .i64 ((A.la:Int)),.string (A.seed),.bool A.ino,.slice X.hp A.had.length X.hc,.slice X.wp A.wish.length X.wc,.map (some X.bg)] 85 (0,0)),Rw 4 1 X.hp A.had.length X.hc (fl boolL A.had),Rw 40 2 X.wp A.wish.length X.wc (fl wisL A.wish),Mp (Value.int .i64) ptV okI X.mg (mtM X.ms),(Lst MtI X.ms),Mp plK ptV okP X.bg (bkM X.bs),(Lst BkI X.bs),Old w (fps [(XI X A)])]) (fun (ii,s,Ds)=>A.n - ii) (0,0,[]) ⟨rfl,rfl,rfl,rfl,rfl,trivial⟩ rfl ⟨(Nat.zero_le _),rfl,(H8.tk [0,1,2,3,4,5,6,7,8,9,10])⟩ ?_
 rintro ⟨ii,s,Ds⟩ wq9 ⟨hq,hs,H10⟩
 refine g_wk [(1,_),(2,_),(3,_),(12,_),(13,_)] ?_
 refine R.g_seq ?_
 refine R.g_region ?_
 refine R.w_v (fun h=>hL h) (x_bin rfl rfl rfl b_lss) ?_
 refine R.g_nil ?_
 refine w_0 ?_
 refine R.g_seq ?_
 by_cases hb11:((ii:Int):Int)<(A.n:Int)
 ·
  refine R.g_cond_t rfl (decide_eq_true hb11) ?_
  refine R.g_skip ?_
  refine w_0 ?_
  refine R.g_seq ?_
  refine R.g_block ?_
  refine R.g_seq ?_
  refine R.g_region ?_
  refine R.w_v (fun h=>hL h) xm ?_
  refine R.w_v (fun h=>hL h) xa ?_
  refine R.g_nil ?_
  refine w_0 ?_
  iterate 2 refine R.g_seq ?_
  refine R.g_region ?_
  refine R.w_v (fun h=>hL h) (xl H10 1) ?_
  refine R.w_v (fun h=>hL h) xm ?_
  have H12:S _ [_,_,_,_,_]:=S.big (L:=[_,_,_,_,_,_,_]) (H10.tk [3,4,5,6,7,8,9,0,1,2,10])
  refine R.l_of rfl (fun h=>hL h) (s_call (wt0 rfl) (x_call' rfl rfl cl58) (open_x X A j hX hI (ii:Int) (by omega) _ (H12.tk [0])) ?_)
  rintro _ wq13 ⟨rfl,H14⟩
  replace H14:S _ [_,_,_,_,_]:=H12.abI (new:=[_]) [0] H14 rfl
  have H15:S _ [_,_,_,_,_,_,_,_,_,_,_]:=S.unbig (L:=[_,_,_,_,_,_,_]) (H14.tk [0,1,2,3,4])
  refine b_ret rfl rfl ?_
  refine R.w_v (fun h=>hL h) (v:=.bool (!((A.openB (ii:Int))))) (x_not (b:=(A.openB (ii:Int))) rfl rfl) ?_
  refine R.g_nil ?_
  refine w_0 ?_
  rcases Bool.eq_false_or_eq_true ((A.openB (ii:Int))) with hb16 | hb16
  ·
   refine R.g_cond_f rfl (neg_of hb16) ?_
   refine R.g_skip ?_
   refine w_0 ?_
   refine R.g_seq ?_
   refine R.g_region ?_
   refine R.w_v (fun h=>hL h) (xl H15 8) ?_
   refine R.w_v (fun h=>hL h) xm ?_
   refine R.l_of rfl (fun h=>hL h) (s_call (wt0 rfl) (x_call' rfl rfl cl59) (all_s X.g (ii:Int) _) ?_)
   rintro _ wq19 ⟨ba17,bi18,rfl,H20⟩
   replace H20:S _ [_,_,_,_,_,_,_,_,_,_,_,_,_]:=H15.ab (new:=[_,_]) H20 rfl
   refine b_ret rfl rfl ?_
   refine R.g_nil ?_
   refine w_0 ?_
   refine R.g_block ?_
   have H21:S _ [_,_,_,_,_,_,_,_,_,_,_]:=S.big (L:=[_,_,_]) (H20.tk [0,1,2,3,4,5,6,7,8,9,10,11,12])
   have H22:=S.noI (H21.tk [0,1,2,3,4,5,6,7,8,9,10])
   refine g_rangeJ (α:=Cho) (ι:=Nat) (encs:=encC) (base:=(Big [Ob ba17 (.cells #[.pointer (some ⟨X.g,0,none⟩)] 26 (0,0)),Ob bi18 (.cells #[.int .i64 ((ii:Int))] 3 (0,0)),Ob X.g (.cells #[.map (some X.mg),.int .i64 ((A.n:Int)),.int .i64 ((A.pz:Int)),.int .i64 ((A.la:Int)),.string (A.seed),.bool A.ino,.slice X.hp A.had.length X.hc,.slice X.wp A.wish.length X.wc,.map (some X.bg)] 85 (0,0))])) (by omega) rfl cl115 (all_it (X:=X) (i:=(ii:Int)) hI) (fun _=>rfl) rfl (fun pre Lx=>∃ (n3:Nat),(n3=s+((pre).filter fun c=>!decide (c∈A.here)).length∧n3≤s+(pre).length)∧Lx=[Rw 4 1 X.hp A.had.length X.hc (fl boolL A.had),Rw 40 2 X.wp A.wish.length X.wc (fl wisL A.wish),Mp (Value.int .i64) ptV okI X.mg (mtM X.ms),(Lst MtI X.ms),Mp plK ptV okP X.bg (bkM X.bs),(Lst BkI X.bs),Ob g4 (.cells #[.int .i64 ((n3:Int))] 3 (0,0)),Ob g1 (.cells #[.pointer (some ⟨X.g,0,none⟩)] 26 (0,0)),Marks Ds,Old w (fps [(XI X A)])]) (fun cc pre Lx=>False) (fun p ia=>[(1,.pointer (some ⟨g1,0,none⟩)),(3,.pointer (some ⟨g4,0,none⟩)),(5,.pointer (some ⟨ia,0,none⟩))]) (fun p ia=>[Ob ia (.cells #[.int .i64 (p.pc),.int .i64 (p.bg),.int .i64 (p.ln)] 44 (0,0))]) (fun _ _ _ _ _=>trivial) ⟨s,⟨rfl,Nat.le_refl _⟩,rfl⟩ H22 ?_ ?_ ?_ ?_
   ·
    rintro l1 p Ly W23 H24
    have hL:¬ LetsOut (fun (_:Exit) (_:Act) (_:World)=>False):=fun ⟨_,_,h⟩=>h
    refine g_wk [(1,_),(3,_),(23,_)] ?_
    refine R.g_region ?_
    refine R.l_of rfl (fun h=>hL h) (s_alloc H24 (wt0 rfl) rfl rfl rfl ze44 ?_)
    intro g25 wq26 H27
    refine R.l_of rfl (fun h=>hL h) (s_store H27 0 (wt0 rfl) rfl rfl rfl rfl rfl sz44 rfl rfl (cs':=#[.int .i64 (p.pc),.int .i64 (p.bg),.int .i64 (p.ln)]) rfl ?_)
    intro wq28 H29
    refine R.g_nil ?_
    refine w_0 ?_
    exact rw_assign g25 ⟨rfl,rfl,rfl,trivial⟩ H29
   ·
    rintro l1 pr x ia II Kx _ W30 ⟨n3,hJ,rfl⟩ hphi H31
    have H32:=S.unbig (L:=[_]) (H31.tk [3,0,1,2,4,5,6,7,8,9,10,11,12,13])
    refine g_wk [(1,_),(3,_),(5,_)] ?_
    obtain ⟨q9,hpr9,hxq9⟩:=hphi
    have hxm9:x∈A.blocks (ii:Int):=List.mem_of_getElem? hxq9
    have hpl9:pr.length≤8:=by rw [hpr9]; have h9:=(blocks_len hI (ii:Int)).2; rw [List.length_take]; omega
    have H33:S _ [_,_,_,_,_,_,_,_,_,_,_,_,_,_,_,_]:=S.unbig (H32.tk [1,0,2,3,4,5,6,7,8,9,10,11,12,13])
    refine R.g_block ?_
    refine R.g_seq ?_
    refine R.g_any [] (fun wx=>S wx [Ob ba17 (.cells #[.pointer (some ⟨X.g,0,none⟩)] 26 (0,0)),Ob bi18 (.cells #[.int .i64 ((ii:Int))] 3 (0,0)),Ob X.g (.cells #[.map (some X.mg),.int .i64 ((A.n:Int)),.int .i64 ((A.pz:Int)),.int .i64 ((A.la:Int)),.string (A.seed),.bool A.ino,.slice X.hp A.had.length X.hc,.slice X.wp A.wish.length X.wc,.map (some X.bg)] 85 (0,0)),Ob ia (.cells #[.int .i64 (x.pc),.int .i64 (x.bg),.int .i64 (x.ln)] 44 (0,0)),II,Kx,Rw 4 1 X.hp A.had.length X.hc (fl boolL A.had),Rw 40 2 X.wp A.wish.length X.wc (fl wisL A.wish),Mp (Value.int .i64) ptV okI X.mg (mtM X.ms),(Lst MtI X.ms),Mp plK ptV okP X.bg (bkM X.bs),(Lst BkI X.bs),Ob g4 (.cells #[.int .i64 ((n3:Int))] 3 (0,0)),Ob g1 (.cells #[.pointer (some ⟨X.g,0,none⟩)] 26 (0,0)),Marks Ds,Old w (fps [(XI X A)])]) [] (by kernel_rfl) (by kernel_rfl) (fun ⟨_,_,h⟩=>h) H33 (fun wq34 H35=>?_)
    refine a_take (v:=.pointer (some ⟨X.g,0,none⟩)) 0 rfl (wt0 rfl) rfl rfl rfl (by kernel_rfl) (by kernel_rfl) (by kernel_rfl) (by kernel_rfl) H35 (fun wx H=>x_load1 H 13 rfl rfl Tryz.underlying26 rfl rfl rfl) ?_
    refine a_take (v:=.pointer (some ⟨X.g,0,none⟩)) 1 rfl (wt0 rfl) rfl rfl rfl (by kernel_rfl) (by kernel_rfl) (by kernel_rfl) (by kernel_rfl) H35 (fun wx H=>x_nilCheck rfl rfl) ?_
    refine a_take (v:=.pointer (some ⟨X.g,8,none⟩)) 2 rfl (wt0 rfl) rfl rfl rfl (by kernel_rfl) (by kernel_rfl) (by kernel_rfl) (by kernel_rfl) H35 (fun wx H=>x_fieldAddr rfl rfl fo85_8 rfl) ?_
    refine a_take (v:=.map (some X.bg)) 3 rfl (wt0 rfl) rfl rfl rfl (by kernel_rfl) (by kernel_rfl) (by kernel_rfl) (by kernel_rfl) H35 (fun wx H=>x_load1 H 2 rfl rfl Tryz.underlying83 rfl rfl rfl) ?_
    refine a_take (v:=.agg #[.int .i64 (x.pc),.int .i64 (x.bg),.int .i64 (x.ln)]) 4 rfl (wt0 rfl) rfl rfl rfl (by kernel_rfl) (by kernel_rfl) (by kernel_rfl) (by kernel_rfl) H35 (fun wx H=>x_loadA H 3 rfl rfl Tryz.underlying44 rfl sz44 rfl rfl rfl) ?_
    refine a_one (i:=5) (by kernel_rfl) rfl ?_
    refine s_cl (at_x x _) ?_
    rintro _ wq36 ⟨rfl,H37⟩
    replace H37:=H35.ab0 H37
    refine b_ret rfl rfl ?_
    refine a_k H37 ?_
    refine a_take (v:=(optP ((bkM X.bs) x.at))) 6 rfl (wt0 rfl) rfl rfl rfl (by kernel_rfl) (by kernel_rfl) (by kernel_rfl) (by kernel_rfl) H37 (fun wx H=>ex_cast (x_lookup1 (x:=x.at) placeT H 10 rfl rfl rfl rfl ((okP_blk hI (i:=(ii:Int)) (by omega) hxm9)) ze98) (rfl)) ?_
    refine a_one (i:=7) (by kernel_rfl) rfl ?_
    refine s_v xa ?_
    refine a_k H37 ?_
    refine a_done (by kernel_rfl) ?_
    refine w_0 ?_
    refine R.g_seq ?_
    refine R.g_region ?_
    refine R.w_v (fun ⟨_,_,h⟩=>h) xm ?_
    refine R.w_v (fun ⟨_,_,h⟩=>h) (v:=.bool (!(((bkM X.bs) x.at).isSome))) (x_bin rfl rfl rfl (b_eqPO Tryz.underlying98)) ?_
    refine R.w_v (fun ⟨_,_,h⟩=>h) xm ?_
    rcases Bool.eq_false_or_eq_true (((bkM X.bs) x.at).isSome) with hb38 | hb38
    ·
     obtain ⟨ir,r,hrq,hrk,hrb,hrf⟩:=bkM_ex hb38
     rw [optP_s hrb]
     refine R.l_of rfl (fun ⟨_,_,h⟩=>h) (s_val (v:=.pointer (some ⟨r.b,0,none⟩)) (wt1 rfl rfl rfl rfl (neg_of hb38)) rfl rfl (x_move rfl rfl) ?_)
     refine R.l_of rfl (fun ⟨_,_,h⟩=>h) (s_val (v:=.pointer (some ⟨r.b,0,none⟩)) (wt1 rfl rfl rfl rfl (neg_of hb38)) rfl rfl (x_nilCheck rfl rfl) ?_)
     refine R.l_of rfl (fun ⟨_,_,h⟩=>h) (s_val (v:=.pointer (some ⟨r.b,0,none⟩)) (wt1 rfl rfl rfl rfl (neg_of hb38)) rfl rfl (x_fieldAddr rfl rfl fo103_0 rfl) ?_)
     refine R.l_of rfl (fun ⟨_,_,h⟩=>h) (s_val (v:=.bool r.here) (wt1 rfl rfl rfl rfl (neg_of hb38)) rfl rfl (x_loadC rfl rfl Tryz.underlying4 rfl (H37.bkCell (k:=11) rfl hrq (c:=0) rfl)) ?_)
     refine R.l_of rfl (fun ⟨_,_,h⟩=>h) (s_val (v:=.bool (!(r.here))) (wt1 rfl rfl rfl rfl (neg_of hb38)) rfl rfl (x_not (b:=r.here) rfl rfl) ?_)
     refine R.w_v (fun ⟨_,_,h⟩=>h) (v:=.bool (!(r.here))) (x_pick_f rfl rfl (neg_of hb38) rfl) ?_
     refine R.g_nil ?_
     refine w_0 ?_
     refine g_wk [(3,_),(39,_)] ?_
     rcases Bool.eq_false_or_eq_true (r.here) with hb39 | hb39
     ·
      refine R.g_cond_f rfl (neg_of hb39) ?_
      refine R.g_skip ?_
      refine w_0 ?_
      have H40:S _ [_,_,_,_,_,_,_,_,_,_,_,_,_,_]:=S.big (L:=[_,_,_]) (H37.tk [0,1,2,3,4,5,6,7,8,9,10,11,12,13,14,15])
      exact rj_next ⟨n3,⟨(by rw [filt_f (by rw [((hX.ent hxm9 hrf).1.symm.trans hb39)]; decide)]; exact hJ.1),(by simp only [List.length_append,List.length_cons,List.length_nil]; omega)⟩,rfl⟩ (H40.tk [0,2,3,4,5,6,7,8,9,10,11,12,13])
     ·
      refine R.g_cond_t rfl (neg_of hb39) ?_
      refine R.g_region ?_
      refine R.w_v (fun ⟨_,_,h⟩=>h) (xl H37 12) ?_
      refine R.w_v (fun ⟨_,_,h⟩=>h) (v:=.int .i64 (((n3+1:Nat):Int))) (x_bin rfl rfl rfl (b_add (by rw [w64 (by have h9:=sumN_le hI ii hq; omega)]; omega))) ?_
      refine R.l_of rfl (fun ⟨_,_,h⟩=>h) (s_store H37 12 (wt0 rfl) rfl rfl rfl rfl rfl sz3 rfl rfl (cs':=#[.int .i64 (((n3+1:Nat):Int))]) rfl ?_)
      intro wq41 H42
      refine R.g_nil ?_
      refine w_0 ?_
      have H43:S _ [_,_,_,_,_,_,_,_,_,_,_,_,_,_]:=S.big (L:=[_,_,_]) (H42.tk [0,1,2,3,4,5,6,7,8,9,10,11,12,13,14,15])
      exact rj_next ⟨(n3+1),⟨(by rw [filt_t (by rw [((hX.ent hxm9 hrf).1.symm.trans hb39)]; decide),List.length_append]; simp only [List.length_cons,List.length_nil]; omega),(by simp only [List.length_append,List.length_cons,List.length_nil]; omega)⟩,rfl⟩ (H43.tk [0,2,3,4,5,6,7,8,9,10,11,12,13])
    ·
     refine R.l_of rfl (fun ⟨_,_,h⟩=>h) (s_not (wn1 rfl rfl rfl rfl (neg_of hb38)) rfl rfl ?_)
     refine R.l_of rfl (fun ⟨_,_,h⟩=>h) (s_not (wn1 rfl rfl rfl rfl (neg_of hb38)) rfl rfl ?_)
     refine R.l_of rfl (fun ⟨_,_,h⟩=>h) (s_not (wn1 rfl rfl rfl rfl (neg_of hb38)) rfl rfl ?_)
     refine R.l_of rfl (fun ⟨_,_,h⟩=>h) (s_not (wn1 rfl rfl rfl rfl (neg_of hb38)) rfl rfl ?_)
     refine R.l_of rfl (fun ⟨_,_,h⟩=>h) (s_not (wn1 rfl rfl rfl rfl (neg_of hb38)) rfl rfl ?_)
     refine R.w_v (fun ⟨_,_,h⟩=>h) (v:=.bool true) (x_pick_t rfl rfl (neg_of hb38) rfl) ?_
     refine R.g_nil ?_
     refine w_0 ?_
     refine g_wk [(3,_),(39,_)] ?_
     refine R.g_cond_t rfl rfl ?_
     refine R.g_region ?_
     refine R.w_v (fun ⟨_,_,h⟩=>h) (xl H37 12) ?_
     refine R.w_v (fun ⟨_,_,h⟩=>h) (v:=.int .i64 (((n3+1:Nat):Int))) (x_bin rfl rfl rfl (b_add (by rw [w64 (by have h9:=sumN_le hI ii hq; omega)]; omega))) ?_
     refine R.l_of rfl (fun ⟨_,_,h⟩=>h) (s_store H37 12 (wt0 rfl) rfl rfl rfl rfl rfl sz3 rfl rfl (cs':=#[.int .i64 (((n3+1:Nat):Int))]) rfl ?_)
     intro wq44 H45
     refine R.g_nil ?_
     refine w_0 ?_
     have H46:S _ [_,_,_,_,_,_,_,_,_,_,_,_,_,_]:=S.big (L:=[_,_,_]) (H45.tk [0,1,2,3,4,5,6,7,8,9,10,11,12,13,14,15])
     exact rj_next ⟨(n3+1),⟨(by rw [filt_t (by rw [(decide_eq_false (not_here (hX.no hxm9 hb38)))]; decide),List.length_append]; simp only [List.length_cons,List.length_nil]; omega),(by simp only [List.length_append,List.length_cons,List.length_nil]; omega)⟩,rfl⟩ (H46.tk [0,2,3,4,5,6,7,8,9,10,11,12,13])
   ·
    rintro D xs _ W47 hxs ⟨n3,hJ,rfl⟩ H48
    have H49:S _ [_,_,_,_,_,_,_,_,_,_,_,_,_,_]:=S.unbig (H48.tk [1,0,2,3,4,5,6,7,8,9,10,11])
    have H50:S _ [_,_,_,_,_,_,_,_,_,_,_,_,_]:=S.consMark (H49.tk [3,0,1,2,4,5,6,7,8,9,10,11,12,13]) (k:=11) rfl
    refine w_k3 ?_
    refine R.g_region ?_
    refine R.w_v (fun h=>hL h) (v:=.int .i64 (((ii+1:Nat):Int))) (x_bin rfl rfl rfl (b_add (by rw [w64 (by omega)]; omega))) ?_
    refine R.w_v (fun h=>hL h) xm ?_
    refine R.g_nil ?_
    refine w_0 ?_
    refine g_roundD (i:=(ii,s,Ds)) ((ii+1),n3,(D :: Ds)) ?_ rfl ?_ ?_
    · exact ⟨rfl,rfl,rfl,rfl,rfl,trivial⟩
    · exact ⟨(by omega),(by rw [sumN_snoc (by omega),left_go hb16,← hs]; rw [hxs] at hJ; exact hJ.1),(H50.tk [9,10,11,2,3,4,5,6,7,8,12])⟩
    · (try dsimp only); omega
   · rintro D cc pr _ W _ h; exact h.elim
  ·
   refine R.g_cond_t rfl (neg_of hb16) ?_
   refine R.g_exit ?_
   refine w_k3 ?_
   refine R.g_region ?_
   refine R.w_v (fun h=>hL h) (v:=.int .i64 (((ii+1:Nat):Int))) (x_bin rfl rfl rfl (b_add (by rw [w64 (by omega)]; omega))) ?_
   refine R.w_v (fun h=>hL h) xm ?_
   refine R.g_nil ?_
   refine w_0 ?_
   refine g_roundD (i:=(ii,s,Ds)) ((ii+1),s,Ds) ?_ rfl ?_ ?_
   · exact ⟨rfl,rfl,rfl,rfl,rfl,trivial⟩
   · exact ⟨(by omega),(by rw [sumN_snoc (by omega),left_skip hb16]; exact hs),(H15.tk [7,8,9,0,1,2,3,4,5,6,10])⟩
   · (try dsimp only); omega
 ·
  refine R.g_cond_f rfl (decide_eq_false hb11) ?_
  refine R.g_exit ?_
  refine w_k4 ?_
  refine R.g_seq ?_
  refine R.g_region ?_
  refine R.w_v (fun h=>hL h) (xl H10 0) ?_
  refine R.w_v (fun h=>hL h) xa ?_
  refine R.g_nil ?_
  refine w_0 ?_
  refine R.g_ret ?_
  refine fin_marks (H10.tk [2,0,1,3,4,5,6,7,8,9,10]) [.tmp 2] [.int .i64 ((s:Int))] rfl (fun W' hW=>⟨⟨rfl,trivial⟩,?_⟩)
  replace hW:S W' [Ob g4 (.cells #[.int .i64 ((s:Int))] 3 (0,0)),Ob g1 (.cells #[.pointer (some ⟨X.g,0,none⟩)] 26 (0,0)),Ob X.g (.cells #[.map (some X.mg),.int .i64 ((A.n:Int)),.int .i64 ((A.pz:Int)),.int .i64 ((A.la:Int)),.string (A.seed),.bool A.ino,.slice X.hp A.had.length X.hc,.slice X.wp A.wish.length X.wc,.map (some X.bg)] 85 (0,0)),Rw 4 1 X.hp A.had.length X.hc (fl boolL A.had),Rw 40 2 X.wp A.wish.length X.wc (fl wisL A.wish),Mp (Value.int .i64) ptV okI X.mg (mtM X.ms),(Lst MtI X.ms),Mp plK ptV okP X.bg (bkM X.bs),(Lst BkI X.bs),Old w (fps [(XI X A)])]:=hW
  have hqe:ii=A.n:=by omega
  rw [hqe,sumN_all] at hs
  rw [← hs]
  exact ⟨rfl,((S.big (L:=[_,_,_,_,_,_,_]) (hW.tk [2,3,4,5,6,7,8,9])).tk [0,1])⟩
end Go.Proofs.YthmmfhdpkddniaaGreatDoor
