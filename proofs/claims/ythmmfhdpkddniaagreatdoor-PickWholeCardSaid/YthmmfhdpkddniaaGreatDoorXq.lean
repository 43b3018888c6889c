import Derived.Test.YthmmfhdpkddniaaGreatDoorFm
import Derived.Test.YthmmfhdpkddniaaGreatDoorXp
set_option maxRecDepth 20000
set_option maxHeartbeats 4000000
set_option linter.unusedSimpArgs false
set_option linter.unusedVariables false
namespace Go.Proofs.YthmmfhdpkddniaaGreatDoor
open Go.RowKit
theorem cl168:callable Tryz.prog 168=true:=by kernel_rfl
theorem cl170:callable Tryz.prog 170=true:=by kernel_rfl
theorem sz179:szO Tryz.prog 179=some 8:=by kernel_rfl
theorem ze179:zeO Tryz.prog 179=some (.agg #[.int .i64 0,.int .i64 0,.int .i64 0,.int .i64 0,.int .i64 0,.int .i64 0,.int .i64 0,.int .i64 0]):=by kernel_rfl
theorem yes_s (b:Bool)  (w:World):Calls Tryz.prog 168 #[.bool b] w fun e w'=>e=.returned (.int .i64 (b10 b))∧S w' [Old w no]:=by
 have H0:=S.old w
 refine enter 4 Tryz.func168 rfl rfl rfl ?_
 refine g_wk [(0,_)] ?_
 refine w_s ?_
 refine w_k6 ?_
 rcases Bool.eq_false_or_eq_true (b) with hb1 | hb1
 ·
  refine g_cond_t rfl hb1 ?_
  refine w_k5 ?_
  refine fin_r [.tmp 2] [.int .i64 0] ?_
  exact ⟨by rw [hb1]; rfl,H0.mask [true]⟩
 ·
  refine g_cond_f rfl hb1 ?_
  refine w_k6 ?_
  refine fin_r [.tmp 2] [.int .i64 1] ?_
  exact ⟨by rw [hb1]; rfl,H0.mask [true]⟩
theorem ranked_x (X:XP) (A:PK) (j:Nat) (hX:XOK X A) (hI:PKI j A) (q:Nat) (m:Mt) (hm:X.ms[q]?=some m) (i:Int) (hi:0≤i∧i<(A.n:Int))  (w:World) (HS:S w [(XI X A)]):Calls Tryz.prog 154 #[.pointer (some ⟨X.g,0,none⟩),.pointer (some ⟨m.b,0,none⟩),.int .i64 i] w fun e w'=>e=.returned (.agg #[.int .i64 (b10 (decide (0<A.du i))),.int .i64 (A.du i),.int .i64 (b10 (A.partB i)),.int .i64 (b10 (bitAt m.sug i)),.int .i64 (0 - A.lv i),.int .i64 (if A.ino=true then 0 else (A.countV i:Int)),.int .i64 (if A.ino=true then 0 else drV A.seed i),.int .i64 i])∧S w' ([(XI X A)]++[Old w (fps [(XI X A)])]):=by
 have H0:=HS.beginI
 have hn24:=hI.n24
 have hn1:=hI.n1
 have hpz1:=hI.pz1
 have hpz2:=hI.pz2
 have hla1:=hI.la1
 have hla2:=hI.la2
 have hadl:=hI.hadl
 have hwl:=hI.wishl
 replace H0:S _ [_,_,_,_,_,_,_,_]:=S.unbig (L:=[_,_,_,_,_,_,_]) H0
 have hsd9:=hI.sd
 refine enter 62 Tryz.func154 rfl rfl rfl ?_
 refine g_wk [(0,_),(1,_),(2,_)] ?_
 refine w_s ?_
 refine l_of (s_alloc H0 (wt0 rfl) rfl rfl rfl ze179 ?_)
 intro g1 wq2 H3
 refine w_k10 ?_
 refine w_v (x_i ((i).toNat) (H3.rr 3)) ?_
 obtain ⟨x4,hx4⟩:=(H3.rr 3).exL wisE ((i).toNat)
 have hlv9:A.lv i=x4.lv:=lv_at hx4
 have hdu9:A.du i=x4.du:=du_at hx4
 have hwr9:=hI.wishr x4 (List.mem_of_getElem? hx4)
 refine w_v (x_loadRA (vs:=wisL x4) ((i).toNat) (H3.rr 3) (by omega) rfl rfl Tryz.underlying40 rfl sz40 (by rfl) (wisE.flAt hx4)) ?_
 refine l_of (s_alloc H3 (wt0 rfl) rfl rfl rfl ze40 ?_)
 intro g5 wq6 H7
 refine l_of (w_st #[.int .i64 (x4.lv),.int .i64 (x4.du)] H7 0 ?_)
 intro wq8 H9
 refine w_e ?_
 refine g_seq ?_
 refine g_any [] (fun wx=>S wx [Ob g5 (.cells #[.int .i64 (x4.lv),.int .i64 (x4.du)] 40 (0,0)),Ob g1 (.cells #[.int .i64 0,.int .i64 0,.int .i64 0,.int .i64 0,.int .i64 0,.int .i64 0,.int .i64 0,.int .i64 0] 179 (0,0)),Ob X.g (.cells #[.map (some X.mg),.int .i64 ((A.n:Int)),.int .i64 ((A.pz:Int)),.int .i64 ((A.la:Int)),.string (A.seed),.bool A.ino,.slice X.hp A.had.length X.hc,.slice X.wp A.wish.length X.wc,.map (some X.bg)] 85 (0,0)),Rw 4 1 X.hp A.had.length X.hc (fl boolL A.had),Rw 40 2 X.wp A.wish.length X.wc (fl wisL A.wish),Mp (Value.int .i64) ptV okI X.mg (mtM X.ms),(Lst MtI X.ms),Mp plK ptV okP X.bg (bkM X.bs),(Lst BkI X.bs),Old w (fps [(XI X A)])]) [] (by kernel_rfl) H9 (fun wq10 H11=>?_)
 refine w_t 0 rfl H11 (fun _ _=>xm) ?_
 refine w_t 1 rfl H11 (fun _ _=>xf 1) ?_
 refine w_t 2 rfl H11 (fun _ H=>xl H 0) ?_
 refine w_t 3 rfl H11 (fun _ _=>x_bin rfl rfl rfl b_gtr) ?_
 refine w_t 5 rfl H11 (fun _ _=>xf 1) ?_
 refine w_t 6 rfl H11 (fun _ H=>xl H 0) ?_
 refine w_t 7 rfl H11 (fun _ _=>xm) ?_
 refine w_t 8 rfl H11 (fun _ _=>xm) ?_
 refine w_t 9 rfl H11 (fun _ _=>xm) ?_
 refine w_t 12 rfl H11 (fun _ _=>xm) ?_
 refine w_t 13 rfl H11 (fun _ _=>xm) ?_
 refine w_t 14 rfl H11 (fun _ _=>xn) ?_
 refine w_t 15 rfl H11 (fun _ _=>xf 2) ?_
 refine w_t (v:=.map (some m.sm)) 16 rfl H11 (fun _ H=>x_loadC rfl rfl Tryz.underlying86 rfl (H.mtCell (k:=6) rfl hm (c:=2) rfl)) ?_
 refine w_t 17 rfl H11 (fun _ _=>xm) ?_
 refine w_t (v:=.bool ((bitAt m.sug i))) 18 rfl H11 (fun _ H=>ex_cast (x_lookup1 (x:=i) (intTy Tryz.underlying86 Tryz.underlying3) (H.mtSug (k:=6) rfl hm) 0 rfl rfl rfl rfl (⟨by omega,by omega⟩) ze4) (by rw [look_B,bMap_get (by omega)])) ?_
 refine w_t 20 rfl H11 (fun _ _=>xf 0) ?_
 refine w_t 21 rfl H11 (fun _ H=>xl H 0) ?_
 refine w_t (v:=.int .i64 (0 - x4.lv)) 22 rfl H11 (fun _ _=>x_neg rfl rfl (w64 (by omega))) ?_
 refine w_t 23 rfl H11 (fun _ _=>xm) ?_
 refine a_two (i:=4) (j:=25) (by kernel_rfl) rfl rfl ?_ ?_
 ·
  refine s_call0 H11 (wt0 rfl) (x_call rfl rfl rfl cl168) (yes_s (decide ((0:Int)<x4.du)) _) rfl rfl ?_
  intro wq12 H13
  refine a_k H13 ?_
  refine a_two (i:=10) (j:=25) (by kernel_rfl) rfl rfl ?_ ?_
  ·
   have H14:S _ [_,_,_,_]:=S.big (L:=[_,_,_,_,_,_,_]) (H13.tk [2,3,4,5,6,7,8,0,1,9])
   refine s_cl (partial_x X A j hX hI i hi _ (H14.tk [0])) ?_
   rintro _ wq15 ⟨rfl,H16⟩
   replace H16:S _ [_,_,_,_]:=H14.abI (new:=[_]) [0] H16 rfl
   have H17:S _ [_,_,_,_,_,_,_,_,_,_]:=S.unbig (L:=[_,_,_,_,_,_,_]) (H16.tk [0,1,2,3])
   refine b_ret rfl rfl ?_
   refine a_k (H17.tk [7,8,0,1,2,3,4,5,6,9]) ?_
   refine a_two (i:=11) (j:=25) (by kernel_rfl) rfl rfl ?_ ?_
   ·
    refine s_call0 H17 (wt0 rfl) (x_call rfl rfl rfl cl168) (yes_s (A.partB i) _) rfl rfl ?_
    intro wq18 H19
    refine a_k (H19.tk [7,8,0,1,2,3,4,5,6,9]) ?_
    refine a_two (i:=19) (j:=25) (by kernel_rfl) rfl rfl ?_ ?_
    ·
     refine s_call0 H19 (wt0 rfl) (x_call rfl rfl rfl cl168) (yes_s (bitAt m.sug i) _) rfl rfl ?_
     intro wq20 H21
     refine a_k (H21.tk [7,8,0,1,2,3,4,5,6,9]) ?_
     refine w_t (v:=.agg #[.int .i64 ((b10 (decide ((0:Int)<x4.du)))),.int .i64 (x4.du),.int .i64 ((b10 (A.partB i))),.int .i64 ((b10 (bitAt m.sug i))),.int .i64 (0 - x4.lv),.int .i64 0,.int .i64 0,.int .i64 i]) 24 rfl (H21.tk [7,8,0,1,2,3,4,5,6,9]) (fun _ _=>x_build (vs:=[.int .i64 ((b10 (decide ((0:Int)<x4.du)))),.int .i64 (x4.du),.int .i64 ((b10 (A.partB i))),.int .i64 ((b10 (bitAt m.sug i))),.int .i64 (0 - x4.lv),.int .i64 0,.int .i64 0,.int .i64 i]) rfl rfl (cells:=#[.int .i64 ((b10 (decide ((0:Int)<x4.du)))),.int .i64 (x4.du),.int .i64 ((b10 (A.partB i))),.int .i64 ((b10 (bitAt m.sug i))),.int .i64 (0 - x4.lv),.int .i64 0,.int .i64 0,.int .i64 i]) (by kernel_rfl)) ?_
     refine a_one (i:=25) (by kernel_rfl) rfl ?_
     refine s_alloc H21 (wt0 rfl) rfl rfl rfl ze179 ?_
     intro g22 wq23 H24
     refine a_k (H24.tk [8,9,1,2,3,4,5,6,7,10]) ?_
     refine a_one (i:=26) (by kernel_rfl) rfl ?_
     refine w_st #[.int .i64 ((b10 (decide ((0:Int)<x4.du)))),.int .i64 (x4.du),.int .i64 ((b10 (A.partB i))),.int .i64 ((b10 (bitAt m.sug i))),.int .i64 (0 - x4.lv),.int .i64 0,.int .i64 0,.int .i64 i] H24 0 ?_
     intro wq25 H26
     refine a_k (H26.tk [8,9,1,2,3,4,5,6,7,10]) ?_
     refine a_done (by kernel_rfl) ?_
     refine w_0 ?_
     refine g_wk [(0,_),(2,_),(6,_),(9,_)] ?_
     refine g_seq ?_
     refine w_k5 ?_
     refine w_v (x_not (b:=A.ino) rfl rfl) ?_
     refine w_e ?_
     rcases Bool.eq_false_or_eq_true (A.ino) with hb27 | hb27
     ·
      refine g_cond_f rfl (neg_of hb27) ?_
      refine w_k3 ?_
      refine w_v (v:=.agg #[.int .i64 ((b10 (decide ((0:Int)<x4.du)))),.int .i64 (x4.du),.int .i64 ((b10 (A.partB i))),.int .i64 ((b10 (bitAt m.sug i))),.int .i64 (0 - x4.lv),.int .i64 0,.int .i64 0,.int .i64 i]) (x_loadA H26 0 rfl rfl Tryz.underlying179 rfl sz179 rfl rfl rfl) ?_
      refine l_of (w_st #[.int .i64 ((b10 (decide ((0:Int)<x4.du)))),.int .i64 (x4.du),.int .i64 ((b10 (A.partB i))),.int .i64 ((b10 (bitAt m.sug i))),.int .i64 (0 - x4.lv),.int .i64 0,.int .i64 0,.int .i64 i] H26 9 ?_)
      intro wq28 H29
      refine w_k2 ?_
      refine fin_ret [.cell 6 179] [.agg #[.int .i64 ((b10 (decide ((0:Int)<x4.du)))),.int .i64 (x4.du),.int .i64 ((b10 (A.partB i))),.int .i64 ((b10 (bitAt m.sug i))),.int .i64 (0 - x4.lv),.int .i64 0,.int .i64 0,.int .i64 i]] rfl ⟨⟨_,rfl,run_loadA (H29.ob (k:=9) rfl) Tryz.underlying179 rfl sz179 rfl rfl⟩,trivial⟩ ?_
      have e5:(if A.ino=true then 0 else (A.countV i:Int))=0:=if_pos hb27
      have e6:(if A.ino=true then 0 else drV A.seed i)=0:=if_pos hb27
      rw [hlv9,hdu9,e5,e6]
      exact ⟨rfl,((S.big (L:=[_,_,_,_,_,_,_]) (H29.tk [1,2,3,4,5,6,7,10])).tk [0,1])⟩
     ·
      refine g_cond_t rfl (neg_of hb27) ?_
      refine w_k3 ?_
      have H30:S _ [_,_,_,_,_]:=S.big (L:=[_,_,_,_,_,_,_]) (H26.tk [1,2,3,4,5,6,7,0,8,9,10])
      refine l_of (s_cl (count_x X A j hX hI i hi _ (H30.tk [0])) ?_)
      rintro _ wq31 ⟨rfl,H32⟩
      replace H32:S _ [_,_,_,_,_]:=H30.abI (new:=[_]) [0] H32 rfl
      have H33:S _ [_,_,_,_,_,_,_,_,_,_,_]:=S.unbig (L:=[_,_,_,_,_,_,_]) (H32.tk [0,1,2,3,4])
      refine b_ret rfl rfl ?_
      refine w_v (v:=.pointer (some ⟨g22,5,none⟩)) (x_indexAddrA 5 rfl rfl rfl Tryz.underlying179 sz3 (by omega) (off':=5) rfl) ?_
      refine l_of (w_st #[.int .i64 ((b10 (decide ((0:Int)<x4.du)))),.int .i64 (x4.du),.int .i64 ((b10 (A.partB i))),.int .i64 ((b10 (bitAt m.sug i))),.int .i64 (0 - x4.lv),.int .i64 ((A.countV i:Int)),.int .i64 0,.int .i64 i] H33 7 ?_)
      intro wq34 H35
      refine w_k7 ?_
      refine l_of (s_call0 H35 (wt0 rfl) (x_call' rfl rfl cl170) (draw_h A.seed i (by omega) (by omega) (by omega) _) rfl rfl ?_)
      intro wq36 H37
      refine w_r3 ?_
      refine w_v (v:=.pointer (some ⟨g22,6,none⟩)) (x_indexAddrA 6 rfl rfl rfl Tryz.underlying179 sz3 (by omega) (off':=6) rfl) ?_
      refine l_of (w_st #[.int .i64 ((b10 (decide ((0:Int)<x4.du)))),.int .i64 (x4.du),.int .i64 ((b10 (A.partB i))),.int .i64 ((b10 (bitAt m.sug i))),.int .i64 (0 - x4.lv),.int .i64 ((A.countV i:Int)),.int .i64 ((drV A.seed i)),.int .i64 i] H37 7 ?_)
      intro wq38 H39
      refine w_e ?_
      refine g_wk [(6,_),(9,_)] ?_
      refine w_s ?_
      refine w_v (v:=.agg #[.int .i64 ((b10 (decide ((0:Int)<x4.du)))),.int .i64 (x4.du),.int .i64 ((b10 (A.partB i))),.int .i64 ((b10 (bitAt m.sug i))),.int .i64 (0 - x4.lv),.int .i64 ((A.countV i:Int)),.int .i64 ((drV A.seed i)),.int .i64 i]) (x_loadA H39 7 rfl rfl Tryz.underlying179 rfl sz179 rfl rfl rfl) ?_
      refine l_of (w_st #[.int .i64 ((b10 (decide ((0:Int)<x4.du)))),.int .i64 (x4.du),.int .i64 ((b10 (A.partB i))),.int .i64 ((b10 (bitAt m.sug i))),.int .i64 (0 - x4.lv),.int .i64 ((A.countV i:Int)),.int .i64 ((drV A.seed i)),.int .i64 i] H39 9 ?_)
      intro wq40 H41
      refine w_k2 ?_
      refine fin_ret [.cell 6 179] [.agg #[.int .i64 ((b10 (decide ((0:Int)<x4.du)))),.int .i64 (x4.du),.int .i64 ((b10 (A.partB i))),.int .i64 ((b10 (bitAt m.sug i))),.int .i64 (0 - x4.lv),.int .i64 ((A.countV i:Int)),.int .i64 ((drV A.seed i)),.int .i64 i]] rfl ⟨⟨_,rfl,run_loadA (H41.ob (k:=9) rfl) Tryz.underlying179 rfl sz179 rfl rfl⟩,trivial⟩ ?_
      have e5:(if A.ino=true then 0 else (A.countV i:Int))=(A.countV i:Int):=if_neg (by rw [hb27]; decide)
      have e6:(if A.ino=true then 0 else drV A.seed i)=(drV A.seed i):=if_neg (by rw [hb27]; decide)
      rw [hlv9,hdu9,e5,e6]
      exact ⟨rfl,((S.big (L:=[_,_,_,_,_,_,_]) (H41.tk [0,1,2,3,4,5,6,10])).tk [0,1])⟩
    ·
     refine s_alloc H19 (wt0 rfl) rfl rfl rfl ze179 ?_
     intro g42 wq43 H44
     refine a_k (H44.tk [8,9,1,2,3,4,5,6,7,10]) ?_
     refine a_one (i:=19) (by kernel_rfl) rfl ?_
     refine s_call0 H44 (wt0 rfl) (x_call rfl rfl rfl cl168) (yes_s (bitAt m.sug i) _) rfl rfl ?_
     intro wq45 H46
     refine a_k (H46.tk [8,9,1,2,3,4,5,6,7,10]) ?_
     refine w_t (v:=.agg #[.int .i64 ((b10 (decide ((0:Int)<x4.du)))),.int .i64 (x4.du),.int .i64 ((b10 (A.partB i))),.int .i64 ((b10 (bitAt m.sug i))),.int .i64 (0 - x4.lv),.int .i64 0,.int .i64 0,.int .i64 i]) 24 rfl (H46.tk [8,9,1,2,3,4,5,6,7,10]) (fun _ _=>x_build (vs:=[.int .i64 ((b10 (decide ((0:Int)<x4.du)))),.int .i64 (x4.du),.int .i64 ((b10 (A.partB i))),.int .i64 ((b10 (bitAt m.sug i))),.int .i64 (0 - x4.lv),.int .i64 0,.int .i64 0,.int .i64 i]) rfl rfl (cells:=#[.int .i64 ((b10 (decide ((0:Int)<x4.du)))),.int .i64 (x4.du),.int .i64 ((b10 (A.partB i))),.int .i64 ((b10 (bitAt m.sug i))),.int .i64 (0 - x4.lv),.int .i64 0,.int .i64 0,.int .i64 i]) (by kernel_rfl)) ?_
     refine a_one (i:=26) (by kernel_rfl) rfl ?_
     refine w_st #[.int .i64 ((b10 (decide ((0:Int)<x4.du)))),.int .i64 (x4.du),.int .i64 ((b10 (A.partB i))),.int .i64 ((b10 (bitAt m.sug i))),.int .i64 (0 - x4.lv),.int .i64 0,.int .i64 0,.int .i64 i] H46 0 ?_
     intro wq47 H48
     refine a_k (H48.tk [8,9,1,2,3,4,5,6,7,10]) ?_
     refine a_done (by kernel_rfl) ?_
     refine w_0 ?_
     refine g_wk [(0,_),(2,_),(6,_),(9,_)] ?_
     refine g_seq ?_
     refine w_k5 ?_
     refine w_v (x_not (b:=A.ino) rfl rfl) ?_
     refine w_e ?_
     rcases Bool.eq_false_or_eq_true (A.ino) with hb49 | hb49
     ·
      refine g_cond_f rfl (neg_of hb49) ?_
      refine w_k3 ?_
      refine w_v (v:=.agg #[.int .i64 ((b10 (decide ((0:Int)<x4.du)))),.int .i64 (x4.du),.int .i64 ((b10 (A.partB i))),.int .i64 ((b10 (bitAt m.sug i))),.int .i64 (0 - x4.lv),.int .i64 0,.int .i64 0,.int .i64 i]) (x_loadA H48 0 rfl rfl Tryz.underlying179 rfl sz179 rfl rfl rfl) ?_
      refine l_of (w_st #[.int .i64 ((b10 (decide ((0:Int)<x4.du)))),.int .i64 (x4.du),.int .i64 ((b10 (A.partB i))),.int .i64 ((b10 (bitAt m.sug i))),.int .i64 (0 - x4.lv),.int .i64 0,.int .i64 0,.int .i64 i] H48 9 ?_)
      intro wq50 H51
      refine w_k2 ?_
      refine fin_ret [.cell 6 179] [.agg #[.int .i64 ((b10 (decide ((0:Int)<x4.du)))),.int .i64 (x4.du),.int .i64 ((b10 (A.partB i))),.int .i64 ((b10 (bitAt m.sug i))),.int .i64 (0 - x4.lv),.int .i64 0,.int .i64 0,.int .i64 i]] rfl ⟨⟨_,rfl,run_loadA (H51.ob (k:=9) rfl) Tryz.underlying179 rfl sz179 rfl rfl⟩,trivial⟩ ?_
      have e5:(if A.ino=true then 0 else (A.countV i:Int))=0:=if_pos hb49
      have e6:(if A.ino=true then 0 else drV A.seed i)=0:=if_pos hb49
      rw [hlv9,hdu9,e5,e6]
      exact ⟨rfl,((S.big (L:=[_,_,_,_,_,_,_]) (H51.tk [1,2,3,4,5,6,7,10])).tk [0,1])⟩
     ·
      refine g_cond_t rfl (neg_of hb49) ?_
      refine w_k3 ?_
      have H52:S _ [_,_,_,_,_]:=S.big (L:=[_,_,_,_,_,_,_]) (H48.tk [1,2,3,4,5,6,7,0,8,9,10])
      refine l_of (s_cl (count_x X A j hX hI i hi _ (H52.tk [0])) ?_)
      rintro _ wq53 ⟨rfl,H54⟩
      replace H54:S _ [_,_,_,_,_]:=H52.abI (new:=[_]) [0] H54 rfl
      have H55:S _ [_,_,_,_,_,_,_,_,_,_,_]:=S.unbig (L:=[_,_,_,_,_,_,_]) (H54.tk [0,1,2,3,4])
      refine b_ret rfl rfl ?_
      refine w_v (v:=.pointer (some ⟨g42,5,none⟩)) (x_indexAddrA 5 rfl rfl rfl Tryz.underlying179 sz3 (by omega) (off':=5) rfl) ?_
      refine l_of (w_st #[.int .i64 ((b10 (decide ((0:Int)<x4.du)))),.int .i64 (x4.du),.int .i64 ((b10 (A.partB i))),.int .i64 ((b10 (bitAt m.sug i))),.int .i64 (0 - x4.lv),.int .i64 ((A.countV i:Int)),.int .i64 0,.int .i64 i] H55 7 ?_)
      intro wq56 H57
      refine w_k7 ?_
      refine l_of (s_call0 H57 (wt0 rfl) (x_call' rfl rfl cl170) (draw_h A.seed i (by omega) (by omega) (by omega) _) rfl rfl ?_)
      intro wq58 H59
      refine w_r3 ?_
      refine w_v (v:=.pointer (some ⟨g42,6,none⟩)) (x_indexAddrA 6 rfl rfl rfl Tryz.underlying179 sz3 (by omega) (off':=6) rfl) ?_
      refine l_of (w_st #[.int .i64 ((b10 (decide ((0:Int)<x4.du)))),.int .i64 (x4.du),.int .i64 ((b10 (A.partB i))),.int .i64 ((b10 (bitAt m.sug i))),.int .i64 (0 - x4.lv),.int .i64 ((A.countV i:Int)),.int .i64 ((drV A.seed i)),.int .i64 i] H59 7 ?_)
      intro wq60 H61
      refine w_e ?_
      refine g_wk [(6,_),(9,_)] ?_
      refine w_s ?_
      refine w_v (v:=.agg #[.int .i64 ((b10 (decide ((0:Int)<x4.du)))),.int .i64 (x4.du),.int .i64 ((b10 (A.partB i))),.int .i64 ((b10 (bitAt m.sug i))),.int .i64 (0 - x4.lv),.int .i64 ((A.countV i:Int)),.int .i64 ((drV A.seed i)),.int .i64 i]) (x_loadA H61 7 rfl rfl Tryz.underlying179 rfl sz179 rfl rfl rfl) ?_
      refine l_of (w_st #[.int .i64 ((b10 (decide ((0:Int)<x4.du)))),.int .i64 (x4.du),.int .i64 ((b10 (A.partB i))),.int .i64 ((b10 (bitAt m.sug i))),.int .i64 (0 - x4.lv),.int .i64 ((A.countV i:Int)),.int .i64 ((drV A.seed i)),.int .i64 i] H61 9 ?_)
      intro wq62 H63
      refine w_k2 ?_
      refine fin_ret [.cell 6 179] [.agg #[.int .i64 ((b10 (decide ((0:Int)<x4.du)))),.int .i64 (x4.du),.int .i64 ((b10 (A.partB i))),.int .i64 ((b10 (bitAt m.sug i))),.int .i64 (0 - x4.lv),.int .i64 ((A.countV i:Int)),.int .i64 ((drV A.seed i)),.int .i64 i]] rfl ⟨⟨_,rfl,run_loadA (H63.ob (k:=9) rfl) Tryz.underlying179 rfl sz179 rfl rfl⟩,trivial⟩ ?_
      have e5:(if A.ino=true then 0 else (A.countV i:Int))=(A.countV i:Int):=if_neg (by rw [hb49]; decide)
      have e6:(if A.ino=true then 0 else drV A.seed i)=(drV A.seed i):=if_neg (by rw [hb49]; decide)
      rw [hlv9,hdu9,e5,e6]
      exact ⟨rfl,((S.big (L:=[_,_,_,_,_,_,_]) (H63.tk [0,1,2,3,4,5,6,10])).tk [0,1])⟩
   ·
    refine s_alloc H17 (wt0 rfl) rfl rfl rfl ze179 ?_
    intro g64 wq65 H66
    refine a_k (H66.tk [8,9,1,2,3,4,5,6,7,10]) ?_
    refine a_one (i:=11) (by kernel_rfl) rfl ?_
    refine s_call0 H66 (wt0 rfl) (x_call rfl rfl rfl cl168) (yes_s (A.partB i) _) rfl rfl ?_
    intro wq67 H68
    refine a_k (H68.tk [8,9,1,2,3,4,5,6,7,10]) ?_
    refine a_one (i:=19) (by kernel_rfl) rfl ?_
    refine s_call0 H68 (wt0 rfl) (x_call rfl rfl rfl cl168) (yes_s (bitAt m.sug i) _) rfl rfl ?_
    intro wq69 H70
    refine a_k (H70.tk [8,9,1,2,3,4,5,6,7,10]) ?_
    refine w_t (v:=.agg #[.int .i64 ((b10 (decide ((0:Int)<x4.du)))),.int .i64 (x4.du),.int .i64 ((b10 (A.partB i))),.int .i64 ((b10 (bitAt m.sug i))),.int .i64 (0 - x4.lv),.int .i64 0,.int .i64 0,.int .i64 i]) 24 rfl (H70.tk [8,9,1,2,3,4,5,6,7,10]) (fun _ _=>x_build (vs:=[.int .i64 ((b10 (decide ((0:Int)<x4.du)))),.int .i64 (x4.du),.int .i64 ((b10 (A.partB i))),.int .i64 ((b10 (bitAt m.sug i))),.int .i64 (0 - x4.lv),.int .i64 0,.int .i64 0,.int .i64 i]) rfl rfl (cells:=#[.int .i64 ((b10 (decide ((0:Int)<x4.du)))),.int .i64 (x4.du),.int .i64 ((b10 (A.partB i))),.int .i64 ((b10 (bitAt m.sug i))),.int .i64 (0 - x4.lv),.int .i64 0,.int .i64 0,.int .i64 i]) (by kernel_rfl)) ?_
    refine a_one (i:=26) (by kernel_rfl) rfl ?_
    refine w_st #[.int .i64 ((b10 (decide ((0:Int)<x4.du)))),.int .i64 (x4.du),.int .i64 ((b10 (A.partB i))),.int .i64 ((b10 (bitAt m.sug i))),.int .i64 (0 - x4.lv),.int .i64 0,.int .i64 0,.int .i64 i] H70 0 ?_
    intro wq71 H72
    refine a_k (H72.tk [8,9,1,2,3,4,5,6,7,10]) ?_
    refine a_done (by kernel_rfl) ?_
    refine w_0 ?_
    refine g_wk [(0,_),(2,_),(6,_),(9,_)] ?_
    refine g_seq ?_
    refine w_k5 ?_
    refine w_v (x_not (b:=A.ino) rfl rfl) ?_
    refine w_e ?_
    rcases Bool.eq_false_or_eq_true (A.ino) with hb73 | hb73
    ·
     refine g_cond_f rfl (neg_of hb73) ?_
     refine w_k3 ?_
     refine w_v (v:=.agg #[.int .i64 ((b10 (decide ((0:Int)<x4.du)))),.int .i64 (x4.du),.int .i64 ((b10 (A.partB i))),.int .i64 ((b10 (bitAt m.sug i))),.int .i64 (0 - x4.lv),.int .i64 0,.int .i64 0,.int .i64 i]) (x_loadA H72 0 rfl rfl Tryz.underlying179 rfl sz179 rfl rfl rfl) ?_
     refine l_of (w_st #[.int .i64 ((b10 (decide ((0:Int)<x4.du)))),.int .i64 (x4.du),.int .i64 ((b10 (A.partB i))),.int .i64 ((b10 (bitAt m.sug i))),.int .i64 (0 - x4.lv),.int .i64 0,.int .i64 0,.int .i64 i] H72 9 ?_)
     intro wq74 H75
     refine w_k2 ?_
     refine fin_ret [.cell 6 179] [.agg #[.int .i64 ((b10 (decide ((0:Int)<x4.du)))),.int .i64 (x4.du),.int .i64 ((b10 (A.partB i))),.int .i64 ((b10 (bitAt m.sug i))),.int .i64 (0 - x4.lv),.int .i64 0,.int .i64 0,.int .i64 i]] rfl ⟨⟨_,rfl,run_loadA (H75.ob (k:=9) rfl) Tryz.underlying179 rfl sz179 rfl rfl⟩,trivial⟩ ?_
     have e5:(if A.ino=true then 0 else (A.countV i:Int))=0:=if_pos hb73
     have e6:(if A.ino=true then 0 else drV A.seed i)=0:=if_pos hb73
     rw [hlv9,hdu9,e5,e6]
     exact ⟨rfl,((S.big (L:=[_,_,_,_,_,_,_]) (H75.tk [1,2,3,4,5,6,7,10])).tk [0,1])⟩
    ·
     refine g_cond_t rfl (neg_of hb73) ?_
     refine w_k3 ?_
     have H76:S _ [_,_,_,_,_]:=S.big (L:=[_,_,_,_,_,_,_]) (H72.tk [1,2,3,4,5,6,7,0,8,9,10])
     refine l_of (s_cl (count_x X A j hX hI i hi _ (H76.tk [0])) ?_)
     rintro _ wq77 ⟨rfl,H78⟩
     replace H78:S _ [_,_,_,_,_]:=H76.abI (new:=[_]) [0] H78 rfl
     have H79:S _ [_,_,_,_,_,_,_,_,_,_,_]:=S.unbig (L:=[_,_,_,_,_,_,_]) (H78.tk [0,1,2,3,4])
     refine b_ret rfl rfl ?_
     refine w_v (v:=.pointer (some ⟨g64,5,none⟩)) (x_indexAddrA 5 rfl rfl rfl Tryz.underlying179 sz3 (by omega) (off':=5) rfl) ?_
     refine l_of (w_st #[.int .i64 ((b10 (decide ((0:Int)<x4.du)))),.int .i64 (x4.du),.int .i64 ((b10 (A.partB i))),.int .i64 ((b10 (bitAt m.sug i))),.int .i64 (0 - x4.lv),.int .i64 ((A.countV i:Int)),.int .i64 0,.int .i64 i] H79 7 ?_)
     intro wq80 H81
     refine w_k7 ?_
     refine l_of (s_call0 H81 (wt0 rfl) (x_call' rfl rfl cl170) (draw_h A.seed i (by omega) (by omega) (by omega) _) rfl rfl ?_)
     intro wq82 H83
     refine w_r3 ?_
     refine w_v (v:=.pointer (some ⟨g64,6,none⟩)) (x_indexAddrA 6 rfl rfl rfl Tryz.underlying179 sz3 (by omega) (off':=6) rfl) ?_
     refine l_of (w_st #[.int .i64 ((b10 (decide ((0:Int)<x4.du)))),.int .i64 (x4.du),.int .i64 ((b10 (A.partB i))),.int .i64 ((b10 (bitAt m.sug i))),.int .i64 (0 - x4.lv),.int .i64 ((A.countV i:Int)),.int .i64 ((drV A.seed i)),.int .i64 i] H83 7 ?_)
     intro wq84 H85
     refine w_e ?_
     refine g_wk [(6,_),(9,_)] ?_
     refine w_s ?_
     refine w_v (v:=.agg #[.int .i64 ((b10 (decide ((0:Int)<x4.du)))),.int .i64 (x4.du),.int .i64 ((b10 (A.partB i))),.int .i64 ((b10 (bitAt m.sug i))),.int .i64 (0 - x4.lv),.int .i64 ((A.countV i:Int)),.int .i64 ((drV A.seed i)),.int .i64 i]) (x_loadA H85 7 rfl rfl Tryz.underlying179 rfl sz179 rfl rfl rfl) ?_
     refine l_of (w_st #[.int .i64 ((b10 (decide ((0:Int)<x4.du)))),.int .i64 (x4.du),.int .i64 ((b10 (A.partB i))),.int .i64 ((b10 (bitAt m.sug i))),.int .i64 (0 - x4.lv),.int .i64 ((A.countV i:Int)),.int .i64 ((drV A.seed i)),.int .i64 i] H85 9 ?_)
     intro wq86 H87
     refine w_k2 ?_
     refine fin_ret [.cell 6 179] [.agg #[.int .i64 ((b10 (decide ((0:Int)<x4.du)))),.int .i64 (x4.du),.int .i64 ((b10 (A.partB i))),.int .i64 ((b10 (bitAt m.sug i))),.int .i64 (0 - x4.lv),.int .i64 ((A.countV i:Int)),.int .i64 ((drV A.seed i)),.int .i64 i]] rfl ⟨⟨_,rfl,run_loadA (H87.ob (k:=9) rfl) Tryz.underlying179 rfl sz179 rfl rfl⟩,trivial⟩ ?_
     have e5:(if A.ino=true then 0 else (A.countV i:Int))=(A.countV i:Int):=if_neg (by rw [hb73]; decide)
     have e6:(if A.ino=true then 0 else drV A.seed i)=(drV A.seed i):=if_neg (by rw [hb73]; decide)
     rw [hlv9,hdu9,e5,e6]
     exact ⟨rfl,((S.big (L:=[_,_,_,_,_,_,_]) (H87.tk [0,1,2,3,4,5,6,10])).tk [0,1])⟩
  ·
   refine s_alloc H13 (wt0 rfl) rfl rfl rfl ze179 ?_
   intro g88 wq89 H90
   refine a_k (H90.mask [false,true,true,true,true,true,true,true,true,true,true]) ?_
   refine a_one (i:=10) (by kernel_rfl) rfl ?_
   have H91:S _ [_,_,_,_,_]:=S.big (L:=[_,_,_,_,_,_,_]) (H90.tk [3,4,5,6,7,8,9,0,1,2,10])
   refine s_cl (partial_x X A j hX hI i hi _ (H91.tk [0])) ?_
   rintro _ wq92 ⟨rfl,H93⟩
   replace H93:S _ [_,_,_,_,_]:=H91.abI (new:=[_]) [0] H93 rfl
   have H94:S _ [_,_,_,_,_,_,_,_,_,_,_]:=S.unbig (L:=[_,_,_,_,_,_,_]) (H93.tk [0,1,2,3,4])
   refine b_ret rfl rfl ?_
   refine a_k (H94.tk [8,9,0,1,2,3,4,5,6,10]) ?_
   refine a_one (i:=11) (by kernel_rfl) rfl ?_
   refine s_call0 H94 (wt0 rfl) (x_call rfl rfl rfl cl168) (yes_s (A.partB i) _) rfl rfl ?_
   intro wq95 H96
   refine a_k (H96.tk [8,9,0,1,2,3,4,5,6,10]) ?_
   refine a_one (i:=19) (by kernel_rfl) rfl ?_
   refine s_call0 H96 (wt0 rfl) (x_call rfl rfl rfl cl168) (yes_s (bitAt m.sug i) _) rfl rfl ?_
   intro wq97 H98
   refine a_k (H98.tk [8,9,0,1,2,3,4,5,6,10]) ?_
   refine w_t (v:=.agg #[.int .i64 ((b10 (decide ((0:Int)<x4.du)))),.int .i64 (x4.du),.int .i64 ((b10 (A.partB i))),.int .i64 ((b10 (bitAt m.sug i))),.int .i64 (0 - x4.lv),.int .i64 0,.int .i64 0,.int .i64 i]) 24 rfl (H98.tk [8,9,0,1,2,3,4,5,6,10]) (fun _ _=>x_build (vs:=[.int .i64 ((b10 (decide ((0:Int)<x4.du)))),.int .i64 (x4.du),.int .i64 ((b10 (A.partB i))),.int .i64 ((b10 (bitAt m.sug i))),.int .i64 (0 - x4.lv),.int .i64 0,.int .i64 0,.int .i64 i]) rfl rfl (cells:=#[.int .i64 ((b10 (decide ((0:Int)<x4.du)))),.int .i64 (x4.du),.int .i64 ((b10 (A.partB i))),.int .i64 ((b10 (bitAt m.sug i))),.int .i64 (0 - x4.lv),.int .i64 0,.int .i64 0,.int .i64 i]) (by kernel_rfl)) ?_
   refine a_one (i:=26) (by kernel_rfl) rfl ?_
   refine w_st #[.int .i64 ((b10 (decide ((0:Int)<x4.du)))),.int .i64 (x4.du),.int .i64 ((b10 (A.partB i))),.int .i64 ((b10 (bitAt m.sug i))),.int .i64 (0 - x4.lv),.int .i64 0,.int .i64 0,.int .i64 i] H98 7 ?_
   intro wq99 H100
   refine a_k (H100.tk [8,9,0,1,2,3,4,5,6,10]) ?_
   refine a_done (by kernel_rfl) ?_
   refine w_0 ?_
   refine g_wk [(0,_),(2,_),(6,_),(9,_)] ?_
   refine g_seq ?_
   refine w_k5 ?_
   refine w_v (x_not (b:=A.ino) rfl rfl) ?_
   refine w_e ?_
   rcases Bool.eq_false_or_eq_true (A.ino) with hb101 | hb101
   ·
    refine g_cond_f rfl (neg_of hb101) ?_
    refine w_k3 ?_
    refine w_v (v:=.agg #[.int .i64 ((b10 (decide ((0:Int)<x4.du)))),.int .i64 (x4.du),.int .i64 ((b10 (A.partB i))),.int .i64 ((b10 (bitAt m.sug i))),.int .i64 (0 - x4.lv),.int .i64 0,.int .i64 0,.int .i64 i]) (x_loadA H100 7 rfl rfl Tryz.underlying179 rfl sz179 rfl rfl rfl) ?_
    refine l_of (w_st #[.int .i64 ((b10 (decide ((0:Int)<x4.du)))),.int .i64 (x4.du),.int .i64 ((b10 (A.partB i))),.int .i64 ((b10 (bitAt m.sug i))),.int .i64 (0 - x4.lv),.int .i64 0,.int .i64 0,.int .i64 i] H100 9 ?_)
    intro wq102 H103
    refine w_k2 ?_
    refine fin_ret [.cell 6 179] [.agg #[.int .i64 ((b10 (decide ((0:Int)<x4.du)))),.int .i64 (x4.du),.int .i64 ((b10 (A.partB i))),.int .i64 ((b10 (bitAt m.sug i))),.int .i64 (0 - x4.lv),.int .i64 0,.int .i64 0,.int .i64 i]] rfl ⟨⟨_,rfl,run_loadA (H103.ob (k:=9) rfl) Tryz.underlying179 rfl sz179 rfl rfl⟩,trivial⟩ ?_
    have e5:(if A.ino=true then 0 else (A.countV i:Int))=0:=if_pos hb101
    have e6:(if A.ino=true then 0 else drV A.seed i)=0:=if_pos hb101
    rw [hlv9,hdu9,e5,e6]
    exact ⟨rfl,((S.big (L:=[_,_,_,_,_,_,_]) (H103.tk [0,1,2,3,4,5,6,10])).tk [0,1])⟩
   ·
    refine g_cond_t rfl (neg_of hb101) ?_
    refine w_k3 ?_
    have H104:S _ [_,_,_,_,_]:=S.big (L:=[_,_,_,_,_,_,_]) (H100.tk [0,1,2,3,4,5,6,7,8,9,10])
    refine l_of (s_cl (count_x X A j hX hI i hi _ (H104.tk [0])) ?_)
    rintro _ wq105 ⟨rfl,H106⟩
    replace H106:S _ [_,_,_,_,_]:=H104.abI (new:=[_]) [0] H106 rfl
    have H107:S _ [_,_,_,_,_,_,_,_,_,_,_]:=S.unbig (L:=[_,_,_,_,_,_,_]) (H106.tk [0,1,2,3,4])
    refine b_ret rfl rfl ?_
    refine w_v (v:=.pointer (some ⟨g88,5,none⟩)) (x_indexAddrA 5 rfl rfl rfl Tryz.underlying179 sz3 (by omega) (off':=5) rfl) ?_
    refine l_of (w_st #[.int .i64 ((b10 (decide ((0:Int)<x4.du)))),.int .i64 (x4.du),.int .i64 ((b10 (A.partB i))),.int .i64 ((b10 (bitAt m.sug i))),.int .i64 (0 - x4.lv),.int .i64 ((A.countV i:Int)),.int .i64 0,.int .i64 i] H107 7 ?_)
    intro wq108 H109
    refine w_k7 ?_
    refine l_of (s_call0 H109 (wt0 rfl) (x_call' rfl rfl cl170) (draw_h A.seed i (by omega) (by omega) (by omega) _) rfl rfl ?_)
    intro wq110 H111
    refine w_r3 ?_
    refine w_v (v:=.pointer (some ⟨g88,6,none⟩)) (x_indexAddrA 6 rfl rfl rfl Tryz.underlying179 sz3 (by omega) (off':=6) rfl) ?_
    refine l_of (w_st #[.int .i64 ((b10 (decide ((0:Int)<x4.du)))),.int .i64 (x4.du),.int .i64 ((b10 (A.partB i))),.int .i64 ((b10 (bitAt m.sug i))),.int .i64 (0 - x4.lv),.int .i64 ((A.countV i:Int)),.int .i64 ((drV A.seed i)),.int .i64 i] H111 7 ?_)
    intro wq112 H113
    refine w_e ?_
    refine g_wk [(6,_),(9,_)] ?_
    refine w_s ?_
    refine w_v (v:=.agg #[.int .i64 ((b10 (decide ((0:Int)<x4.du)))),.int .i64 (x4.du),.int .i64 ((b10 (A.partB i))),.int .i64 ((b10 (bitAt m.sug i))),.int .i64 (0 - x4.lv),.int .i64 ((A.countV i:Int)),.int .i64 ((drV A.seed i)),.int .i64 i]) (x_loadA H113 7 rfl rfl Tryz.underlying179 rfl sz179 rfl rfl rfl) ?_
    refine l_of (w_st #[.int .i64 ((b10 (decide ((0:Int)<x4.du)))),.int .i64 (x4.du),.int .i64 ((b10 (A.partB i))),.int .i64 ((b10 (bitAt m.sug i))),.int .i64 (0 - x4.lv),.int .i64 ((A.countV i:Int)),.int .i64 ((drV A.seed i)),.int .i64 i] H113 9 ?_)
    intro wq114 H115
    refine w_k2 ?_
    refine fin_ret [.cell 6 179] [.agg #[.int .i64 ((b10 (decide ((0:Int)<x4.du)))),.int .i64 (x4.du),.int .i64 ((b10 (A.partB i))),.int .i64 ((b10 (bitAt m.sug i))),.int .i64 (0 - x4.lv),.int .i64 ((A.countV i:Int)),.int .i64 ((drV A.seed i)),.int .i64 i]] rfl ⟨⟨_,rfl,run_loadA (H115.ob (k:=9) rfl) Tryz.underlying179 rfl sz179 rfl rfl⟩,trivial⟩ ?_
    have e5:(if A.ino=true then 0 else (A.countV i:Int))=(A.countV i:Int):=if_neg (by rw [hb101]; decide)
    have e6:(if A.ino=true then 0 else drV A.seed i)=(drV A.seed i):=if_neg (by rw [hb101]; decide)
    rw [hlv9,hdu9,e5,e6]
    exact ⟨rfl,((S.big (L:=[_,_,_,_,_,_,_]) (H115.tk [0,1,2,3,4,5,6,10])).tk [0,1])⟩
 ·
  refine s_alloc H11 (wt0 rfl) rfl rfl rfl ze179 ?_
  intro g116 wq117 H118
  refine a_k (H118.mask [false,true,true,true,true,true,true,true,true,true,true]) ?_
  refine a_one (i:=4) (by kernel_rfl) rfl ?_
  refine s_call0 H118 (wt0 rfl) (x_call rfl rfl rfl cl168) (yes_s (decide ((0:Int)<x4.du)) _) rfl rfl ?_
  intro wq119 H120
  refine a_k (H120.mask [false,true,true,true,true,true,true,true,true,true,true]) ?_
  refine a_one (i:=10) (by kernel_rfl) rfl ?_
  have H121:S _ [_,_,_,_,_]:=S.big (L:=[_,_,_,_,_,_,_]) (H120.tk [3,4,5,6,7,8,9,0,1,2,10])
  refine s_cl (partial_x X A j hX hI i hi _ (H121.tk [0])) ?_
  rintro _ wq122 ⟨rfl,H123⟩
  replace H123:S _ [_,_,_,_,_]:=H121.abI (new:=[_]) [0] H123 rfl
  have H124:S _ [_,_,_,_,_,_,_,_,_,_,_]:=S.unbig (L:=[_,_,_,_,_,_,_]) (H123.tk [0,1,2,3,4])
  refine b_ret rfl rfl ?_
  refine a_k (H124.tk [8,9,0,1,2,3,4,5,6,10]) ?_
  refine a_one (i:=11) (by kernel_rfl) rfl ?_
  refine s_call0 H124 (wt0 rfl) (x_call rfl rfl rfl cl168) (yes_s (A.partB i) _) rfl rfl ?_
  intro wq125 H126
  refine a_k (H126.tk [8,9,0,1,2,3,4,5,6,10]) ?_
  refine a_one (i:=19) (by kernel_rfl) rfl ?_
  refine s_call0 H126 (wt0 rfl) (x_call rfl rfl rfl cl168) (yes_s (bitAt m.sug i) _) rfl rfl ?_
  intro wq127 H128
  refine a_k (H128.tk [8,9,0,1,2,3,4,5,6,10]) ?_
  refine w_t (v:=.agg #[.int .i64 ((b10 (decide ((0:Int)<x4.du)))),.int .i64 (x4.du),.int .i64 ((b10 (A.partB i))),.int .i64 ((b10 (bitAt m.sug i))),.int .i64 (0 - x4.lv),.int .i64 0,.int .i64 0,.int .i64 i]) 24 rfl (H128.tk [8,9,0,1,2,3,4,5,6,10]) (fun _ _=>x_build (vs:=[.int .i64 ((b10 (decide ((0:Int)<x4.du)))),.int .i64 (x4.du),.int .i64 ((b10 (A.partB i))),.int .i64 ((b10 (bitAt m.sug i))),.int .i64 (0 - x4.lv),.int .i64 0,.int .i64 0,.int .i64 i]) rfl rfl (cells:=#[.int .i64 ((b10 (decide ((0:Int)<x4.du)))),.int .i64 (x4.du),.int .i64 ((b10 (A.partB i))),.int .i64 ((b10 (bitAt m.sug i))),.int .i64 (0 - x4.lv),.int .i64 0,.int .i64 0,.int .i64 i]) (by kernel_rfl)) ?_
  refine a_one (i:=26) (by kernel_rfl) rfl ?_
  refine w_st #[.int .i64 ((b10 (decide ((0:Int)<x4.du)))),.int .i64 (x4.du),.int .i64 ((b10 (A.partB i))),.int .i64 ((b10 (bitAt m.sug i))),.int .i64 (0 - x4.lv),.int .i64 0,.int .i64 0,.int .i64 i] H128 7 ?_
  intro wq129 H130
  refine a_k (H130.tk [8,9,0,1,2,3,4,5,6,10]) ?_
  refine a_done (by kernel_rfl) ?_
  refine w_0 ?_
  refine g_wk [(0,_),(2,_),(6,_),(9,_)] ?_
  refine g_seq ?_
  refine w_k5 ?_
  refine w_v (x_not (b:=A.ino) rfl rfl) ?_
  refine w_e ?_
  rcases Bool.eq_false_or_eq_true (A.ino) with hb131 | hb131
  ·
   refine g_cond_f rfl (neg_of hb131) ?_
   refine w_k3 ?_
   refine w_v (v:=.agg #[.int .i64 ((b10 (decide ((0:Int)<x4.du)))),.int .i64 (x4.du),.int .i64 ((b10 (A.partB i))),.int .i64 ((b10 (bitAt m.sug i))),.int .i64 (0 - x4.lv),.int .i64 0,.int .i64 0,.int .i64 i]) (x_loadA H130 7 rfl rfl Tryz.underlying179 rfl sz179 rfl rfl rfl) ?_
   refine l_of (w_st #[.int .i64 ((b10 (decide ((0:Int)<x4.du)))),.int .i64 (x4.du),.int .i64 ((b10 (A.partB i))),.int .i64 ((b10 (bitAt m.sug i))),.int .i64 (0 - x4.lv),.int .i64 0,.int .i64 0,.int .i64 i] H130 9 ?_)
   intro wq132 H133
   refine w_k2 ?_
   refine fin_ret [.cell 6 179] [.agg #[.int .i64 ((b10 (decide ((0:Int)<x4.du)))),.int .i64 (x4.du),.int .i64 ((b10 (A.partB i))),.int .i64 ((b10 (bitAt m.sug i))),.int .i64 (0 - x4.lv),.int .i64 0,.int .i64 0,.int .i64 i]] rfl ⟨⟨_,rfl,run_loadA (H133.ob (k:=9) rfl) Tryz.underlying179 rfl sz179 rfl rfl⟩,trivial⟩ ?_
   have e5:(if A.ino=true then 0 else (A.countV i:Int))=0:=if_pos hb131
   have e6:(if A.ino=true then 0 else drV A.seed i)=0:=if_pos hb131
   rw [hlv9,hdu9,e5,e6]
   exact ⟨rfl,((S.big (L:=[_,_,_,_,_,_,_]) (H133.tk [0,1,2,3,4,5,6,10])).tk [0,1])⟩
  ·
   refine g_cond_t rfl (neg_of hb131) ?_
   refine w_k3 ?_
   have H134:S _ [_,_,_,_,_]:=S.big (L:=[_,_,_,_,_,_,_]) (H130.tk [0,1,2,3,4,5,6,7,8,9,10])
   refine l_of (s_cl (count_x X A j hX hI i hi _ (H134.tk [0])) ?_)
   rintro _ wq135 ⟨rfl,H136⟩
   replace H136:S _ [_,_,_,_,_]:=H134.abI (new:=[_]) [0] H136 rfl
   have H137:S _ [_,_,_,_,_,_,_,_,_,_,_]:=S.unbig (L:=[_,_,_,_,_,_,_]) (H136.tk [0,1,2,3,4])
   refine b_ret rfl rfl ?_
   refine w_v (v:=.pointer (some ⟨g116,5,none⟩)) (x_indexAddrA 5 rfl rfl rfl Tryz.underlying179 sz3 (by omega) (off':=5) rfl) ?_
   refine l_of (w_st #[.int .i64 ((b10 (decide ((0:Int)<x4.du)))),.int .i64 (x4.du),.int .i64 ((b10 (A.partB i))),.int .i64 ((b10 (bitAt m.sug i))),.int .i64 (0 - x4.lv),.int .i64 ((A.countV i:Int)),.int .i64 0,.int .i64 i] H137 7 ?_)
   intro wq138 H139
   refine w_k7 ?_
   refine l_of (s_call0 H139 (wt0 rfl) (x_call' rfl rfl cl170) (draw_h A.seed i (by omega) (by omega) (by omega) _) rfl rfl ?_)
   intro wq140 H141
   refine w_r3 ?_
   refine w_v (v:=.pointer (some ⟨g116,6,none⟩)) (x_indexAddrA 6 rfl rfl rfl Tryz.underlying179 sz3 (by omega) (off':=6) rfl) ?_
   refine l_of (w_st #[.int .i64 ((b10 (decide ((0:Int)<x4.du)))),.int .i64 (x4.du),.int .i64 ((b10 (A.partB i))),.int .i64 ((b10 (bitAt m.sug i))),.int .i64 (0 - x4.lv),.int .i64 ((A.countV i:Int)),.int .i64 ((drV A.seed i)),.int .i64 i] H141 7 ?_)
   intro wq142 H143
   refine w_e ?_
   refine g_wk [(6,_),(9,_)] ?_
   refine w_s ?_
   refine w_v (v:=.agg #[.int .i64 ((b10 (decide ((0:Int)<x4.du)))),.int .i64 (x4.du),.int .i64 ((b10 (A.partB i))),.int .i64 ((b10 (bitAt m.sug i))),.int .i64 (0 - x4.lv),.int .i64 ((A.countV i:Int)),.int .i64 ((drV A.seed i)),.int .i64 i]) (x_loadA H143 7 rfl rfl Tryz.underlying179 rfl sz179 rfl rfl rfl) ?_
   refine l_of (w_st #[.int .i64 ((b10 (decide ((0:Int)<x4.du)))),.int .i64 (x4.du),.int .i64 ((b10 (A.partB i))),.int .i64 ((b10 (bitAt m.sug i))),.int .i64 (0 - x4.lv),.int .i64 ((A.countV i:Int)),.int .i64 ((drV A.seed i)),.int .i64 i] H143 9 ?_)
   intro wq144 H145
   refine w_k2 ?_
   refine fin_ret [.cell 6 179] [.agg #[.int .i64 ((b10 (decide ((0:Int)<x4.du)))),.int .i64 (x4.du),.int .i64 ((b10 (A.partB i))),.int .i64 ((b10 (bitAt m.sug i))),.int .i64 (0 - x4.lv),.int .i64 ((A.countV i:Int)),.int .i64 ((drV A.seed i)),.int .i64 i]] rfl ⟨⟨_,rfl,run_loadA (H145.ob (k:=9) rfl) Tryz.underlying179 rfl sz179 rfl rfl⟩,trivial⟩ ?_
   have e5:(if A.ino=true then 0 else (A.countV i:Int))=(A.countV i:Int):=if_neg (by rw [hb131]; decide)
   have e6:(if A.ino=true then 0 else drV A.seed i)=(drV A.seed i):=if_neg (by rw [hb131]; decide)
   rw [hlv9,hdu9,e5,e6]
   exact ⟨rfl,((S.big (L:=[_,_,_,_,_,_,_]) (H145.tk [0,1,2,3,4,5,6,10])).tk [0,1])⟩
end Go.Proofs.YthmmfhdpkddniaaGreatDoor
