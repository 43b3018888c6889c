import Derived.Test.YtpbjekdjebjbkaaGreatDoorFm
import Derived.Test.YtpbjekdjebjbkaaGreatDoorRs
set_option maxRecDepth 20000
set_option maxHeartbeats 4000000
set_option linter.unusedSimpArgs false
set_option linter.unusedVariables false
namespace Go.Proofs.YtpbjekdjebjbkaaGreatDoor
open Go.RowKit
def meanF (ps:List Pl) (f:Nat→Int) (s:Int):Nat→Int × Int
 | 0=>(0,0)
 | k+1=>if stA ps k=s then ((meanF ps f s k).1+f k,(meanF ps f s k).2+1) else meanF ps f s k
def meanV (ps:List Pl) (f:Nat→Int) (R s:Int):Int:=if (meanF ps f s ps.length).2 * R=0 then 0 else (meanF ps f s ps.length).1 / ((meanF ps f s ps.length).2 * R)
def meansV (ps:List Pl) (f:Nat→Int) (R:Int) (k:Nat):List Int:=(List.range k).map fun (j:Nat)=>meanV ps f R ((j:Int)+1)
theorem meansV_s (ps:List Pl) (f:Nat→Int) (R:Int) (k:Nat):meansV ps f R (k+1)=meansV ps f R k++[meanV ps f R ((k:Int)+1)]:=by
 unfold meansV
 rw [List.range_succ,List.map_append,List.map_singleton]
theorem meansV_len (ps:List Pl) (f:Nat→Int) (R:Int) (k:Nat):(meansV ps f R k).length=k:=by unfold meansV; rw [List.length_map,List.length_range]
theorem meanF_bd {ps:List Pl} {f:Nat→Int} {s B:Int} (hB:0≤B):∀ k,(∀ j,j<k→0≤f j∧f j≤B)→(0≤(meanF ps f s k).1∧(meanF ps f s k).1≤B * k)∧0≤(meanF ps f s k).2∧(meanF ps f s k).2≤k
 | 0,_=>⟨⟨Int.le_refl _,by simp [meanF]⟩,Int.le_refl _,Int.le_refl _⟩
 | k+1,h=>by
   have h1:=meanF_bd (ps:=ps) (f:=f) (s:=s) hB k fun j hj=>h j (by omega)
   have h2:=h k (by omega)
   have e:B * ((k+1:Nat):Int)=B * k+B:=by rw [Int.natCast_succ,Int.mul_add,Int.mul_one]
   unfold meanF
   split
   · dsimp only; omega
   · omega
theorem meanF_y {ps:List Pl} {f:Nat→Int} {s a b:Int} {k:Nat} {x:Pl} (h:(a,b)=meanF ps f s k) (hx:ps[k]?=some x) (hs:x.st=s):(a+f k,b+1)=meanF ps f s (k+1):=by
 show _=if stA ps k=s then _ else _
 rw [if_pos (by rw [stA_is hx]; exact hs),← h]
theorem meanF_n {ps:List Pl} {f:Nat→Int} {s a b:Int} {k:Nat} {x:Pl} (h:(a,b)=meanF ps f s k) (hx:ps[k]?=some x) (hs:¬ x.st=s):(a,b)=meanF ps f s (k+1):=by
 show _=if stA ps k=s then _ else _
 rw [if_neg (by rw [stA_is hx]; exact hs),← h]
theorem meanV_z {ps:List Pl} {f:Nat→Int} {R s a b:Int} (h:(a,b)=meanF ps f s ps.length) (h0:b * R=0):(0:Int)=meanV ps f R s:=by
 unfold meanV
 rw [← h,if_pos h0]
theorem meanV_q {ps:List Pl} {f:Nat→Int} {R s a b:Int} (h:(a,b)=meanF ps f s ps.length) (h0:¬ b * R=0):a / (b * R)=meanV ps f R s:=by
 unfold meanV
 rw [← h,if_neg h0]
theorem mulR_bd {a b:Int} (h:0≤a∧a≤9) (h2:0≤b∧b≤200):0≤a * b∧a * b≤1800:=
 ⟨Int.mul_nonneg h.1 h2.1,Int.le_trans (Int.mul_le_mul h.2 h2.2 h2.1 (by decide)) (by decide)⟩
theorem gotN_bd {n:Nat} {pl gs:List Rd} (h:GsOK n pl gs) (hl:gs.length≤200) (i:Int):∀ k:Nat,0≤gotN (gs.map Rd.v) i k∧gotN (gs.map Rd.v) i k≤200000000 * (k:Int)
 | 0=>⟨Int.le_refl _,Int.le_refl _⟩
 | k+1=>by
   have h1:=gotN_bd h hl i k
   have h2:=btwV_bd h hl (k:Nat) i
   rw [gotN_s]; omega
theorem got_r7 (g:Nat) (sd:ByteArray) (lp:Option Addr) (lc:Nat) (ps:List Pl) (rp:Option Addr) (rc:Nat) (gs:List Rd) (xp:Option Addr) (xc:Nat) (xs:List (Ro Int)) (yp:Option Addr) (yc:Nat) (ys:List (Ro Int)) (pl:List Rd) (hG:GsOK ps.length pl gs) (hgl:gs.length≤200) (hnp:ps.length≤9) (h2p:2≤ps.length) (n:Int) (hn:¬ (0≤n∧n<(ps.length:Int)))  (w:World) (HS:S w [Ob g (.cells #[.string sd,.slice lp ps.length lc,.slice rp gs.length rc,.slice xp xs.length xc,.slice yp ys.length yc] 66 (0,0)),Rw 39 1 rp gs.length rc (fl rowL gs),(Pool pl)]):Calls Tryz.prog 36 #[.pointer (some ⟨g,0,none⟩),.int .i64 n] w fun e w'=>e=.returned (.tuple #[.int .i64 0,.int .i64 7])∧S w' ([Ob g (.cells #[.string sd,.slice lp ps.length lc,.slice rp gs.length rc,.slice xp xs.length xc,.slice yp ys.length yc] 66 (0,0)),Rw 39 1 rp gs.length rc (fl rowL gs),(Pool pl)]++[Old w (fps [Ob g (.cells #[.string sd,.slice lp ps.length lc,.slice rp gs.length rc,.slice xp xs.length xc,.slice yp ys.length yc] 66 (0,0)),Rw 39 1 rp gs.length rc (fl rowL gs),(Pool pl)])]):=by
 have H0:=HS.beginI
 refine enter 33 Tryz.func36 rfl rfl rfl ?_
 refine g_wk [(0,_),(1,_)] ?_
 refine w_s ?_
 refine w_k16 ?_
 refine g_loop (ι:=Unit) (fun _=>[(0,.pointer (some ⟨g,0,none⟩)),(1,.int .i64 n),(6,.int .i64 0),(14,.int .i64 ((ps.length:Int))),(15,.int .i64 0)]) (fun _ wx=>(True)∧S wx [Ob g (.cells #[.string sd,.slice lp ps.length lc,.slice rp gs.length rc,.slice xp xs.length xc,.slice yp ys.length yc] 66 (0,0)),Rw 39 1 rp gs.length rc (fl rowL gs),(Pool pl),Old w (fps [Ob g (.cells #[.string sd,.slice lp ps.length lc,.slice rp gs.length rc,.slice xp xs.length xc,.slice yp ys.length yc] 66 (0,0)),Rw 39 1 rp gs.length rc (fl rowL gs),(Pool pl)])]) (fun _=>0) () ⟨rfl,rfl,rfl,rfl,rfl,trivial⟩ ⟨trivial,(H0.tk [0,1,2,3])⟩ ?_
 rintro _ wq1 ⟨htr,H2⟩
 refine g_wk [(0,_),(1,_),(6,_),(14,_),(15,_)] ?_
 refine w_s ?_
 refine w_k2 ?_
 refine g_seq ?_
 refine g_cond_t rfl (decide_eq_true (by omega)) ?_
 refine w_k12 ?_
 refine l_of (s_cl (between_r7b g sd lp lc ps rp rc gs xp xc xs yp yc ys pl hG hgl hnp 0 n ⟨by omega,by omega⟩ hn _ (H2.tk [0,1,2])) ?_)
 rintro _ wq3 ⟨rfl,H4⟩
 replace H4:S _ [_,_,_,_]:=H2.abI (new:=[_,_,_]) [0,1,2] H4 rfl
 refine b_ret rfl rfl ?_
 refine w_k9 ?_
 refine w_b (v:=.bool (!decide ((7:Int)=0))) (hb:=b_neq) ?_
 refine w_e ?_
 refine g_cond_t rfl (by decide) ?_
 refine w_k12 ?_
 refine fin_r [.tmp 4,.tmp 5] [.int .i64 0,.int .i64 7] ?_
 exact ⟨rfl,H4.tk [0,1,2,3]⟩
theorem gave_r7 (g:Nat) (sd:ByteArray) (lp:Option Addr) (lc:Nat) (ps:List Pl) (rp:Option Addr) (rc:Nat) (gs:List Rd) (xp:Option Addr) (xc:Nat) (xs:List (Ro Int)) (yp:Option Addr) (yc:Nat) (ys:List (Ro Int)) (pl:List Rd) (hG:GsOK ps.length pl gs) (hgl:gs.length≤200) (hnp:ps.length≤9) (h2p:2≤ps.length) (n:Int) (hn:¬ (0≤n∧n<(ps.length:Int)))  (w:World) (HS:S w [Ob g (.cells #[.string sd,.slice lp ps.length lc,.slice rp gs.length rc,.slice xp xs.length xc,.slice yp ys.length yc] 66 (0,0)),Rw 39 1 rp gs.length rc (fl rowL gs),(Pool pl)]):Calls Tryz.prog 38 #[.pointer (some ⟨g,0,none⟩),.int .i64 n] w fun e w'=>e=.returned (.tuple #[.int .i64 0,.int .i64 7])∧S w' ([Ob g (.cells #[.string sd,.slice lp ps.length lc,.slice rp gs.length rc,.slice xp xs.length xc,.slice yp ys.length yc] 66 (0,0)),Rw 39 1 rp gs.length rc (fl rowL gs),(Pool pl)]++[Old w (fps [Ob g (.cells #[.string sd,.slice lp ps.length lc,.slice rp gs.length rc,.slice xp xs.length xc,.slice yp ys.length yc] 66 (0,0)),Rw 39 1 rp gs.length rc (fl rowL gs),(Pool pl)])]):=by
 have H0:=HS.beginI
 refine enter 33 Tryz.func38 rfl rfl rfl ?_
 refine g_wk [(0,_),(1,_)] ?_
 refine w_s ?_
 refine w_k16 ?_
 refine g_loop (ι:=Unit) (fun _=>[(0,.pointer (some ⟨g,0,none⟩)),(1,.int .i64 n),(6,.int .i64 0),(14,.int .i64 ((ps.length:Int))),(15,.int .i64 0)]) (fun _ wx=>(True)∧S wx [Ob g (.cells #[.string sd,.slice lp ps.length lc,.slice rp gs.length rc,.slice xp xs.length xc,.slice yp ys.length yc] 66 (0,0)),Rw 39 1 rp gs.length rc (fl rowL gs),(Pool pl),Old w (fps [Ob g (.cells #[.string sd,.slice lp ps.length lc,.slice rp gs.length rc,.slice xp xs.length xc,.slice yp ys.length yc] 66 (0,0)),Rw 39 1 rp gs.length rc (fl rowL gs),(Pool pl)])]) (fun _=>0) () ⟨rfl,rfl,rfl,rfl,rfl,trivial⟩ ⟨trivial,(H0.tk [0,1,2,3])⟩ ?_
 rintro _ wq1 ⟨htr,H2⟩
 refine g_wk [(0,_),(1,_),(6,_),(14,_),(15,_)] ?_
 refine w_s ?_
 refine w_k2 ?_
 refine g_seq ?_
 refine g_cond_t rfl (decide_eq_true (by omega)) ?_
 refine w_k12 ?_
 refine l_of (s_cl (between_r7a g sd lp lc ps rp rc gs xp xc xs yp yc ys pl hG hgl hnp n 0 hn _ (H2.tk [0,1,2])) ?_)
 rintro _ wq3 ⟨rfl,H4⟩
 replace H4:S _ [_,_,_,_]:=H2.abI (new:=[_,_,_]) [0,1,2] H4 rfl
 refine b_ret rfl rfl ?_
 refine w_k9 ?_
 refine w_b (v:=.bool (!decide ((7:Int)=0))) (hb:=b_neq) ?_
 refine w_e ?_
 refine g_cond_t rfl (by decide) ?_
 refine w_k12 ?_
 refine fin_r [.tmp 4,.tmp 5] [.int .i64 0,.int .i64 7] ?_
 exact ⟨rfl,H4.tk [0,1,2,3]⟩
theorem means_rr (g:Nat) (sd:ByteArray) (lp:Option Addr) (lc:Nat) (ps:List Pl) (rp:Option Addr) (rc:Nat) (gs:List Rd) (xp:Option Addr) (xc:Nat) (xs:List (Ro Int)) (yp:Option Addr) (yc:Nat) (ys:List (Ro Int)) (pl:List Rd) (hG:GsOK ps.length pl gs) (hgl:gs.length≤200) (hnp:ps.length≤9)  (w:World) (HS:S w [Ob g (.cells #[.string sd,.slice lp ps.length lc,.slice rp gs.length rc,.slice xp xs.length xc,.slice yp ys.length yc] 66 (0,0)),Rw 27 2 lp ps.length lc (fl plL ps),Rw 39 1 rp gs.length rc (fl rowL gs),(Pool pl)]):Calls Tryz.prog 44 #[.pointer (some ⟨g,0,none⟩)] w fun e w'=>∃ p' c',e=.returned (.slice p' (meansV ps (fun j=>gotN (gs.map Rd.v) (j:Nat) ps.length) (gs.length:Int) 7).length c')∧S w' ([Rw 3 1 p' (meansV ps (fun j=>gotN (gs.map Rd.v) (j:Nat) ps.length) (gs.length:Int) 7).length c' (fl intL (meansV ps (fun j=>gotN (gs.map Rd.v) (j:Nat) ps.length) (gs.length:Int) 7)),Ob g (.cells #[.string sd,.slice lp ps.length lc,.slice rp gs.length rc,.slice xp xs.length xc,.slice yp ys.length yc] 66 (0,0)),Rw 27 2 lp ps.length lc (fl plL ps),Rw 39 1 rp gs.length rc (fl rowL gs),(Pool pl)]++[Old w (fps [Ob g (.cells #[.string sd,.slice lp ps.length lc,.slice rp gs.length rc,.slice xp xs.length xc,.slice yp ys.length yc] 66 (0,0)),Rw 27 2 lp ps.length lc (fl plL ps),Rw 39 1 rp gs.length rc (fl rowL gs),(Pool pl)])]):=by
 have H0:=HS.beginI
 refine enter 65 Tryz.func44 rfl rfl rfl ?_
 refine g_wk [(0,_)] ?_
 refine w_s ?_
 refine w_a ?_
 refine w_es ?_
 have H1:S w [Rw 3 1 none 0 0 (fl intL ([]:List Int)),Ob g (.cells #[.string sd,.slice lp ps.length lc,.slice rp gs.length rc,.slice xp xs.length xc,.slice yp ys.length yc] 66 (0,0)),Rw 27 2 lp ps.length lc (fl plL ps),Rw 39 1 rp gs.length rc (fl rowL gs),(Pool pl),Old w (fps [Ob g (.cells #[.string sd,.slice lp ps.length lc,.slice rp gs.length rc,.slice xp xs.length xc,.slice yp ys.length yc] 66 (0,0)),Rw 27 2 lp ps.length lc (fl plL ps),Rw 39 1 rp gs.length rc (fl rowL gs),(Pool pl)])]:=H0.nilFl 3 1 intL
 refine w_a ?_
 refine w_e ?_
 refine g_seq ?_
 refine w_s ?_
 refine w_a ?_
 refine w_e ?_
 refine g_block ?_
 refine g_loop (ι:=Nat × Option Addr × Nat × List Int) (fun (s,pq,cq,zs)=>[(0,.pointer (some ⟨g,0,none⟩)),(3,.slice pq zs.length cq),(4,.int .i64 ((s:Int)))]) (fun (s,pq,cq,zs) wx=>(1≤s∧s≤8)∧(zs=(meansV ps (fun j=>gotN (gs.map Rd.v) (j:Nat) ps.length) (gs.length:Int) (s - 1)))∧S wx [Rw 3 1 pq zs.length cq (fl intL zs),Ob g (.cells #[.string sd,.slice lp ps.length lc,.slice rp gs.length rc,.slice xp xs.length xc,.slice yp ys.length yc] 66 (0,0)),Rw 27 2 lp ps.length lc (fl plL ps),Rw 39 1 rp gs.length rc (fl rowL gs),(Pool pl),Old w (fps [Ob g (.cells #[.string sd,.slice lp ps.length lc,.slice rp gs.length rc,.slice xp xs.length xc,.slice yp ys.length yc] 66 (0,0)),Rw 27 2 lp ps.length lc (fl plL ps),Rw 39 1 rp gs.length rc (fl rowL gs),(Pool pl)])]) (fun (s,pq,cq,zs)=>8 - s) (1,none,0,[]) ⟨rfl,rfl,rfl,trivial⟩ ⟨(by omega),rfl,(H1.tk [0,1,2,3,4,5])⟩ ?_
 rintro ⟨s,pq,cq,zs⟩ wq2 ⟨hs,hz,H3⟩
 refine g_wk [(0,_),(3,_),(4,_)] ?_
 have hzl9:zs.length=s - 1:=(by rw [hz]; exact meansV_len _ _ _ _)
 refine g_seq ?_
 refine w_s ?_
 refine w_m ?_
 refine w_b ?_
 refine w_e ?_
 by_cases hb4:((s:Int):Int)≤7
 ·
  refine g_ct hb4 ?_
  refine w_ht ?_
  refine g_seq ?_
  refine w_bs ?_
  refine w_r2 ?_
  refine w_e ?_
  refine g_seq ?_
  refine w_s ?_
  refine w_r3 ?_
  refine w_1 H3 1 ?_
  refine w_v (v:=.int .i64 ((ps.length:Int))) x_q ?_
  refine w_m ?_
  refine w_e ?_
  refine g_block ?_
  refine g_loop (ι:=Nat × Int × Int) (fun (i,sm,cn)=>[(0,.pointer (some ⟨g,0,none⟩)),(3,.slice pq zs.length cq),(4,.int .i64 ((s:Int))),(5,.int .i64 sm),(6,.int .i64 cn),(18,.slice lp ps.length lc),(19,.int .i64 ((ps.length:Int))),(20,.int .i64 ((i:Int)))]) (fun (i,sm,cn) wx=>(i≤ps.length)∧((sm,cn)=meanF ps (fun j=>gotN (gs.map Rd.v) (j:Nat) ps.length) s i)∧S wx [Rw 3 1 pq zs.length cq (fl intL zs),Ob g (.cells #[.string sd,.slice lp ps.length lc,.slice rp gs.length rc,.slice xp xs.length xc,.slice yp ys.length yc] 66 (0,0)),Rw 27 2 lp ps.length lc (fl plL ps),Rw 39 1 rp gs.length rc (fl rowL gs),(Pool pl),Old w (fps [Ob g (.cells #[.string sd,.slice lp ps.length lc,.slice rp gs.length rc,.slice xp xs.length xc,.slice yp ys.length yc] 66 (0,0)),Rw 27 2 lp ps.length lc (fl plL ps),Rw 39 1 rp gs.length rc (fl rowL gs),(Pool pl)])]) (fun (i,sm,cn)=>ps.length - i) (0,0,0) ⟨rfl,rfl,rfl,rfl,rfl,rfl,rfl,rfl,trivial⟩ ⟨Nat.zero_le _,rfl,(H3.tk [0,1,2,3,4,5])⟩ ?_
  rintro ⟨i,sm,cn⟩ wq5 ⟨hi,hq,H6⟩
  refine g_wk [(0,_),(3,_),(4,_),(5,_),(6,_),(18,_),(19,_),(20,_)] ?_
  have hqb:=meanF_bd (ps:=ps) (f:=(fun j=>gotN (gs.map Rd.v) (j:Nat) ps.length)) (s:=s) (B:=200000000 * 9) (by decide) i (fun j _=>by have h9:=gotN_bd hG hgl (j:Nat) ps.length; omega); rw [← hq] at hqb; dsimp only at hqb
  refine w_s ?_
  refine w_b ?_
  refine w_e ?_
  refine g_seq ?_
  by_cases hb7:((i:Int):Int)<(ps.length:Int)
  ·
   refine g_ct hb7 ?_
   refine w_ht ?_
   refine g_seq ?_
   refine w_bs ?_
   refine w_m ?_
   refine w_v (v:=.pointer ((lp).map fun q=>q.add (i * 2))) (x_i i (H6.rr 2)) ?_
   obtain ⟨x8,hx8⟩:=(H6.rr 2).exL plE i
   refine w_v (v:=.agg #[.int .i64 (x8.st),.int .i64 (x8.rt)]) (x_loadRA (vs:=plL x8) i (H6.rr 2) (by omega) rfl rfl Tryz.underlying27 rfl sz27 (by rfl) (plE.flAt hx8)) ?_
   refine l_of (s_alloc H6 (wt0 rfl) rfl rfl rfl ze27 ?_)
   intro g9 wq10 H11
   refine w_a ?_
   refine l_of (w_st #[.int .i64 (x8.st),.int .i64 (x8.rt)] H11 0 ?_)
   intro wq12 H13
   refine w_es ?_
   refine w_f 0 ?_
   refine w_1 H13 0 ?_
   refine w_m ?_
   refine w_b ?_
   refine w_e ?_
   by_cases hb14:(x8.st:Int)=(s:Int)
   ·
    refine g_ct hb14 ?_
    refine w_s ?_
    refine w_r2 ?_
    refine l_of (s_cl (got_rr g sd lp lc ps rp rc gs xp xc xs yp yc ys pl hG hgl hnp (i:Int) ⟨by omega,by omega⟩ _ (H13.tk [2,4,5])) ?_)
    rintro _ wq15 ⟨rfl,H16⟩
    replace H16:S _ [_,_,_,_,_,_,_]:=H13.abI (new:=[_,_,_]) [2,4,5] H16 rfl
    have hgb9:=gotN_bd hG hgl (i:Int) ps.length
    refine b_ret rfl rfl ?_
    refine w_r5 ?_
    refine w_es ?_
    refine w_r2 ?_
    refine w_b (v:=.int .i64 (sm+(gotN (gs.map Rd.v) (i:Int) ps.length))) (hb:=(b_add (w64 (by omega)))) ?_
    refine w_a ?_
    refine w_er ?_
    refine w_m ?_
    refine w_b (v:=.int .i64 (cn+1)) (hb:=(b_add (w64 (by omega)))) ?_
    refine w_a ?_
    refine g_nil ?_
    refine g_in ?_
    refine g_then ?_
    refine g_region ?_
    refine w_b (v:=.int .i64 (((i+1:Nat):Int))) (hb:=(b_add (by rw [w64 (by omega)]; omega))) ?_
    refine w_m ?_
    refine w_e ?_
    refine g_rd (i:=(i,sm,cn)) ((i+1),(sm+gotN (gs.map Rd.v) (i:Int) ps.length),(cn+1)) ⟨by omega,(meanF_y hq hx8 hb14),(H16.tk [4,0,5,1,2,6])⟩
   ·
    refine g_cf hb14 ?_
    refine g_skip ?_
    refine g_in ?_
    refine g_then ?_
    refine g_region ?_
    refine w_b (v:=.int .i64 (((i+1:Nat):Int))) (hb:=(b_add (by rw [w64 (by omega)]; omega))) ?_
    refine w_m ?_
    refine w_e ?_
    refine g_rd (i:=(i,sm,cn)) ((i+1),sm,cn) ⟨by omega,(meanF_n hq hx8 hb14),(H13.tk [1,2,3,4,5,6])⟩
  ·
   refine g_cf hb7 ?_
   refine g_exit ?_
   iterate 2 refine g_then_exit ?_
   refine g_in_hit ?_
   refine g_then ?_
   refine w_s ?_
   refine w_r4 ?_
   refine w_1 H6 1 ?_
   refine w_v (v:=.int .i64 ((gs.length:Int))) x_q ?_
   have hie:i=ps.length:=by omega
   rw [hie] at hq
   have hmb9:=mulR_bd (a:=cn) (b:=(gs.length:Int)) (by omega) (by omega)
   obtain ⟨m9,hm9⟩:∃ m:Int,m=cn * (gs.length:Int):=⟨_,rfl⟩
   rw [← hm9] at hmb9
   refine w_v (v:=.int .i64 m9) (ex_cast (x_bin rfl rfl rfl (b_mul (r:=cn * (gs.length:Int)) (w64 (by rw [← hm9]; omega)))) (by rw [hm9])) ?_
   refine w_b ?_
   refine w_e ?_
   by_cases hb17:(m9:Int)=0
   ·
    refine g_ct hb17 ?_
    refine g_region ?_
    refine w_m ?_
    refine l_of (s_buildSlice H6 (wt0 rfl) rfl rfl rfl (vs:=[.int .i64 0]) rfl Tryz.underlying43 sz3 ze3 rfl rfl (cells:=#[.int .i64 0]) (by kernel_rfl) ?_)
    intro g18 wq19 H20
    have hln25a:=(H20.rr 1).lenL intE
    have hln25:(zs++[0]).length=zs.length+1:=by simp only [List.length_append,List.length_cons,List.length_nil] <;> omega
    refine l_of (s_appBn (m:=1) (l:=zs) (l2:=[0]) intE H20 1 (j0:=0) rfl rfl ⟨rfl,Nat.le_refl _⟩ (wt0 rfl) rfl rfl rfl rfl rfl rfl Tryz.underlying43 inf3 rfl (by decide) (by omega) ?_)
    intro p21 c22 wq23 H24
    refine w_a ?_
    refine g_nil ?_
    refine g_in ?_
    refine g_then ?_
    refine g_region ?_
    refine w_m ?_
    refine w_b (v:=.int .i64 (((s+1:Nat):Int))) (hb:=(b_add (by rw [w64 (by omega)]; omega))) ?_
    refine w_a ?_
    refine w_e ?_
    refine g_rd (i:=(s,pq,cq,zs)) ((s+1),p21,c22,(zs++[0])) ⟨(by omega),(by obtain ⟨k9,rfl⟩:∃ k,s=k+1:=⟨s - 1,by omega⟩; show _=(meansV ps (fun j=>gotN (gs.map Rd.v) (j:Nat) ps.length) (gs.length:Int) (k9+1)); rw [meansV_s]; exact congr (congrArg _ hz) (congrArg (fun z:Int=>[z]) (meanV_z hq (by rw [← hm9]; exact hb17)))),(H24.tk [1,2,3,4,5,6])⟩
   ·
    refine g_cf hb17 ?_
    refine g_region ?_
    refine w_r6 ?_
    refine w_1 H6 1 ?_
    refine w_v (v:=.int .i64 ((gs.length:Int))) x_q ?_
    refine w_v (v:=.int .i64 m9) (ex_cast (x_bin rfl rfl rfl (b_mul (r:=cn * (gs.length:Int)) (w64 (by rw [← hm9]; omega)))) (by rw [hm9])) ?_
    refine w_b (v:=.int .i64 (sm / m9)) (hb:=(b_quo (by omega) (quo64 (by omega)))) ?_
    refine l_of (s_buildSlice H6 (wt0 rfl) rfl rfl rfl (vs:=[.int .i64 (sm / m9)]) rfl Tryz.underlying43 sz3 ze3 rfl rfl (cells:=#[.int .i64 (sm / m9)]) (by kernel_rfl) ?_)
    intro g26 wq27 H28
    have hln33a:=(H28.rr 1).lenL intE
    have hln33:(zs++[sm / m9]).length=zs.length+1:=by simp only [List.length_append,List.length_cons,List.length_nil] <;> omega
    refine l_of (s_appBn (m:=1) (l:=zs) (l2:=[sm / m9]) intE H28 1 (j0:=0) rfl rfl ⟨rfl,Nat.le_refl _⟩ (wt0 rfl) rfl rfl rfl rfl rfl rfl Tryz.underlying43 inf3 rfl (by decide) (by omega) ?_)
    intro p29 c30 wq31 H32
    refine w_a ?_
    refine g_nil ?_
    refine g_in ?_
    refine g_then ?_
    refine g_region ?_
    refine w_m ?_
    refine w_b (v:=.int .i64 (((s+1:Nat):Int))) (hb:=(b_add (by rw [w64 (by omega)]; omega))) ?_
    refine w_a ?_
    refine w_e ?_
    refine g_rd (i:=(s,pq,cq,zs)) ((s+1),p29,c30,(zs++[sm / m9])) ⟨(by omega),(by obtain ⟨k9,rfl⟩:∃ k,s=k+1:=⟨s - 1,by omega⟩; show _=(meansV ps (fun j=>gotN (gs.map Rd.v) (j:Nat) ps.length) (gs.length:Int) (k9+1)); rw [meansV_s]; exact congr (congrArg _ hz) (congrArg (fun z:Int=>[z]) ((by rw [hm9]; exact meanV_q hq (by rw [← hm9]; exact hb17))))),(H32.tk [1,2,3,4,5,6])⟩
 ·
  refine g_cf hb4 ?_
  refine g_exit ?_
  iterate 2 refine g_then_exit ?_
  refine g_in_hit ?_
  refine g_then ?_
  refine w_s ?_
  refine w_r2 ?_
  refine w_e ?_
  refine g_ret ?_
  refine fin_r [.tmp 2] [.slice pq zs.length cq] ?_
  have hse:s=8:=by omega
  subst hse
  have hz7:zs=(meansV ps (fun j=>gotN (gs.map Rd.v) (j:Nat) ps.length) (gs.length:Int) 7):=hz
  rw [← hz7]
  exact ⟨_,_,rfl,H3.tk [0,1,2,3,4,5]⟩
theorem last_x0 (pl:List Rd) (X:GM) (hX:MOK pl X) (hgl:X.gs.length≤200) (n:Int) (hn:0≤n∧n<(X.ps.length:Int))  (w:World) (HS:S w [X.I,Pool pl]):Calls Tryz.prog 39 #[.pointer (some ⟨X.g,0,none⟩),.int .i64 n] w fun e w'=>∃ p' c',e=.returned (.tuple #[.slice p' (lstN (X.gs.map Rd.v) n X.ps.length).length c',.int .i64 0])∧S w' ([X.I,Rw 3 1 p' (lstN (X.gs.map Rd.v) n X.ps.length).length c' (fl intL (lstN (X.gs.map Rd.v) n X.ps.length)),Pool pl]++[Old w (fps [X.I,Pool pl])]):=by
 have H0:=HS.beginI
 replace H0:S w [Ob X.g (.cells #[.slice X.gp X.gs.length X.gc,.string (X.sd),.slice X.pp X.ps.length X.pc,.slice X.sp X.ss.length X.sc,.slice X.tp X.got.length X.tc,.slice X.vp X.gave.length X.vc,.slice X.bp X.bs.length X.bc] 61 (0,0)),Rw 39 1 X.gp X.gs.length X.gc (fl rowL X.gs),Rw 27 2 X.pp X.ps.length X.pc (fl plL X.ps),Rw 63 1 X.sp X.ss.length X.sc (fl sgL X.ss),Rw 3 1 X.tp X.got.length X.tc (fl intL X.got),Rw 3 1 X.vp X.gave.length X.vc (fl intL X.gave),Rw 43 1 X.bp X.bs.length X.bc (fl rowL X.bs),(Lst BwI X.bs),(Lst SgI X.ss),(Pool pl),Old w (fps [X.I,Pool pl])]:=S.unbig (L:=[_,_,_,_,_,_,_,_,_]) H0
 have hL:=hX.ok.lens
 have hn9:X.ps.length≤9:=hX.ok.n9
 have hG:=hX.gs
 have hak:askN X.ps.length [n]=0:=askN_0.2 (fun x hx=>by rw [List.mem_singleton.1 hx]; exact hn)
 refine enter 36 Tryz.func39 rfl rfl rfl ?_
 refine g_wk [(0,_),(1,_)] ?_
 refine w_s ?_
 refine w_r2 ?_
 refine w_e ?_
 refine g_seq ?_
 refine w_s ?_
 refine w_r2 ?_
 refine l_of (s_buildSlice H0 (wt0 rfl) rfl rfl rfl (vs:=[.int .i64 n]) rfl Tryz.underlying43 sz3 ze3 rfl rfl (cells:=#[.int .i64 n]) (by kernel_rfl) ?_)
 intro g1 wq2 H3
 have H4:S wq2 [Rw 3 1 (some ⟨g1,0,none⟩) 1 1 (fl intL ([n])),Ob X.g (.cells #[.slice X.gp X.gs.length X.gc,.string (X.sd),.slice X.pp X.ps.length X.pc,.slice X.sp X.ss.length X.sc,.slice X.tp X.got.length X.tc,.slice X.vp X.gave.length X.vc,.slice X.bp X.bs.length X.bc] 61 (0,0)),Rw 39 1 X.gp X.gs.length X.gc (fl rowL X.gs),Rw 27 2 X.pp X.ps.length X.pc (fl plL X.ps),Rw 63 1 X.sp X.ss.length X.sc (fl sgL X.ss),Rw 3 1 X.tp X.got.length X.tc (fl intL X.got),Rw 3 1 X.vp X.gave.length X.vc (fl intL X.gave),Rw 43 1 X.bp X.bs.length X.bc (fl rowL X.bs),(Lst BwI X.bs),(Lst SgI X.ss),(Pool pl),Old w (fps [X.I,Pool pl])]:=S.obFl intE H3 (k:=0) rfl rfl (by decide) rfl
 refine l_of (s_cl (asked_s X.g X.gp X.gc X.gs.length X.sd X.pp X.pc X.ps X.sp X.sc X.ss.length X.tp X.tc X.got.length X.vp X.vc X.gave.length X.bp X.bc X.bs.length [n] (some ⟨g1,0,none⟩) 1 (by simp) (by omega) _ (H4.tk [0,1])) ?_)
 rintro _ wq5 ⟨rfl,H6⟩
 replace H6:S _ [_,_,_,_,_,_,_,_,_,_,_,_]:=H4.abI (new:=[_,_]) [0,1] H6 rfl
 refine b_ret rfl rfl ?_
 refine w_a ?_
 refine w_es ?_
 refine w_m ?_
 refine w_b (v:=.bool (!decide (((askN X.ps.length [n]):Int)=0))) (hb:=b_neq) ?_
 refine w_e ?_
 refine g_nf hak ?_
 refine w_hs ?_
 have H7:S wq5 [Rw 3 1 none 0 0 (fl intL ([]:List Int)),Rw 3 1 (some ⟨g1,0,none⟩) 1 1 (fl intL ([n])),Ob X.g (.cells #[.slice X.gp X.gs.length X.gc,.string (X.sd),.slice X.pp X.ps.length X.pc,.slice X.sp X.ss.length X.sc,.slice X.tp X.got.length X.tc,.slice X.vp X.gave.length X.vc,.slice X.bp X.bs.length X.bc] 61 (0,0)),Rw 39 1 X.gp X.gs.length X.gc (fl rowL X.gs),Rw 27 2 X.pp X.ps.length X.pc (fl plL X.ps),Rw 63 1 X.sp X.ss.length X.sc (fl sgL X.ss),Rw 3 1 X.tp X.got.length X.tc (fl intL X.got),Rw 3 1 X.vp X.gave.length X.vc (fl intL X.gave),Rw 43 1 X.bp X.bs.length X.bc (fl rowL X.bs),(Lst BwI X.bs),(Lst SgI X.ss),(Pool pl),Old w (fps [X.I,Pool pl])]:=H6.nilFl 3 1 intL
 refine w_a ?_
 refine w_e ?_
 refine g_seq ?_
 refine w_s ?_
 refine w_r3 ?_
 refine w_1 H7 2 ?_
 refine w_v (v:=.int .i64 ((X.ps.length:Int))) x_q ?_
 refine w_m ?_
 refine w_e ?_
 refine g_block ?_
 refine g_loop (ι:=Nat × Option Addr × Nat × List Int) (fun (i,pq,cq,z9)=>[(0,.pointer (some ⟨X.g,0,none⟩)),(1,.int .i64 n),(7,.slice pq z9.length cq),(20,.int .i64 ((X.ps.length:Int))),(21,.int .i64 ((i:Int)))]) (fun (i,pq,cq,z9) wx=>(i≤X.ps.length)∧(z9=lstN (X.gs.map Rd.v) n i)∧S wx [Rw 3 1 pq z9.length cq (fl intL z9),Ob X.g (.cells #[.slice X.gp X.gs.length X.gc,.string (X.sd),.slice X.pp X.ps.length X.pc,.slice X.sp X.ss.length X.sc,.slice X.tp X.got.length X.tc,.slice X.vp X.gave.length X.vc,.slice X.bp X.bs.length X.bc] 61 (0,0)),Rw 39 1 X.gp X.gs.length X.gc (fl rowL X.gs),Rw 27 2 X.pp X.ps.length X.pc (fl plL X.ps),Rw 63 1 X.sp X.ss.length X.sc (fl sgL X.ss),Rw 3 1 X.tp X.got.length X.tc (fl intL X.got),Rw 3 1 X.vp X.gave.length X.vc (fl intL X.gave),Rw 43 1 X.bp X.bs.length X.bc (fl rowL X.bs),(Lst BwI X.bs),(Lst SgI X.ss),(Pool pl),Old w (fps [X.I,Pool pl])]) (fun (i,pq,cq,z9)=>X.ps.length - i) (0,none,0,[]) ⟨rfl,rfl,rfl,rfl,rfl,trivial⟩ ⟨(Nat.zero_le _),rfl,(H7.tk [0,2,3,4,5,6,7,8,9,10,11,12])⟩ ?_
 rintro ⟨i,pq,cq,z9⟩ wq8 ⟨hi,hz,H9⟩
 refine g_wk [(0,_),(1,_),(7,_),(20,_),(21,_)] ?_
 have hzl9:z9.length=i:=(by rw [hz]; exact lstN_len _ _ _)
 refine w_s ?_
 refine w_b ?_
 refine w_e ?_
 refine g_seq ?_
 by_cases hb10:((i:Int):Int)<(X.ps.length:Int)
 ·
  refine g_ct hb10 ?_
  refine w_ht ?_
  refine g_seq ?_
  refine w_bs ?_
  refine w_r2 ?_
  refine w_er ?_
  refine w_r4 ?_
  refine w_v (v:=.agg #[.slice X.gp X.gs.length X.gc]) (x_loadA H9 1 rfl rfl Tryz.underlying58 rfl sz58 rfl rfl rfl) ?_
  refine w_r2 ?_
  refine l_of (s_cl (tlast_s X.ps.length pl X.gs X.gp X.gc (by omega) hG hgl n (i:Int) hn ⟨by omega,by omega⟩ _ (H9.tk [2,10])) ?_)
  rintro _ wq11 ⟨rfl,H12⟩
  replace H12:S _ [_,_,_,_,_,_,_,_,_,_,_,_]:=H9.abI (new:=[_,_]) [2,10] H12 rfl
  have hlb9:=lastV_bd hG n (i:Int)
  refine b_ret rfl rfl ?_
  refine l_of (s_buildSlice H12 (wt0 rfl) rfl rfl rfl (vs:=[.int .i64 ((lastV (X.gs.map Rd.v) n (i:Int)))]) rfl Tryz.underlying43 sz3 ze3 rfl rfl (cells:=#[.int .i64 ((lastV (X.gs.map Rd.v) n (i:Int)))]) (by kernel_rfl) ?_)
  intro g13 wq14 H15
  have hln20a:=(H15.rr 3).lenL intE
  have hln20:(z9++[(lastV (X.gs.map Rd.v) n (i:Int))]).length=z9.length+1:=by simp only [List.length_append,List.length_cons,List.length_nil] <;> omega
  refine l_of (s_appBn (m:=1) (l:=z9) (l2:=[(lastV (X.gs.map Rd.v) n (i:Int))]) intE H15 3 (j0:=0) rfl rfl ⟨rfl,Nat.le_refl _⟩ (wt0 rfl) rfl rfl rfl rfl rfl rfl Tryz.underlying43 inf3 rfl (by decide) (by omega) ?_)
  intro p16 c17 wq18 H19
  refine w_a ?_
  refine g_nil ?_
  refine g_in ?_
  refine g_then ?_
  refine g_region ?_
  refine w_b (v:=.int .i64 (((i+1:Nat):Int))) (hb:=(b_add (by rw [w64 (by omega)]; omega))) ?_
  refine w_m ?_
  refine w_e ?_
  refine g_rd (i:=(i,pq,cq,z9)) ((i+1),p16,c17,(z9++[(lastV (X.gs.map Rd.v) n (i:Int))])) ⟨(by omega),(by rw [lstN_s,← hz]),(H19.tk [3,4,1,5,6,7,8,9,10,11,2,12])⟩
 ·
  refine g_cf hb10 ?_
  refine g_exit ?_
  iterate 2 refine g_then_exit ?_
  refine g_in_hit ?_
  refine g_then ?_
  refine w_s ?_
  refine w_r3 ?_
  refine w_e ?_
  refine g_ret ?_
  refine fin_r [.tmp 4,.tmp 5] [.slice pq z9.length cq,.int .i64 0] ?_
  have hie:i=X.ps.length:=by omega
  rw [hie] at hz
  rw [← hz]
  exact ⟨_,_,rfl,S.big (L:=[_,_,_,_,_,_,_,_,_]) (H9.tk [1,2,3,4,5,6,7,8,9,0,10,11])⟩
theorem last_x7 (pl:List Rd) (X:GM) (hX:MOK pl X) (hgl:X.gs.length≤200) (n:Int) (hn:¬ (0≤n∧n<(X.ps.length:Int)))  (w:World) (HS:S w [X.I,Pool pl]):Calls Tryz.prog 39 #[.pointer (some ⟨X.g,0,none⟩),.int .i64 n] w fun e w'=>e=.returned (.tuple #[.slice none 0 0,.int .i64 7])∧S w' ([X.I,Pool pl]++[Old w (fps [X.I,Pool pl])]):=by
 have H0:=HS.beginI
 replace H0:S _ [_,_,_,_,_,_,_,_,_,_,_]:=S.unbig (L:=[_,_,_,_,_,_,_,_,_]) H0
 have hL:=hX.ok.lens
 have hn9:X.ps.length≤9:=hX.ok.n9
 have hG:=hX.gs
 have hak:askN X.ps.length [n]=7:=askN_7 (x:=n) List.mem_cons_self hn
 refine enter 36 Tryz.func39 rfl rfl rfl ?_
 refine g_wk [(0,_),(1,_)] ?_
 refine w_s ?_
 refine w_k7 ?_
 refine l_of (s_b1 ze3 #[.int .i64 n] H0 ?_)
 intro g1 wq2 H3
 have H4:S wq2 [Rw 3 1 (some ⟨g1,0,none⟩) 1 1 (fl intL ([n])),Ob X.g (.cells #[.slice X.gp X.gs.length X.gc,.string (X.sd),.slice X.pp X.ps.length X.pc,.slice X.sp X.ss.length X.sc,.slice X.tp X.got.length X.tc,.slice X.vp X.gave.length X.vc,.slice X.bp X.bs.length X.bc] 61 (0,0)),Rw 39 1 X.gp X.gs.length X.gc (fl rowL X.gs),Rw 27 2 X.pp X.ps.length X.pc (fl plL X.ps),Rw 63 1 X.sp X.ss.length X.sc (fl sgL X.ss),Rw 3 1 X.tp X.got.length X.tc (fl intL X.got),Rw 3 1 X.vp X.gave.length X.vc (fl intL X.gave),Rw 43 1 X.bp X.bs.length X.bc (fl rowL X.bs),(Lst BwI X.bs),(Lst SgI X.ss),(Pool pl),Old w (fps [X.I,Pool pl])]:=S.obFl intE H3 (k:=0) rfl rfl (by decide) rfl
 refine l_of (s_cl (asked_s X.g X.gp X.gc X.gs.length X.sd X.pp X.pc X.ps X.sp X.sc X.ss.length X.tp X.tc X.got.length X.vp X.vc X.gave.length X.bp X.bc X.bs.length [n] (some ⟨g1,0,none⟩) 1 (by simp) (by omega) _ (H4.tk [0,1])) ?_)
 rintro _ wq5 ⟨rfl,H6⟩
 replace H6:S _ [_,_,_,_,_,_,_,_,_,_,_,_]:=H4.abI (new:=[_,_]) [0,1] H6 rfl
 refine b_ret rfl rfl ?_
 refine w_k4 ?_
 refine w_b (v:=.bool (!decide (((askN X.ps.length [n]):Int)=0))) (hb:=b_neq) ?_
 refine w_e ?_
 refine g_cond_t rfl (nt (by omega)) ?_
 refine w_k7 ?_
 refine fin_r [.tmp 4,.tmp 5] [.slice none 0 0,.int .i64 ((askN X.ps.length [n]))] ?_
 rw [hak]
 exact ⟨rfl,S.big (L:=[_,_,_,_,_,_,_,_,_]) (H6.tk [1,2,3,4,5,6,7,8,9,10,11])⟩
theorem means_map (ps:List Pl) (f:Nat→Int) (R:Int):mapK (fun (j:Nat) (_:Int)=>meanV ps f R ((j:Int)+1)) 7 (List.replicate 7 (0:Int))=meansV ps f R 7:=by
 apply List.ext_getElem?
 intro i
 rw [mapK_get]
 unfold meansV
 rw [List.getElem?_replicate,List.getElem?_map]
 by_cases h:i<7
 · rw [if_pos h,List.getElem?_range h]
   show some (if i<7 then meanV ps f R ((i:Int)+1) else 0)=some _
   rw [if_pos h]
 · rw [if_neg h,List.getElem?_eq_none (by rw [List.length_range]; omega)]; rfl
theorem means_x (pl:List Rd) (X:GM) (hX:MOK pl X) (hgl:X.gs.length≤100)  (w:World) (HS:S w [X.I]):Calls Tryz.prog 43 #[.pointer (some ⟨X.g,0,none⟩)] w fun e w'=>∃ p' c',e=.returned (.tuple #[.slice p' (meansV X.ps (fun j=>X.got.getD j 0) (X.gs.length:Int) 7).length c',.int .i64 0])∧S w' ([X.I,Rw 3 1 p' (meansV X.ps (fun j=>X.got.getD j 0) (X.gs.length:Int) 7).length c' (fl intL (meansV X.ps (fun j=>X.got.getD j 0) (X.gs.length:Int) 7))]++[Old w (fps [X.I])]):=by
 have H0:=HS.beginI
 replace H0:S w [Ob X.g (.cells #[.slice X.gp X.gs.length X.gc,.string (X.sd),.slice X.pp X.ps.length X.pc,.slice X.sp X.ss.length X.sc,.slice X.tp X.got.length X.tc,.slice X.vp X.gave.length X.vc,.slice X.bp X.bs.length X.bc] 61 (0,0)),Rw 39 1 X.gp X.gs.length X.gc (fl rowL X.gs),Rw 27 2 X.pp X.ps.length X.pc (fl plL X.ps),Rw 63 1 X.sp X.ss.length X.sc (fl sgL X.ss),Rw 3 1 X.tp X.got.length X.tc (fl intL X.got),Rw 3 1 X.vp X.gave.length X.vc (fl intL X.gave),Rw 43 1 X.bp X.bs.length X.bc (fl rowL X.bs),(Lst BwI X.bs),(Lst SgI X.ss),Old w (fps [X.I])]:=S.unbig (L:=[_,_,_,_,_,_,_,_,_]) H0
 have hL:=hX.ok.lens
 have hn9:X.ps.length≤9:=hX.ok.n9
 have hG:=hX.gs
 have hL3:=hL.2.2.1
 refine enter 64 Tryz.func43 rfl rfl rfl ?_
 refine g_wk [(0,_)] ?_
 refine w_s ?_
 refine w_r2 ?_
 refine w_e ?_
 refine g_seq ?_
 refine w_s ?_
 refine w_m ?_
 refine w_b (v:=.bool false) (hb:=(b_eqN (r:=false) Tryz.underlying29 rfl)) ?_
 refine w_e ?_
 refine g_cond_f rfl rfl ?_
 refine w_hs ?_
 refine l_of (s_make1 7 H0 (wt0 rfl) rfl rfl rfl rfl rfl Tryz.underlying43 inf3 rfl (by omega) ?_)
 intro g1 wq2 H3
 replace H3:S wq2 [Rw 3 1 (some ⟨g1,0,none⟩:Option Addr) 7 7 (fl intL (List.replicate 7 (0:Int))),Ob X.g (.cells #[.slice X.gp X.gs.length X.gc,.string (X.sd),.slice X.pp X.ps.length X.pc,.slice X.sp X.ss.length X.sc,.slice X.tp X.got.length X.tc,.slice X.vp X.gave.length X.vc,.slice X.bp X.bs.length X.bc] 61 (0,0)),Rw 39 1 X.gp X.gs.length X.gc (fl rowL X.gs),Rw 27 2 X.pp X.ps.length X.pc (fl plL X.ps),Rw 63 1 X.sp X.ss.length X.sc (fl sgL X.ss),Rw 3 1 X.tp X.got.length X.tc (fl intL X.got),Rw 3 1 X.vp X.gave.length X.vc (fl intL X.gave),Rw 43 1 X.bp X.bs.length X.bc (fl rowL X.bs),(Lst BwI X.bs),(Lst SgI X.ss),Old w (fps [X.I])]:=S.obFl (l:=(List.replicate 7 (0:Int))) intE H3 (k:=0) rfl (by rw [List.length_replicate]) (by unfold maxLen; omega) (zero_fl _)
 refine w_a ?_
 refine w_e ?_
 refine g_seq ?_
 refine w_s ?_
 refine w_m ?_
 refine w_v (v:=.int .i64 7) x_q ?_
 refine w_m ?_
 refine w_e ?_
 refine g_block ?_
 refine g_loop (ι:=Nat × List Int) (fun (s,zs)=>[(0,.pointer (some ⟨X.g,0,none⟩)),(4,.slice (some ⟨g1,0,none⟩:Option Addr) 7 7),(14,.int .i64 7),(15,.int .i64 ((s:Int)))]) (fun (s,zs) wx=>(s≤7)∧(zs=mapK (fun (j:Nat) (_:Int)=>meanV X.ps (fun j=>X.got.getD j 0) (X.gs.length:Int) ((j:Int)+1)) s (List.replicate 7 (0:Int)))∧S wx [Rw 3 1 (some ⟨g1,0,none⟩:Option Addr) 7 7 (fl intL zs),Ob X.g (.cells #[.slice X.gp X.gs.length X.gc,.string (X.sd),.slice X.pp X.ps.length X.pc,.slice X.sp X.ss.length X.sc,.slice X.tp X.got.length X.tc,.slice X.vp X.gave.length X.vc,.slice X.bp X.bs.length X.bc] 61 (0,0)),Rw 39 1 X.gp X.gs.length X.gc (fl rowL X.gs),Rw 27 2 X.pp X.ps.length X.pc (fl plL X.ps),Rw 63 1 X.sp X.ss.length X.sc (fl sgL X.ss),Rw 3 1 X.tp X.got.length X.tc (fl intL X.got),Rw 3 1 X.vp X.gave.length X.vc (fl intL X.gave),Rw 43 1 X.bp X.bs.length X.bc (fl rowL X.bs),(Lst BwI X.bs),(Lst SgI X.ss),Old w (fps [X.I])]) (fun (s,zs)=>7 - s) (0,(List.replicate 7 (0:Int))) ⟨rfl,rfl,rfl,rfl,trivial⟩ ⟨(by omega),mapK_zero.symm,(H3.tk [0,1,2,3,4,5,6,7,8,9,10])⟩ ?_
 rintro ⟨s,zs⟩ wq4 ⟨hs,hz,H5⟩
 refine g_wk [(0,_),(4,_),(14,_),(15,_)] ?_
 have hzl9:zs.length=7:=(by rw [hz,mapK_len]; rfl)
 refine w_s ?_
 refine w_b ?_
 refine w_e ?_
 refine g_seq ?_
 by_cases hb6:((s:Int):Int)<7
 ·
  refine g_ct hb6 ?_
  refine w_ht ?_
  refine g_seq ?_
  refine w_bs ?_
  refine w_r2 ?_
  refine w_es ?_
  have H7:S wq4 [Rw 3 1 none 0 0 (fl intL ([]:List Int)),Rw 3 1 (some ⟨g1,0,none⟩:Option Addr) 7 7 (fl intL zs),Ob X.g (.cells #[.slice X.gp X.gs.length X.gc,.string (X.sd),.slice X.pp X.ps.length X.pc,.slice X.sp X.ss.length X.sc,.slice X.tp X.got.length X.tc,.slice X.vp X.gave.length X.vc,.slice X.bp X.bs.length X.bc] 61 (0,0)),Rw 39 1 X.gp X.gs.length X.gc (fl rowL X.gs),Rw 27 2 X.pp X.ps.length X.pc (fl plL X.ps),Rw 63 1 X.sp X.ss.length X.sc (fl sgL X.ss),Rw 3 1 X.tp X.got.length X.tc (fl intL X.got),Rw 3 1 X.vp X.gave.length X.vc (fl intL X.gave),Rw 43 1 X.bp X.bs.length X.bc (fl rowL X.bs),(Lst BwI X.bs),(Lst SgI X.ss),Old w (fps [X.I])]:=H5.nilFl 3 1 intL
  refine w_a ?_
  refine w_e ?_
  refine g_seq ?_
  refine w_s ?_
  refine w_r3 ?_
  refine w_1 H7 2 ?_
  refine w_v (v:=.int .i64 ((X.ps.length:Int))) x_q ?_
  refine w_m ?_
  refine w_e ?_
  refine g_block ?_
  refine g_loop (ι:=Nat × Option Addr × Nat × List Int) (fun (i,pq,cq,ll)=>[(0,.pointer (some ⟨X.g,0,none⟩)),(4,.slice (some ⟨g1,0,none⟩:Option Addr) 7 7),(5,.int .i64 ((s:Int))),(6,.slice pq ll.length cq),(14,.int .i64 7),(15,.int .i64 ((s:Int))),(21,.slice X.pp X.ps.length X.pc),(22,.int .i64 ((X.ps.length:Int))),(23,.int .i64 ((i:Int)))]) (fun (i,pq,cq,ll) wx=>(i≤X.ps.length)∧((sumI ll,(ll.length:Int))=meanF X.ps (fun j=>X.got.getD j 0) ((s:Int)+1) i)∧(∀ y∈ll,0≤y∧y≤1000000000)∧S wx [Rw 3 1 pq ll.length cq (fl intL ll),Rw 3 1 (some ⟨g1,0,none⟩:Option Addr) 7 7 (fl intL zs),Ob X.g (.cells #[.slice X.gp X.gs.length X.gc,.string (X.sd),.slice X.pp X.ps.length X.pc,.slice X.sp X.ss.length X.sc,.slice X.tp X.got.length X.tc,.slice X.vp X.gave.length X.vc,.slice X.bp X.bs.length X.bc] 61 (0,0)),Rw 39 1 X.gp X.gs.length X.gc (fl rowL X.gs),Rw 27 2 X.pp X.ps.length X.pc (fl plL X.ps),Rw 63 1 X.sp X.ss.length X.sc (fl sgL X.ss),Rw 3 1 X.tp X.got.length X.tc (fl intL X.got),Rw 3 1 X.vp X.gave.length X.vc (fl intL X.gave),Rw 43 1 X.bp X.bs.length X.bc (fl rowL X.bs),(Lst BwI X.bs),(Lst SgI X.ss),Old w (fps [X.I])]) (fun (i,pq,cq,ll)=>X.ps.length - i) (0,none,0,[]) ⟨rfl,rfl,rfl,rfl,rfl,rfl,rfl,rfl,rfl,trivial⟩ ⟨Nat.zero_le _,rfl,(fun y hy=>absurd hy List.not_mem_nil),(H7.tk [0,1,2,3,4,5,6,7,8,9,10,11])⟩ ?_
  rintro ⟨i,pq,cq,ll⟩ wq8 ⟨hi,hq,hlb,H9⟩
  refine g_wk [(0,_),(4,_),(5,_),(6,_),(14,_),(15,_),(21,_),(22,_),(23,_)] ?_
  have hqb:=meanF_bd (ps:=X.ps) (f:=(fun j=>X.got.getD j 0)) (s:=(s:Int)+1) (B:=1000000000) (by decide) i (fun j _=>by have h9:=gotD_bd hX.ok j; rw [hX.gvl] at h9; exact ⟨h9.1,Int.le_trans h9.2 (by omega)⟩); rw [← hq] at hqb; dsimp only at hqb
  refine w_s ?_
  refine w_b ?_
  refine w_e ?_
  refine g_seq ?_
  by_cases hb10:((i:Int):Int)<(X.ps.length:Int)
  ·
   refine g_ct hb10 ?_
   refine w_ht ?_
   refine g_seq ?_
   refine w_bs ?_
   refine w_m ?_
   refine w_v (v:=.pointer ((X.pp).map fun q=>q.add (i * 2))) (x_i i (H9.rr 4)) ?_
   obtain ⟨x11,hx11⟩:=(H9.rr 4).exL plE i
   refine w_v (v:=.agg #[.int .i64 (x11.st),.int .i64 (x11.rt)]) (x_loadRA (vs:=plL x11) i (H9.rr 4) (by omega) rfl rfl Tryz.underlying27 rfl sz27 (by rfl) (plE.flAt hx11)) ?_
   refine l_of (s_alloc H9 (wt0 rfl) rfl rfl rfl ze27 ?_)
   intro g12 wq13 H14
   refine w_a ?_
   refine l_of (w_st #[.int .i64 (x11.st),.int .i64 (x11.rt)] H14 0 ?_)
   intro wq15 H16
   refine w_es ?_
   refine w_f 0 ?_
   refine w_1 H16 0 ?_
   refine w_m ?_
   refine w_b (v:=.int .i64 ((s:Int)+1)) (hb:=(b_add (w64 (by omega)))) ?_
   refine w_b ?_
   refine w_e ?_
   by_cases hb17:(x11.st:Int)=(s:Int)+1
   ·
    refine g_ct hb17 ?_
    refine g_region ?_
    refine w_r4 ?_
    refine w_1 H16 3 ?_
    refine w_m ?_
    refine w_v (v:=.pointer ((X.tp).map fun q=>q.add (i * 1))) (x_i i (H16.rr 7)) ?_
    obtain ⟨x18,hx18⟩:=(H16.rr 7).exL intE i
    have hgx9:=hX.ok.gt.2.at (show X.A.got[i]?=some x18 from hx18)
    rw [hX.gvl] at hgx9
    refine w_v (v:=.int .i64 x18) (x_r i (H16.rr 7) (intE.flAt1 hx18 rfl)) ?_
    refine l_of (s_buildSlice H16 (wt0 rfl) rfl rfl rfl (vs:=[.int .i64 x18]) rfl Tryz.underlying43 sz3 ze3 rfl rfl (cells:=#[.int .i64 x18]) (by kernel_rfl) ?_)
    intro g19 wq20 H21
    have hln26a:=(H21.rr 2).lenL intE
    have hln26:(ll++[x18]).length=ll.length+1:=by simp only [List.length_append,List.length_cons,List.length_nil] <;> omega
    refine l_of (s_appBn (m:=1) (l:=ll) (l2:=[x18]) intE H21 2 (j0:=0) rfl rfl ⟨rfl,Nat.le_refl _⟩ (wt0 rfl) rfl rfl rfl rfl rfl rfl Tryz.underlying43 inf3 rfl (by decide) (by omega) ?_)
    intro p22 c23 wq24 H25
    refine w_a ?_
    refine g_nil ?_
    refine g_in ?_
    refine g_then ?_
    refine g_region ?_
    refine w_b (v:=.int .i64 (((i+1:Nat):Int))) (hb:=(b_add (by rw [w64 (by omega)]; omega))) ?_
    refine w_m ?_
    refine w_e ?_
    refine g_rd (i:=(i,pq,cq,ll)) ((i+1),p22,c23,(ll++[x18])) ⟨by omega,(by rw [sumI_snoc,List.length_append,List.length_singleton,← getD_atT (d:=0) hx18]; exact meanF_y hq hx11 hb17),(fun y hy=>by rcases List.mem_append.1 hy with hy | hy; exact hlb y hy; rw [List.mem_singleton.1 hy]; omega),(H25.tk [2,3,4,5,6,7,8,9,10,11,12,13])⟩
   ·
    refine g_cf hb17 ?_
    refine g_skip ?_
    refine g_in ?_
    refine g_then ?_
    refine g_region ?_
    refine w_b (v:=.int .i64 (((i+1:Nat):Int))) (hb:=(b_add (by rw [w64 (by omega)]; omega))) ?_
    refine w_m ?_
    refine w_e ?_
    refine g_rd (i:=(i,pq,cq,ll)) ((i+1),pq,cq,ll) ⟨by omega,(meanF_n hq hx11 hb17),hlb,(H16.tk [1,2,3,4,5,6,7,8,9,10,11,12])⟩
  ·
   refine g_cf hb10 ?_
   refine g_exit ?_
   iterate 2 refine g_then_exit ?_
   refine g_in_hit ?_
   refine g_then ?_
   refine w_s ?_
   refine w_m ?_
   refine w_v (v:=.int .i64 ((ll.length:Int))) x_q ?_
   refine w_r4 ?_
   refine w_1 H9 2 ?_
   refine w_v (v:=.int .i64 ((X.gs.length:Int))) x_q ?_
   have hie:i=X.ps.length:=by omega
   rw [hie] at hq
   have hmb9:=mulR_bd (a:=(ll.length:Int)) (b:=(X.gs.length:Int)) (by omega) (by omega)
   obtain ⟨m9,hm9⟩:∃ m:Int,m=((ll.length:Int) * (X.gs.length:Int)):=⟨_,rfl⟩
   rw [← hm9] at hmb9
   refine w_v (v:=.int .i64 m9) (ex_cast (x_bin rfl rfl rfl (b_mul (r:=((ll.length:Int) * (X.gs.length:Int))) (w64 (by rw [← hm9]; omega)))) (by rw [hm9])) ?_
   refine w_a ?_
   refine w_es ?_
   refine w_m ?_
   refine w_b ?_
   refine w_e ?_
   by_cases hb27:(0:Int)<m9
   ·
    refine g_ct hb27 ?_
    refine g_region ?_
    refine w_r3 ?_
    refine l_of (s_call0 H9 (wt0 rfl) (x_call' rfl rfl cl31) (tsum_s ll pq ll.length cq hlb (by omega) _ (H9.rr 0)) rfl rfl ?_)
    intro wq28 H29
    refine w_m ?_
    refine w_b (v:=.int .i64 ((sumI ll) / m9)) (hb:=(b_quo (by omega) (quo64 (by omega)))) ?_
    refine w_v (v:=.pointer (((some ⟨g1,0,none⟩:Option Addr)).map fun q=>q.add (s * 1))) (x_i s (H29.rr 1)) ?_
    refine l_of (s_stoL (j:=s) intE ((sumI ll) / m9) H29 1 (wt0 rfl) rfl rfl rfl rfl rfl rfl sz3 (by omega) ?_)
    intro wq30 H31
    refine g_nil ?_
    refine g_in ?_
    refine g_then ?_
    refine g_region ?_
    refine w_b (v:=.int .i64 (((s+1:Nat):Int))) (hb:=(b_add (by rw [w64 (by omega)]; omega))) ?_
    refine w_m ?_
    refine w_e ?_
    refine g_rd (i:=(s,zs)) ((s+1),(zs.set s ((sumI ll) / m9))) ⟨(by omega),(by exact mk_set hz (by rw [List.getElem?_replicate,if_pos (show s<7 by omega)]) ((meanV_q hq (by rw [← hm9]; omega)).symm.trans (by rw [hm9]))),(H31.tk [1,2,3,4,5,6,7,8,9,10,11])⟩
   ·
    refine g_cf hb27 ?_
    refine g_skip ?_
    refine g_in ?_
    refine g_then ?_
    refine g_region ?_
    refine w_b (v:=.int .i64 (((s+1:Nat):Int))) (hb:=(b_add (by rw [w64 (by omega)]; omega))) ?_
    refine w_m ?_
    refine w_e ?_
    refine g_rd (i:=(s,zs)) ((s+1),zs) ⟨(by omega),(by exact mk_skip hz (by rw [List.getElem?_replicate,if_pos (show s<7 by omega)]) (meanV_z hq (by rw [← hm9]; omega)).symm),(H9.tk [1,2,3,4,5,6,7,8,9,10,11])⟩
 ·
  refine g_cf hb6 ?_
  refine g_exit ?_
  iterate 2 refine g_then_exit ?_
  refine g_in_hit ?_
  refine g_then ?_
  refine w_s ?_
  refine w_r3 ?_
  refine w_e ?_
  refine g_ret ?_
  refine fin_r [.tmp 2,.tmp 3] [.slice (some ⟨g1,0,none⟩:Option Addr) 7 7,.int .i64 0] ?_
  have hse:s=7:=by omega
  rw [hse,means_map] at hz
  rw [← hz,hzl9]
  exact ⟨_,_,rfl,S.big (L:=[_,_,_,_,_,_,_,_,_]) (H5.tk [1,2,3,4,5,6,7,8,9,0,10])⟩
theorem change_x1 (pl:List Rd) (X:GM) (hX:MOK pl X) (n st rt:Int) (hv:valP (⟨st,rt⟩:Pl)=false)  (w:World) (HS:S w [X.I]):Calls Tryz.prog 11 #[.pointer (some ⟨X.g,0,none⟩),.int .i64 n,.agg #[.int .i64 st,.int .i64 rt]] w fun e w'=>e=.returned (.int .i64 1)∧S w' ([X.I]++[Old w (fps [X.I])]):=by
 have H0:=HS.beginI
 replace H0:S _ [_,_,_,_,_,_,_,_,_,_]:=S.unbig (L:=[_,_,_,_,_,_,_,_,_]) H0
 refine enter 38 Tryz.func11 rfl rfl rfl ?_
 refine g_wk [(0,_),(1,_),(2,_)] ?_
 refine w_s ?_
 refine l_of (s_box H0 (wt0 rfl) rfl rfl rfl rfl ?_)
 intro g1 wq2 H3
 refine w_k5 ?_
 refine w_b (v:=.bool false) (hb:=(b_eqN (r:=false) Tryz.underlying29 rfl)) ?_
 refine w_m ?_
 refine w_g (v:=.agg #[.int .i64 st,.int .i64 rt]) rfl (x_loadA H3 0 rfl rfl Tryz.underlying27 rfl sz27 rfl rfl rfl) ?_
 refine l_of (s_call0 H3 (wt1 rfl rfl rfl rfl rfl) (x_call' rfl rfl cl7) (valid_p (⟨st,rt⟩:Pl) _) rfl rfl ?_)
 intro wq4 H5
 refine w_g rfl (x_not (b:=(valP (⟨st,rt⟩:Pl))) rfl rfl) ?_
 refine w_v (x_pick_f rfl rfl rfl rfl) ?_
 refine w_e ?_
 refine g_cond_t rfl (neg_of hv) ?_
 refine w_k5 ?_
 refine fin_r [.tmp 6] [.int .i64 1] ?_
 exact ⟨rfl,S.big (L:=[_,_,_,_,_,_,_,_,_]) (H5.tk [1,2,3,4,5,6,7,8,9,10])⟩
theorem change_x7 (pl:List Rd) (X:GM) (hX:MOK pl X) (n st rt:Int) (hv:valP (⟨st,rt⟩:Pl)=true) (hn:¬ (0≤n∧n<(X.ps.length:Int)))  (w:World) (HS:S w [X.I]):Calls Tryz.prog 11 #[.pointer (some ⟨X.g,0,none⟩),.int .i64 n,.agg #[.int .i64 st,.int .i64 rt]] w fun e w'=>e=.returned (.int .i64 7)∧S w' ([X.I]++[Old w (fps [X.I])]):=by
 have H0:=HS.beginI
 replace H0:S _ [_,_,_,_,_,_,_,_,_,_]:=S.unbig (L:=[_,_,_,_,_,_,_,_,_]) H0
 have hL:=hX.ok.lens
 have hn9:X.ps.length≤9:=hX.ok.n9
 have hG:=hX.gs
 have hak:askN X.ps.length [n]=7:=askN_7 (x:=n) List.mem_cons_self hn
 refine enter 38 Tryz.func11 rfl rfl rfl ?_
 refine g_wk [(0,_),(1,_),(2,_)] ?_
 refine w_s ?_
 refine l_of (s_box H0 (wt0 rfl) rfl rfl rfl rfl ?_)
 intro g1 wq2 H3
 refine w_k5 ?_
 refine w_b (v:=.bool false) (hb:=(b_eqN (r:=false) Tryz.underlying29 rfl)) ?_
 refine w_m ?_
 refine w_g (v:=.agg #[.int .i64 st,.int .i64 rt]) rfl (x_loadA H3 0 rfl rfl Tryz.underlying27 rfl sz27 rfl rfl rfl) ?_
 refine l_of (s_call0 H3 (wt1 rfl rfl rfl rfl rfl) (x_call' rfl rfl cl7) (valid_p (⟨st,rt⟩:Pl) _) rfl rfl ?_)
 intro wq4 H5
 refine w_g rfl (x_not (b:=(valP (⟨st,rt⟩:Pl))) rfl rfl) ?_
 refine w_v (x_pick_f rfl rfl rfl rfl) ?_
 refine w_e ?_
 refine g_cond_f rfl (neg_of hv) ?_
 refine w_k6 ?_
 refine l_of (s_b1 ze3 #[.int .i64 n] H5 ?_)
 intro g6 wq7 H8
 have H9:S wq7 [Rw 3 1 (some ⟨g6,0,none⟩) 1 1 (fl intL ([n])),Ob g1 (.cells #[.int .i64 st,.int .i64 rt] 27 (0,0)),Ob X.g (.cells #[.slice X.gp X.gs.length X.gc,.string (X.sd),.slice X.pp X.ps.length X.pc,.slice X.sp X.ss.length X.sc,.slice X.tp X.got.length X.tc,.slice X.vp X.gave.length X.vc,.slice X.bp X.bs.length X.bc] 61 (0,0)),Rw 39 1 X.gp X.gs.length X.gc (fl rowL X.gs),Rw 27 2 X.pp X.ps.length X.pc (fl plL X.ps),Rw 63 1 X.sp X.ss.length X.sc (fl sgL X.ss),Rw 3 1 X.tp X.got.length X.tc (fl intL X.got),Rw 3 1 X.vp X.gave.length X.vc (fl intL X.gave),Rw 43 1 X.bp X.bs.length X.bc (fl rowL X.bs),(Lst BwI X.bs),(Lst SgI X.ss),Old w (fps [X.I])]:=S.obFl intE H8 (k:=0) rfl rfl (by decide) rfl
 refine l_of (s_cl (asked_s X.g X.gp X.gc X.gs.length X.sd X.pp X.pc X.ps X.sp X.sc X.ss.length X.tp X.tc X.got.length X.vp X.vc X.gave.length X.bp X.bc X.bs.length [n] (some ⟨g6,0,none⟩) 1 (by simp) (by omega) _ (H9.tk [0,2])) ?_)
 rintro _ wq10 ⟨rfl,H11⟩
 replace H11:S _ [_,_,_,_,_,_,_,_,_,_,_,_]:=H9.abI (new:=[_,_]) [0,2] H11 rfl
 refine b_ret rfl rfl ?_
 refine w_k4 ?_
 refine w_b (v:=.bool (!decide (((askN X.ps.length [n]):Int)=0))) (hb:=b_neq) ?_
 refine w_e ?_
 refine g_cond_t rfl (nt (by omega)) ?_
 refine w_k6 ?_
 refine fin_r [.tmp 6] [.int .i64 ((askN X.ps.length [n]))] ?_
 rw [hak]
 exact ⟨rfl,S.big (L:=[_,_,_,_,_,_,_,_,_]) (H11.tk [1,3,4,5,6,7,8,9,10,11])⟩
theorem meanF_congr {ps:List Pl} {f g:Nat→Int} {s:Int}:∀ k,(∀ j,j<k→f j=g j)→meanF ps f s k=meanF ps g s k
 | 0,_=>rfl
 | k+1,h=>by
   show (if stA ps k=s then ((meanF ps f s k).1+f k,(meanF ps f s k).2+1) else meanF ps f s k)=(if stA ps k=s then ((meanF ps g s k).1+g k,(meanF ps g s k).2+1) else meanF ps g s k)
   rw [meanF_congr k fun j hj=>h j (by omega),h k (by omega)]
theorem meansV_congr {ps:List Pl} {f g:Nat→Int} {R:Int} {k:Nat} (h:∀ j,j<ps.length→f j=g j):meansV ps f R k=meansV ps g R k:=by
 unfold meansV
 refine List.map_congr_left fun j _=>?_
 unfold meanV
 rw [meanF_congr ps.length h]
def gotT (A:GA) (i:Int):Int:=if askN A.ps.length [i]=0 then A.got.getD i.toNat 0 else 0
def gaveT (A:GA) (i:Int):Int:=if askN A.ps.length [i]=0 then A.gave.getD i.toNat 0 else 0
def btwT (A:GA) (a b:Int):Int:=if askN A.ps.length [a,b]=0 then at2 A.bw a b else 0
def lastT (A:GA) (i:Int):List Int:=if askN A.ps.length [i]=0 then lstN A.gv i A.ps.length else []
def meansT (A:GA):List Int:=meansV A.ps (fun j=>A.got.getD j 0) (A.gv.length:Int) 7
theorem ask1 {n:Nat} {i:Int} (h:0≤i∧i<(n:Int)):askN n [i]=0:=askN_0.2 fun x hx=>by rw [List.mem_singleton.1 hx]; exact h
theorem ask1n {n:Nat} {i:Int} (h:¬ (0≤i∧i<(n:Int))):askN n [i]=7:=askN_7 List.mem_cons_self h
theorem ask2 {n:Nat} {a b:Int} (h:0≤a∧a<(n:Int)) (h2:0≤b∧b<(n:Int)):askN n [a,b]=0:=askN_0.2 fun x hx=>by
 rcases List.mem_cons.1 hx with rfl | hx
 · exact h
 · rw [List.mem_singleton.1 hx]; exact h2
section
variable {pl pl':List Rd} {A:GA} {Y:GR} {X:GM} {w:World} {g0:Nat}
theorem last_q (hX:MOK pl X) (hgl:X.gs.length≤200) (hg:X.g=g0) (i:Int) (HS:S w [X.I,Pool pl]):Calls Tryz.prog 39 #[.pointer (some ⟨g0,0,none⟩),.int .i64 i] w fun e w'=>∃ p' c',e=.returned (.tuple #[.slice p' (lastT X.A i).length c',.int .i64 (askN X.A.ps.length [i])])∧S w' ([X.I,Rw 3 1 p' (lastT X.A i).length c' (fl intL (lastT X.A i)),Pool pl]++[Old w (fps [X.I,Pool pl])]):=by
 subst hg
 unfold lastT
 by_cases h:0≤i∧i<(X.A.ps.length:Int)
 · rw [ask1 h,if_pos rfl]
   exact last_x0 pl X hX hgl i h w HS
 · rw [ask1n h,if_neg (by decide)]
   refine (last_x7 pl X hX hgl i h w HS).mono ?_
   rintro e w' ⟨rfl,H⟩
   exact ⟨none,0,rfl,(H.nilFl 3 1 intL).takes [1,0,2,3] (by decide)⟩
theorem means_q (hX:MOK pl X) (hgl:X.gs.length≤100) (hg:X.g=g0) (HS:S w [X.I]):Calls Tryz.prog 43 #[.pointer (some ⟨g0,0,none⟩)] w fun e w'=>∃ p' c',e=.returned (.tuple #[.slice p' (meansT X.A).length c',.int .i64 0])∧S w' ([X.I,Rw 3 1 p' (meansT X.A).length c' (fl intL (meansT X.A))]++[Old w (fps [X.I])]):=by
 subst hg
 unfold meansT
 rw [hX.gvl]
 exact means_x pl X hX hgl w HS
theorem change_q (hX:MOK pl X) (hg:X.g=g0) (n st rt:Int) (HS:S w [X.I]):Calls Tryz.prog 11 #[.pointer (some ⟨g0,0,none⟩),.int .i64 n,.agg #[.int .i64 st,.int .i64 rt]] w fun e w'=>∃ X':GM,e=.returned (.int .i64 (chE X.A.ps.length n ⟨st,rt⟩))∧X'.A=(if chE X.A.ps.length n ⟨st,rt⟩=0 then chA X.A n.toNat ⟨st,rt⟩ else X.A)∧MOK pl X'∧X'.g=g0∧X'.gs.length=X.gs.length∧S w' ([X'.I]++[Old w (fps [X.I])]):=by
 cases hv:valP ⟨st,rt⟩ with
 | false =>
   have hc:chE X.A.ps.length n ⟨st,rt⟩=1:=if_pos hv
   rw [hc,if_neg (by decide)]
   subst hg
   refine (change_x1 pl X hX n st rt hv w HS).mono ?_
   rintro e w' ⟨rfl,H⟩
   exact ⟨X,rfl,rfl,hX,rfl,rfl,H⟩
 | true =>
   by_cases hn:0≤n∧n<(X.A.ps.length:Int)
   · have hc:chE X.A.ps.length n ⟨st,rt⟩=0:=by unfold chE; rw [if_neg (by rw [hv]; decide),if_neg (fun h9=>h9 hn)]
     rw [hc,if_pos rfl]
     refine (change_g hX hg n hn st rt (valP_bd hv) HS).mono ?_
     rintro e w' ⟨X',rfl,hA,hg2,hl,hM,H⟩
     exact ⟨X',rfl,hA,hM,hg2,hl,H⟩
   · have hc:chE X.A.ps.length n ⟨st,rt⟩=7:=by unfold chE; rw [if_neg (by rw [hv]; decide),if_pos hn]
     rw [hc,if_neg (by decide)]
     subst hg
     refine (change_x7 pl X hX n st rt hv hn w HS).mono ?_
     rintro e w' ⟨rfl,H⟩
     exact ⟨X,rfl,rfl,hX,rfl,rfl,H⟩
theorem got_t (hA:GOK A) (h:ROK pl A Y) {i:Int} (hi:0≤i∧i<(A.ps.length:Int)):gotN (Y.gs.map Rd.v) i Y.ps.length=gotT A i:=by
 unfold gotT
 rw [ask1 hi,if_pos rfl,h.gv,h.ps,(h.rel.tot i.toNat (by omega)).1,show ((i.toNat:Nat):Int)=i by omega]
theorem gave_t (hA:GOK A) (h:ROK pl A Y) {i:Int} (hi:0≤i∧i<(A.ps.length:Int)):gaveN (Y.gs.map Rd.v) i Y.ps.length=gaveT A i:=by
 unfold gaveT
 rw [ask1 hi,if_pos rfl,h.gv,h.ps,(h.rel.tot i.toNat (by omega)).2,show ((i.toNat:Nat):Int)=i by omega]
theorem gotr_q (hA:GOK A) (h:ROK pl A Y) (hgl:Y.gs.length≤200) (hg:Y.g=g0) (i:Int) (HS:S w [Y.I,Pool pl]):Calls Tryz.prog 36 #[.pointer (some ⟨g0,0,none⟩),.int .i64 i] w fun e w'=>e=.returned (.tuple #[.int .i64 (gotT A i),.int .i64 (askN A.ps.length [i])])∧S w' ([Y.I,Pool pl]++[Old w (fps [Y.I,Pool pl])]):=by
 subst hg
 have H:=HS.beginI
 have H1:=S.unbig (L:=[_,_,_,_,_,_,_]) H
 have hps:=h.ps
 have hn9:Y.ps.length≤9:=by rw [hps]; exact hA.n9
 by_cases hi:0≤i∧i<(A.ps.length:Int)
 · rw [ask1 hi,← got_t hA h hi]
   refine (got_rr Y.g Y.sd Y.lp Y.lc Y.ps Y.rp Y.rc Y.gs Y.xp Y.xc Y.xs Y.yp Y.yc Y.ys pl (h.gs hA) hgl hn9 i (by rw [hps]; exact hi) w (H1.takes [0,2,7] (by decide))).mono ?_
   rintro e w' ⟨rfl,H2⟩
   have H3:=H1.absorbI (new:=[_,_,_]) [0,2,7] H2
   exact ⟨rfl,S.big (L:=[_,_,_,_,_,_,_]) (H3.takes [0,3,1,4,5,6,7,2,8] (by decide))⟩
 · have e0:gotT A i=0:=by unfold gotT; rw [ask1n hi,if_neg (by decide)]
   rw [ask1n hi,e0]
   refine (got_r7 Y.g Y.sd Y.lp Y.lc Y.ps Y.rp Y.rc Y.gs Y.xp Y.xc Y.xs Y.yp Y.yc Y.ys pl (h.gs hA) hgl hn9 (by rw [hps]; exact hA.n2) i (by rw [hps]; exact hi) w (H1.takes [0,2,7] (by decide))).mono ?_
   rintro e w' ⟨rfl,H2⟩
   have H3:=H1.absorbI (new:=[_,_,_]) [0,2,7] H2
   exact ⟨rfl,S.big (L:=[_,_,_,_,_,_,_]) (H3.takes [0,3,1,4,5,6,7,2,8] (by decide))⟩
theorem gaver_q (hA:GOK A) (h:ROK pl A Y) (hgl:Y.gs.length≤200) (hg:Y.g=g0) (i:Int) (HS:S w [Y.I,Pool pl]):Calls Tryz.prog 38 #[.pointer (some ⟨g0,0,none⟩),.int .i64 i] w fun e w'=>e=.returned (.tuple #[.int .i64 (gaveT A i),.int .i64 (askN A.ps.length [i])])∧S w' ([Y.I,Pool pl]++[Old w (fps [Y.I,Pool pl])]):=by
 subst hg
 have H:=HS.beginI
 have H1:=S.unbig (L:=[_,_,_,_,_,_,_]) H
 have hps:=h.ps
 have hn9:Y.ps.length≤9:=by rw [hps]; exact hA.n9
 by_cases hi:0≤i∧i<(A.ps.length:Int)
 · rw [ask1 hi,← gave_t hA h hi]
   refine (gave_rr Y.g Y.sd Y.lp Y.lc Y.ps Y.rp Y.rc Y.gs Y.xp Y.xc Y.xs Y.yp Y.yc Y.ys pl (h.gs hA) hgl hn9 i (by rw [hps]; exact hi) w (H1.takes [0,2,7] (by decide))).mono ?_
   rintro e w' ⟨rfl,H2⟩
   have H3:=H1.absorbI (new:=[_,_,_]) [0,2,7] H2
   exact ⟨rfl,S.big (L:=[_,_,_,_,_,_,_]) (H3.takes [0,3,1,4,5,6,7,2,8] (by decide))⟩
 · have e0:gaveT A i=0:=by unfold gaveT; rw [ask1n hi,if_neg (by decide)]
   rw [ask1n hi,e0]
   refine (gave_r7 Y.g Y.sd Y.lp Y.lc Y.ps Y.rp Y.rc Y.gs Y.xp Y.xc Y.xs Y.yp Y.yc Y.ys pl (h.gs hA) hgl hn9 (by rw [hps]; exact hA.n2) i (by rw [hps]; exact hi) w (H1.takes [0,2,7] (by decide))).mono ?_
   rintro e w' ⟨rfl,H2⟩
   have H3:=H1.absorbI (new:=[_,_,_]) [0,2,7] H2
   exact ⟨rfl,S.big (L:=[_,_,_,_,_,_,_]) (H3.takes [0,3,1,4,5,6,7,2,8] (by decide))⟩
theorem lastr_q (hA:GOK A) (h:ROK pl A Y) (hgl:Y.gs.length≤200) (hg:Y.g=g0) (i:Int) (HS:S w [Y.I,Pool pl]):Calls Tryz.prog 40 #[.pointer (some ⟨g0,0,none⟩),.int .i64 i] w fun e w'=>∃ p' c',e=.returned (.tuple #[.slice p' (lastT A i).length c',.int .i64 (askN A.ps.length [i])])∧S w' ([Y.I,Rw 3 1 p' (lastT A i).length c' (fl intL (lastT A i)),Pool pl]++[Old w (fps [Y.I,Pool pl])]):=by
 subst hg
 have H:=HS.beginI
 have H1:=S.unbig (L:=[_,_,_,_,_,_,_]) H
 have hps:=h.ps
 have hn9:Y.ps.length≤9:=by rw [hps]; exact hA.n9
 unfold lastT
 by_cases hi:0≤i∧i<(A.ps.length:Int)
 · rw [ask1 hi,if_pos rfl,← h.gv,← hps]
   refine (last_rr Y.g Y.sd Y.lp Y.lc Y.ps Y.rp Y.rc Y.gs Y.xp Y.xc Y.xs Y.yp Y.yc Y.ys pl (h.gs hA) hgl hn9 i (by rw [hps]; exact hi) w (H1.takes [0,2,7] (by decide))).mono ?_
   rintro e w' ⟨p',c',rfl,H2⟩
   have H3:=H1.absorbI (new:=[_,_,_,_]) [0,2,7] H2
   exact ⟨p',c',rfl,S.big (L:=[_,_,_,_,_,_,_]) (H3.takes [1,4,2,5,6,7,8,0,3,9] (by decide))⟩
 · rw [ask1n hi,if_neg (by decide)]
   refine (last_r7 Y.g Y.sd Y.lp Y.lc Y.ps Y.rp Y.rc Y.gs Y.xp Y.xc Y.xs Y.yp Y.yc Y.ys pl (h.gs hA) hgl hn9 i (by rw [hps]; exact hi) w (H1.takes [0,2,7] (by decide))).mono ?_
   rintro e w' ⟨rfl,H2⟩
   have H3:=(H1.absorbI (new:=[_,_,_]) [0,2,7] H2).nilFl 3 1 intL
   exact ⟨none,0,rfl,S.big (L:=[_,_,_,_,_,_,_]) (H3.takes [1,4,2,5,6,7,8,0,3,9] (by decide))⟩
theorem betweenr_q (hA:GOK A) (h:ROK pl A Y) (hgl:Y.gs.length≤200) (hg:Y.g=g0) (a b:Int) (HS:S w [Y.I,Pool pl]):Calls Tryz.prog 42 #[.pointer (some ⟨g0,0,none⟩),.int .i64 a,.int .i64 b] w fun e w'=>e=.returned (.tuple #[.int .i64 (btwT A a b),.int .i64 (askN A.ps.length [a,b])])∧S w' ([Y.I,Pool pl]++[Old w (fps [Y.I,Pool pl])]):=by
 subst hg
 have H:=HS.beginI
 have H1:=S.unbig (L:=[_,_,_,_,_,_,_]) H
 have hps:=h.ps
 have hn9:Y.ps.length≤9:=by rw [hps]; exact hA.n9
 unfold btwT
 by_cases ha:0≤a∧a<(A.ps.length:Int)
 · by_cases hb:0≤b∧b<(A.ps.length:Int)
   · rw [ask2 ha hb,if_pos rfl,h.rel.bw a b ha hb,← h.gv]
     refine (between_r Y.g Y.sd Y.lp Y.lc Y.ps Y.rp Y.rc Y.gs Y.xp Y.xc Y.xs Y.yp Y.yc Y.ys pl (h.gs hA) hgl hn9 a b (by rw [hps]; exact ha) (by rw [hps]; exact hb) w (H1.takes [0,2,7] (by decide))).mono ?_
     rintro e w' ⟨rfl,H2⟩
     have H3:=H1.absorbI (new:=[_,_,_]) [0,2,7] H2
     exact ⟨rfl,S.big (L:=[_,_,_,_,_,_,_]) (H3.takes [0,3,1,4,5,6,7,2,8] (by decide))⟩
   · have e7:askN A.ps.length [a,b]=7:=askN_7 (x:=b) (by simp) hb
     rw [e7,if_neg (by decide)]
     refine (between_r7b Y.g Y.sd Y.lp Y.lc Y.ps Y.rp Y.rc Y.gs Y.xp Y.xc Y.xs Y.yp Y.yc Y.ys pl (h.gs hA) hgl hn9 a b (by rw [hps]; exact ha) (by rw [hps]; exact hb) w (H1.takes [0,2,7] (by decide))).mono ?_
     rintro e w' ⟨rfl,H2⟩
     have H3:=H1.absorbI (new:=[_,_,_]) [0,2,7] H2
     exact ⟨rfl,S.big (L:=[_,_,_,_,_,_,_]) (H3.takes [0,3,1,4,5,6,7,2,8] (by decide))⟩
 · have e7:askN A.ps.length [a,b]=7:=askN_7 (x:=a) (by simp) ha
   rw [e7,if_neg (by decide)]
   refine (between_r7a Y.g Y.sd Y.lp Y.lc Y.ps Y.rp Y.rc Y.gs Y.xp Y.xc Y.xs Y.yp Y.yc Y.ys pl (h.gs hA) hgl hn9 a b (by rw [hps]; exact ha) w (H1.takes [0,2,7] (by decide))).mono ?_
   rintro e w' ⟨rfl,H2⟩
   have H3:=H1.absorbI (new:=[_,_,_]) [0,2,7] H2
   exact ⟨rfl,S.big (L:=[_,_,_,_,_,_,_]) (H3.takes [0,3,1,4,5,6,7,2,8] (by decide))⟩
theorem meansr_q (hA:GOK A) (h:ROK pl A Y) (hgl:Y.gs.length≤200) (hg:Y.g=g0) (HS:S w [Y.I,Pool pl]):Calls Tryz.prog 44 #[.pointer (some ⟨g0,0,none⟩)] w fun e w'=>∃ p' c',e=.returned (.slice p' (meansT A).length c')∧S w' ([Y.I,Rw 3 1 p' (meansT A).length c' (fl intL (meansT A)),Pool pl]++[Old w (fps [Y.I,Pool pl])]):=by
 subst hg
 have H:=HS.beginI
 have H1:=S.unbig (L:=[_,_,_,_,_,_,_]) H
 have hps:=h.ps
 have hn9:Y.ps.length≤9:=by rw [hps]; exact hA.n9
 have e1:meansT A=meansV Y.ps (fun j=>gotN (Y.gs.map Rd.v) (j:Nat) Y.ps.length) (Y.gs.length:Int) 7:=by
   unfold meansT
   rw [h.gvl,hps]
   refine meansV_congr fun j hj=>?_
   rw [h.gv]
   exact (h.rel.tot j hj).1
 rw [e1]
 refine (means_rr Y.g Y.sd Y.lp Y.lc Y.ps Y.rp Y.rc Y.gs Y.xp Y.xc Y.xs Y.yp Y.yc Y.ys pl (h.gs hA) hgl hn9 w (H1.takes [0,1,2,7] (by decide))).mono ?_
 rintro e w' ⟨p',c',rfl,H2⟩
 have H3:=H1.absorbI (new:=[_,_,_,_,_]) [0,1,2,7] H2
 exact ⟨p',c',rfl,S.big (L:=[_,_,_,_,_,_,_]) (H3.takes [1,2,3,5,6,7,8,0,4,9] (by decide))⟩
theorem roundsr_q (hg:Y.g=g0) (HS:S w [Y.I]):Calls Tryz.prog 46 #[.pointer (some ⟨g0,0,none⟩)] w fun e w'=>e=.returned (.int .i64 (Y.gs.length:Int))∧S w' ([Y.I]++[Old w (fps [Y.I])]):=by
 subst hg
 have H:=HS.beginI
 have H1:=S.unbig (L:=[_,_,_,_,_,_,_]) H
 refine (rounds_rr Y.g Y.sd Y.lp Y.lc Y.ps Y.rp Y.rc Y.gs Y.xp Y.xc Y.xs Y.yp Y.yc Y.ys w (H1.takes [0] (by decide))).mono ?_
 rintro e w' ⟨rfl,H2⟩
 have H3:=H1.absorbI (new:=[_]) [0] H2
 exact ⟨rfl,S.big (L:=[_,_,_,_,_,_,_]) H3⟩
end
end Go.Proofs.YtpbjekdjebjbkaaGreatDoor
