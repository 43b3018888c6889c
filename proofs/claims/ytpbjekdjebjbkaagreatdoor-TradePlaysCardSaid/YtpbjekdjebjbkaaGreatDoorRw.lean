import Derived.Test.YtpbjekdjebjbkaaGreatDoorFm
import Derived.Test.YtpbjekdjebjbkaaGreatDoorRv
set_option linter.unusedSimpArgs false
set_option linter.unusedVariables false
namespace Go.Proofs.YtpbjekdjebjbkaaGreatDoor
open Go.RowKit
theorem cl15:callable Tryz.prog 15=true:=by kernel_rfl
theorem cl44:callable Tryz.prog 44=true:=by kernel_rfl
theorem cl45:callable Tryz.prog 45=true:=by kernel_rfl
theorem cl46:callable Tryz.prog 46=true:=by kernel_rfl
theorem ask_or (n:Nat) (i:Int):((0≤i∧i<(n:Int))∧askN n [i]=0)∨(¬ (0≤i∧i<(n:Int))∧askN n [i]=7):=by
 by_cases h:0≤i∧i<(n:Int)
 · exact .inl ⟨h,ask1 h⟩
 · exact .inr ⟨h,ask1n h⟩
theorem lastT_len {A:GA} (h:GOK A) (i:Int):(lastT A i).length≤9:=by
 have h9:=h.n9
 unfold lastT
 split
 · rw [lstN_len]; exact h9
 · exact Nat.zero_le _
theorem meansT_len (A:GA):(meansT A).length=7:=meansV_len ..
section
variable {pl:List Rd} {w:World} {X:GM} {g0:Nat}
theorem got_q (h:GOK X.A) (hg:X.g=g0) (i:Int) (HS:S w [X.I]):Calls Tryz.prog 23 #[.pointer (some ⟨g0,0,none⟩),.int .i64 i] w fun e w'=>e=.returned (.tuple #[.int .i64 (gotT X.A i),.int .i64 (askN X.A.ps.length [i])])∧S w' ([X.I]++[Old w (fps [X.I])]):=got_g h hg i HS
theorem gave_q (h:GOK X.A) (hg:X.g=g0) (i:Int) (HS:S w [X.I]):Calls Tryz.prog 37 #[.pointer (some ⟨g0,0,none⟩),.int .i64 i] w fun e w'=>e=.returned (.tuple #[.int .i64 (gaveT X.A i),.int .i64 (askN X.A.ps.length [i])])∧S w' ([X.I]++[Old w (fps [X.I])]):=gave_g h hg i HS
theorem between_q (h:GOK X.A) (hg:X.g=g0) (a b:Int) (HS:S w [X.I]):Calls Tryz.prog 41 #[.pointer (some ⟨g0,0,none⟩),.int .i64 a,.int .i64 b] w fun e w'=>e=.returned (.tuple #[.int .i64 (btwT X.A a b),.int .i64 (askN X.A.ps.length [a,b])])∧S w' ([X.I]++[Old w (fps [X.I])]):=between_g h hg a b HS
end
abbrev DRw0 (X:GM) (Y:GR) (pl:List Rd) (w:World):=[(GM.I X),(GR.I Y),(Pool pl),Old w (fps [(GM.I X),(GR.I Y),(Pool pl)])]
set_option maxRecDepth 20000 in
set_option maxHeartbeats 4000000 in
theorem alike_s (pl:List Rd) (X:GM) (Y:GR) (hX:MOK pl X) (hY:ROK pl X.A Y) (hgl:X.gs.length≤100) (n:Int) (hn:n=(X.A.ps.length:Int))  (w:World) (HS:S w [(GM.I X),(GR.I Y),(Pool pl)]):Calls Tryz.prog 16 #[.pointer (some ⟨X.g,0,none⟩),.pointer (some ⟨Y.g,0,none⟩),.int .i64 n] w fun e w'=>e=.returned (.bool true)∧S w' ([(GM.I X),(GR.I Y),(Pool pl)]++[Old w (fps [(GM.I X),(GR.I Y),(Pool pl)])]):=by
 have H0:=HS.beginI
 have hyl:(Y.gs.length:Int)=X.gs.length:=by rw [← hY.gvl,hX.gvl]
 have hn9:=hX.ok.n9
 refine enter 165 Tryz.func16 rfl rfl rfl ?_
 refine g_wk [(0,_),(1,_),(2,_)] ?_
 refine w_s ?_
 refine w_k7 ?_
 refine g_loop (ι:=Int) (fun iv=>[(0,.pointer (some ⟨X.g,0,none⟩)),(1,.pointer (some ⟨Y.g,0,none⟩)),(2,.int .i64 n),(7,.int .i64 iv)]) (fun iv wx=>(-1≤iv∧iv≤n+1)∧S wx (DRw0 X Y pl w)) (fun iv=>(n+1 - iv).toNat) ((-1)) ⟨rfl,rfl,rfl,rfl,trivial⟩ ⟨(by omega),(H0.tk [0,1,2,3])⟩ ?_
 rintro iv wq1 ⟨hiv,H2⟩
 refine g_wk [(0,_),(1,_),(2,_),(7,_)] ?_
 refine g_seq ?_
 refine w_k5 ?_
 by_cases hb3:(iv:Int)≤n
 ·
  refine g_ct hb3 ?_
  refine w_k7 ?_
  refine l_of (s_cl (got_q hX.ok rfl iv (H2.tk [0])) ?_)
  rintro _ wq4 ⟨rfl,H5⟩
  replace H5:S _ [_,_,_,_]:=H2.abI (new:=[_]) [0] H5 rfl
  refine b_ret rfl rfl ?_
  refine w_k9 ?_
  refine l_of (s_cl (gotr_q hX.ok hY (by omega) rfl iv (H5.tk [1,2])) ?_)
  rintro _ wq6 ⟨rfl,H7⟩
  replace H7:S _ [_,_,_,_]:=H5.abI (new:=[_,_]) [1,2] H7 rfl
  refine b_ret rfl rfl ?_
  refine w_k6 ?_
  refine g_seq ?_
  refine g_cut (ι:=Unit) (fun _=>[(0,.pointer (some ⟨X.g,0,none⟩)),(1,.pointer (some ⟨Y.g,0,none⟩)),(2,.int .i64 n),(7,.int .i64 iv)]) (fun _ wx=>S wx (DRw0 X Y pl w)) ?_ ?_
  ·
   refine w_k4 ?_
   by_cases hb8:(0:Int)≤iv
   ·
    iterate 2 refine w_g (decide_eq_true hb8) xm ?_
    refine w_g (decide_eq_true hb8) (x_bin rfl rfl rfl b_lss) ?_
    refine w_v (x_pick_t rfl rfl (decide_eq_true hb8) rfl) ?_
    refine w_m ?_
    by_cases hb9:(iv:Int)<n
    ·
     iterate 2 refine w_g (decide_eq_true hb9) xm ?_
     refine w_g (decide_eq_true hb9) (x_bin rfl rfl rfl b_neq) ?_
     refine w_g (decide_eq_true hb9) xm ?_
     iterate 2 refine w_g (nf rfl) xm ?_
     refine w_g (nf rfl) (x_bin rfl rfl rfl b_neq) ?_
     refine w_g (decide_eq_true hb9) (x_pick_f rfl rfl (nf rfl) rfl) ?_
     refine w_v (x_pick_t rfl rfl (decide_eq_true hb9) rfl) ?_
     refine w_m ?_
     refine w_g (nf rfl) xm ?_
     refine w_g (nf rfl) (x_bin rfl rfl rfl b_lss) ?_
     refine w_g (nf rfl) xm ?_
     by_cases hb10:(iv:Int)<0
     ·
      iterate 3 refine w_n (decide_eq_true hb10) ?_
      refine w_g (nf rfl) (x_pick_t rfl rfl (decide_eq_true hb10) rfl) ?_
      refine w_g (nf rfl) xm ?_
      refine w_g rfl xm ?_
      refine w_g rfl (x_bin rfl rfl rfl b_neq) ?_
      refine w_g (nf rfl) (x_pick_t rfl rfl rfl rfl) ?_
      refine w_v (x_pick_f rfl rfl (nf rfl) rfl) ?_
      refine w_e ?_
      refine g_wk [(0,_),(1,_),(2,_),(7,_),(67,_)] ?_
      by_cases hb11:((askN X.A.ps.length [iv]):Int)=7
      ·
       refine g_nf hb11 ?_
       refine w_k2 ?_
       refine g_mid () ?_ ?_
       · exact ⟨rfl,rfl,rfl,rfl,trivial⟩
       · exact (H7.tk [2,0,1,3])
      ·
       refine g_nt hb11 ?_
       refine w_k10 ?_
       refine fin_r [.tmp 6] [.bool false] ?_
       exfalso
       have h9:=ask_or X.A.ps.length iv
       omega
     ·
      iterate 2 refine w_g (decide_eq_false hb10) xm ?_
      refine w_g (decide_eq_false hb10) (x_bin rfl rfl rfl b_geq) ?_
      refine w_g (nf rfl) (x_pick_f rfl rfl (decide_eq_false hb10) rfl) ?_
      refine w_g (nf rfl) xm ?_
      by_cases hb12:(n:Int)≤iv
      ·
       refine w_g (decide_eq_true hb12) xm ?_
       refine w_g (decide_eq_true hb12) (x_bin rfl rfl rfl b_neq) ?_
       refine w_g (nf rfl) (x_pick_t rfl rfl (decide_eq_true hb12) rfl) ?_
       refine w_v (x_pick_f rfl rfl (nf rfl) rfl) ?_
       refine w_e ?_
       refine g_wk [(0,_),(1,_),(2,_),(7,_),(67,_)] ?_
       by_cases hb13:((askN X.A.ps.length [iv]):Int)=7
       ·
        refine g_nf hb13 ?_
        refine w_k2 ?_
        refine g_mid () ?_ ?_
        · exact ⟨rfl,rfl,rfl,rfl,trivial⟩
        · exact (H7.tk [2,0,1,3])
       ·
        refine g_nt hb13 ?_
        refine w_k10 ?_
        refine fin_r [.tmp 6] [.bool false] ?_
        exfalso
        have h9:=ask_or X.A.ps.length iv
        omega
      ·
       iterate 2 refine w_n (decide_eq_false hb12) ?_
       refine w_g (nf rfl) (x_pick_f rfl rfl (decide_eq_false hb12) rfl) ?_
       refine w_v (x_pick_f rfl rfl (nf rfl) rfl) ?_
       refine w_e ?_
       refine g_wk [(0,_),(1,_),(2,_),(7,_),(67,_)] ?_
       refine g_cond_f rfl rfl ?_
       refine w_k2 ?_
       refine g_mid () ?_ ?_
       · exact ⟨rfl,rfl,rfl,rfl,trivial⟩
       · exact (H7.tk [2,0,1,3])
    ·
     iterate 4 refine w_n (decide_eq_false hb9) ?_
     refine l_of (s_not (wn2 rfl rfl rfl rfl) rfl rfl ?_)
     refine l_of (s_not (wn2 rfl rfl rfl rfl) rfl rfl ?_)
     refine l_of (s_not (wn2 rfl rfl rfl rfl) rfl rfl ?_)
     refine w_n (decide_eq_false hb9) ?_
     refine w_v (x_pick_f rfl rfl (decide_eq_false hb9) rfl) ?_
     refine w_m ?_
     refine w_g rfl xm ?_
     refine w_g rfl (x_bin rfl rfl rfl b_lss) ?_
     refine w_g rfl xm ?_
     by_cases hb14:(iv:Int)<0
     ·
      iterate 3 refine w_n (decide_eq_true hb14) ?_
      refine w_g rfl (x_pick_t rfl rfl (decide_eq_true hb14) rfl) ?_
      iterate 2 refine w_g rfl xm ?_
      refine w_g rfl (x_bin rfl rfl rfl b_neq) ?_
      refine w_g rfl (x_pick_t rfl rfl rfl rfl) ?_
      refine w_v (x_pick_f rfl rfl rfl rfl) ?_
      refine w_e ?_
      refine g_wk [(0,_),(1,_),(2,_),(7,_),(67,_)] ?_
      by_cases hb15:((askN X.A.ps.length [iv]):Int)=7
      ·
       refine g_nf hb15 ?_
       refine w_k2 ?_
       refine g_mid () ?_ ?_
       · exact ⟨rfl,rfl,rfl,rfl,trivial⟩
       · exact (H7.tk [2,0,1,3])
      ·
       refine g_nt hb15 ?_
       refine w_k10 ?_
       refine fin_r [.tmp 6] [.bool false] ?_
       exfalso
       have h9:=ask_or X.A.ps.length iv
       omega
     ·
      iterate 2 refine w_g (decide_eq_false hb14) xm ?_
      refine w_g (decide_eq_false hb14) (x_bin rfl rfl rfl b_geq) ?_
      refine w_g rfl (x_pick_f rfl rfl (decide_eq_false hb14) rfl) ?_
      refine w_g rfl xm ?_
      by_cases hb16:(n:Int)≤iv
      ·
       refine w_g (decide_eq_true hb16) xm ?_
       refine w_g (decide_eq_true hb16) (x_bin rfl rfl rfl b_neq) ?_
       refine w_g rfl (x_pick_t rfl rfl (decide_eq_true hb16) rfl) ?_
       refine w_v (x_pick_f rfl rfl rfl rfl) ?_
       refine w_e ?_
       refine g_wk [(0,_),(1,_),(2,_),(7,_),(67,_)] ?_
       by_cases hb17:((askN X.A.ps.length [iv]):Int)=7
       ·
        refine g_nf hb17 ?_
        refine w_k2 ?_
        refine g_mid () ?_ ?_
        · exact ⟨rfl,rfl,rfl,rfl,trivial⟩
        · exact (H7.tk [2,0,1,3])
       ·
        refine g_nt hb17 ?_
        refine w_k10 ?_
        refine fin_r [.tmp 6] [.bool false] ?_
        exfalso
        have h9:=ask_or X.A.ps.length iv
        omega
      ·
       iterate 2 refine w_n (decide_eq_false hb16) ?_
       refine w_g rfl (x_pick_f rfl rfl (decide_eq_false hb16) rfl) ?_
       refine w_v (x_pick_f rfl rfl rfl rfl) ?_
       refine w_e ?_
       refine g_wk [(0,_),(1,_),(2,_),(7,_),(67,_)] ?_
       refine g_cond_f rfl rfl ?_
       refine w_k2 ?_
       refine g_mid () ?_ ?_
       · exact ⟨rfl,rfl,rfl,rfl,trivial⟩
       · exact (H7.tk [2,0,1,3])
   ·
    iterate 3 refine w_n (decide_eq_false hb8) ?_
    refine w_v (x_pick_f rfl rfl (decide_eq_false hb8) rfl) ?_
    refine w_m ?_
    iterate 4 refine w_n rfl ?_
    refine l_of (s_not (wn2 rfl rfl rfl rfl) rfl rfl ?_)
    refine l_of (s_not (wn2 rfl rfl rfl rfl) rfl rfl ?_)
    refine l_of (s_not (wn2 rfl rfl rfl rfl) rfl rfl ?_)
    refine w_n rfl ?_
    refine w_v (x_pick_f rfl rfl rfl rfl) ?_
    refine w_m ?_
    refine w_g rfl xm ?_
    refine w_g rfl (x_bin rfl rfl rfl b_lss) ?_
    refine w_g rfl xm ?_
    by_cases hb18:(iv:Int)<0
    ·
     iterate 3 refine w_n (decide_eq_true hb18) ?_
     refine w_g rfl (x_pick_t rfl rfl (decide_eq_true hb18) rfl) ?_
     iterate 2 refine w_g rfl xm ?_
     refine w_g rfl (x_bin rfl rfl rfl b_neq) ?_
     refine w_g rfl (x_pick_t rfl rfl rfl rfl) ?_
     refine w_v (x_pick_f rfl rfl rfl rfl) ?_
     refine w_e ?_
     refine g_wk [(0,_),(1,_),(2,_),(7,_),(67,_)] ?_
     by_cases hb19:((askN X.A.ps.length [iv]):Int)=7
     ·
      refine g_nf hb19 ?_
      refine w_k2 ?_
      refine g_mid () ?_ ?_
      · exact ⟨rfl,rfl,rfl,rfl,trivial⟩
      · exact (H7.tk [2,0,1,3])
     ·
      refine g_nt hb19 ?_
      refine w_k10 ?_
      refine fin_r [.tmp 6] [.bool false] ?_
      exfalso
      have h9:=ask_or X.A.ps.length iv
      omega
    ·
     iterate 2 refine w_g (decide_eq_false hb18) xm ?_
     refine w_g (decide_eq_false hb18) (x_bin rfl rfl rfl b_geq) ?_
     refine w_g rfl (x_pick_f rfl rfl (decide_eq_false hb18) rfl) ?_
     refine w_g rfl xm ?_
     by_cases hb20:(n:Int)≤iv
     ·
      refine w_g (decide_eq_true hb20) xm ?_
      refine w_g (decide_eq_true hb20) (x_bin rfl rfl rfl b_neq) ?_
      refine w_g rfl (x_pick_t rfl rfl (decide_eq_true hb20) rfl) ?_
      refine w_v (x_pick_f rfl rfl rfl rfl) ?_
      refine w_e ?_
      refine g_wk [(0,_),(1,_),(2,_),(7,_),(67,_)] ?_
      by_cases hb21:((askN X.A.ps.length [iv]):Int)=7
      ·
       refine g_nf hb21 ?_
       refine w_k2 ?_
       refine g_mid () ?_ ?_
       · exact ⟨rfl,rfl,rfl,rfl,trivial⟩
       · exact (H7.tk [2,0,1,3])
      ·
       refine g_nt hb21 ?_
       refine w_k10 ?_
       refine fin_r [.tmp 6] [.bool false] ?_
       exfalso
       have h9:=ask_or X.A.ps.length iv
       omega
     ·
      iterate 2 refine w_n (decide_eq_false hb20) ?_
      refine w_g rfl (x_pick_f rfl rfl (decide_eq_false hb20) rfl) ?_
      refine w_v (x_pick_f rfl rfl rfl rfl) ?_
      refine w_e ?_
      refine g_wk [(0,_),(1,_),(2,_),(7,_),(67,_)] ?_
      refine g_cond_f rfl rfl ?_
      refine w_k2 ?_
      refine g_mid () ?_ ?_
      · exact ⟨rfl,rfl,rfl,rfl,trivial⟩
      · exact (H7.tk [2,0,1,3])
  rintro _ wq22 H23
  refine g_wk [(0,_),(1,_),(2,_),(7,_)] ?_
  refine w_s ?_
  refine w_r2 ?_
  refine l_of (s_cl (gave_q hX.ok rfl iv (H23.tk [0])) ?_)
  rintro _ wq24 ⟨rfl,H25⟩
  replace H25:S _ [_,_,_,_]:=H23.abI (new:=[_]) [0] H25 rfl
  refine b_ret rfl rfl ?_
  refine w_k9 ?_
  refine l_of (s_cl (gaver_q hX.ok hY (by omega) rfl iv (H25.tk [1,2])) ?_)
  rintro _ wq26 ⟨rfl,H27⟩
  replace H27:S _ [_,_,_,_]:=H25.abI (new:=[_,_]) [1,2] H27 rfl
  refine b_ret rfl rfl ?_
  refine w_k6 ?_
  refine g_seq ?_
  refine g_cut (ι:=Unit) (fun _=>[(0,.pointer (some ⟨X.g,0,none⟩)),(1,.pointer (some ⟨Y.g,0,none⟩)),(2,.int .i64 n),(7,.int .i64 iv)]) (fun _ wx=>S wx (DRw0 X Y pl w)) ?_ ?_
  ·
   refine w_k4 ?_
   by_cases hb28:(0:Int)≤iv
   ·
    iterate 2 refine w_g (decide_eq_true hb28) xm ?_
    refine w_g (decide_eq_true hb28) (x_bin rfl rfl rfl b_lss) ?_
    refine w_v (x_pick_t rfl rfl (decide_eq_true hb28) rfl) ?_
    refine w_m ?_
    by_cases hb29:(iv:Int)<n
    ·
     iterate 2 refine w_g (decide_eq_true hb29) xm ?_
     refine w_g (decide_eq_true hb29) (x_bin rfl rfl rfl b_neq) ?_
     refine w_g (decide_eq_true hb29) xm ?_
     iterate 2 refine w_g (nf rfl) xm ?_
     refine w_g (nf rfl) (x_bin rfl rfl rfl b_neq) ?_
     refine w_g (decide_eq_true hb29) (x_pick_f rfl rfl (nf rfl) rfl) ?_
     refine w_v (x_pick_t rfl rfl (decide_eq_true hb29) rfl) ?_
     refine w_e ?_
     refine g_nf rfl ?_
     refine w_k2 ?_
     refine g_mid () ?_ ?_
     · exact ⟨rfl,rfl,rfl,rfl,trivial⟩
     · exact (H27.tk [2,0,1,3])
    ·
     iterate 4 refine w_n (decide_eq_false hb29) ?_
     refine l_of (s_not (wn2 rfl rfl rfl rfl) rfl rfl ?_)
     refine l_of (s_not (wn2 rfl rfl rfl rfl) rfl rfl ?_)
     refine l_of (s_not (wn2 rfl rfl rfl rfl) rfl rfl ?_)
     refine w_n (decide_eq_false hb29) ?_
     refine w_v (x_pick_f rfl rfl (decide_eq_false hb29) rfl) ?_
     refine w_e ?_
     refine g_cond_f rfl rfl ?_
     refine w_k2 ?_
     refine g_mid () ?_ ?_
     · exact ⟨rfl,rfl,rfl,rfl,trivial⟩
     · exact (H27.tk [2,0,1,3])
   ·
    iterate 3 refine w_n (decide_eq_false hb28) ?_
    refine w_v (x_pick_f rfl rfl (decide_eq_false hb28) rfl) ?_
    refine w_m ?_
    iterate 4 refine w_n rfl ?_
    refine l_of (s_not (wn2 rfl rfl rfl rfl) rfl rfl ?_)
    refine l_of (s_not (wn2 rfl rfl rfl rfl) rfl rfl ?_)
    refine l_of (s_not (wn2 rfl rfl rfl rfl) rfl rfl ?_)
    refine w_n rfl ?_
    refine w_v (x_pick_f rfl rfl rfl rfl) ?_
    refine w_e ?_
    refine g_cond_f rfl rfl ?_
    refine w_k2 ?_
    refine g_mid () ?_ ?_
    · exact ⟨rfl,rfl,rfl,rfl,trivial⟩
    · exact (H27.tk [2,0,1,3])
  rintro _ wq30 H31
  refine g_wk [(0,_),(1,_),(2,_),(7,_)] ?_
  refine w_s ?_
  refine w_r2 ?_
  refine l_of (s_cl (last_q hX (by omega) rfl iv (H31.tk [0,2])) ?_)
  rintro _ wq34 ⟨pv32,cv33,rfl,H35⟩
  replace H35:S _ [_,_,_,_,_]:=H31.abI (new:=[_,_,_]) [0,2] H35 rfl
  have hll9:=lastT_len (A:=X.A) hX.ok iv
  refine b_ret rfl rfl ?_
  refine w_k9 ?_
  refine l_of (s_cl (lastr_q hX.ok hY (by omega) rfl iv (H35.tk [3,2])) ?_)
  rintro _ wq38 ⟨pv36,cv37,rfl,H39⟩
  replace H39:S _ [_,_,_,_,_,_]:=H35.abI (new:=[_,_,_]) [3,2] H39 rfl
  have hll9:=lastT_len (A:=X.A) hX.ok iv
  refine b_ret rfl rfl ?_
  refine w_k6 ?_
  refine g_seq ?_
  refine g_cut (ι:=Unit) (fun _=>[(0,.pointer (some ⟨X.g,0,none⟩)),(1,.pointer (some ⟨Y.g,0,none⟩)),(2,.int .i64 n),(7,.int .i64 iv)]) (fun _ wx=>S wx (DRw0 X Y pl w)) ?_ ?_
  ·
   refine w_k3 ?_
   refine w_b (v:=.bool (!decide (((askN X.A.ps.length [iv]):Int)=(askN X.A.ps.length [iv])))) (hb:=b_neq) ?_
   refine w_m ?_
   iterate 2 refine w_g (nf rfl) xm ?_
   refine l_of (s_call0 H39 (wt1 rfl rfl rfl rfl (nf rfl)) (x_call' rfl rfl cl15) (same_i (lastT X.A iv) (by omega) pv32 ((lastT X.A iv).length) cv33 pv36 ((lastT X.A iv).length) cv37 _ (H39.rr 4) (H39.rr 1)) rfl rfl ?_)
   intro wq40 H41
   refine w_g (nf rfl) (x_not (b:=true) rfl rfl) ?_
   refine w_v (x_pick_f rfl rfl (nf rfl) rfl) ?_
   refine w_e ?_
   refine g_cond_f rfl rfl ?_
   refine w_k2 ?_
   refine g_mid () ?_ ?_
   · exact ⟨rfl,rfl,rfl,rfl,trivial⟩
   · exact (H41.tk [3,0,2,5])
  rintro _ wq42 H43
  refine g_wk [(0,_),(1,_),(2,_),(7,_)] ?_
  refine w_s ?_
  refine w_k4 ?_
  refine g_loop (ι:=Nat) (fun j=>[(0,.pointer (some ⟨X.g,0,none⟩)),(1,.pointer (some ⟨Y.g,0,none⟩)),(2,.int .i64 n),(7,.int .i64 iv),(118,.int .i64 n),(119,.int .i64 ((j:Int)))]) (fun j wx=>((j:Int)≤n)∧S wx (DRw0 X Y pl w)) (fun j=>(n - j).toNat) (0) ⟨rfl,rfl,rfl,rfl,rfl,rfl,trivial⟩ ⟨(by omega),(H43.tk [0,1,2,3])⟩ ?_
  rintro j wq44 ⟨hj,H45⟩
  refine g_wk [(0,_),(1,_),(2,_),(7,_),(118,_),(119,_)] ?_
  refine w_s ?_
  refine w_k2 ?_
  refine g_seq ?_
  by_cases hb46:((j:Int):Int)<n
  ·
   refine g_ct hb46 ?_
   refine w_k12 ?_
   refine l_of (s_cl (between_q hX.ok rfl iv (j:Int) (H45.tk [0])) ?_)
   rintro _ wq47 ⟨rfl,H48⟩
   replace H48:S _ [_,_,_,_]:=H45.abI (new:=[_]) [0] H48 rfl
   refine b_ret rfl rfl ?_
   refine w_k10 ?_
   refine l_of (s_cl (betweenr_q hX.ok hY (by omega) rfl iv (j:Int) (H48.tk [1,2])) ?_)
   rintro _ wq49 ⟨rfl,H50⟩
   replace H50:S _ [_,_,_,_]:=H48.abI (new:=[_,_]) [1,2] H50 rfl
   refine b_ret rfl rfl ?_
   refine w_k9 ?_
   refine w_b (v:=.bool (!decide (((btwT X.A iv (j:Int)):Int)=(btwT X.A iv (j:Int))))) (hb:=b_neq) ?_
   refine w_m ?_
   iterate 2 refine w_g (nf rfl) xm ?_
   refine w_g (nf rfl) (x_bin rfl rfl rfl b_neq) ?_
   refine w_v (x_pick_f rfl rfl (nf rfl) rfl) ?_
   refine w_e ?_
   refine g_nf rfl ?_
   refine w_k4 ?_
   refine w_i j ?_
   refine w_k2 ?_
   refine g_rd (i:=(j)) ((j+1)) ⟨(by omega),(H50.tk [2,0,1,3])⟩
  ·
   refine g_cf hb46 ?_
   refine w_k8 ?_
   refine w_b (v:=.int .i64 (iv+1)) (hb:=(b_add (w64 (by omega)))) ?_
   refine w_k2 ?_
   refine g_rd (i:=(iv)) ((iv+1)) ⟨(by omega),(H45.tk [0,1,2,3])⟩
 ·
  refine g_cf hb3 ?_
  refine w_k7 ?_
  refine l_of (s_cl (means_q hX (by omega) rfl (H2.tk [0])) ?_)
  rintro _ wq53 ⟨pv51,cv52,rfl,H54⟩
  replace H54:S _ [_,_,_,_,_]:=H2.abI (new:=[_,_]) [0] H54 rfl
  have hml9:=meansT_len X.A
  refine b_ret rfl rfl ?_
  refine w_k10 ?_
  iterate 2 refine w_g (decide_eq_true rfl) xm ?_
  refine l_of (s_call (wt1 rfl rfl rfl rfl (decide_eq_true rfl)) (x_call' rfl rfl cl44) (meansr_q hX.ok hY (by omega) rfl (H54.tk [2,3])) ?_)
  rintro _ wq57 ⟨pv55,cv56,rfl,H58⟩
  replace H58:S _ [_,_,_,_,_,_]:=H54.abI (new:=[_,_,_]) [2,3] H58 rfl
  have hml8:=meansT_len X.A
  refine b_ret rfl rfl ?_
  refine l_of (s_call0 H58 (wt1 rfl rfl rfl rfl (decide_eq_true rfl)) (x_call' rfl rfl cl15) (same_i (meansT X.A) (by omega) pv51 ((meansT X.A).length) cv52 pv55 ((meansT X.A).length) cv56 _ (H58.rr 4) (H58.rr 1)) rfl rfl ?_)
  intro wq59 H60
  refine w_v (x_pick_t rfl rfl (decide_eq_true rfl) rfl) ?_
  refine w_m ?_
  refine w_g rfl xm ?_
  refine l_of (s_call (wt1 rfl rfl rfl rfl rfl) (x_call' rfl rfl cl45) (rounds_g rfl (H60.tk [3])) ?_)
  rintro _ wq61 ⟨rfl,H62⟩
  replace H62:S _ [_,_,_,_,_,_]:=H60.abI (new:=[_]) [3] H62 rfl
  refine b_ret rfl rfl ?_
  refine w_g rfl xm ?_
  refine l_of (s_call (wt1 rfl rfl rfl rfl rfl) (x_call' rfl rfl cl46) (roundsr_q rfl (H62.tk [1])) ?_)
  rintro _ wq63 ⟨rfl,H64⟩
  replace H64:S _ [_,_,_,_,_,_]:=H62.abI (new:=[_]) [1] H64 rfl
  refine b_ret rfl rfl ?_
  refine w_g rfl (x_bin rfl rfl rfl b_eql) ?_
  refine w_v (x_pick_t rfl rfl rfl rfl) ?_
  refine w_k3 ?_
  refine fin_r [.tmp 6] [.bool (decide (((X.gs.length:Int):Int)=(Y.gs.length:Int)))] ?_
  rw [decide_eq_true (show (X.gs.length:Int)=(Y.gs.length:Int) by omega)]
  exact ⟨rfl,H64.tk [1,0,3,5]⟩
end Go.Proofs.YtpbjekdjebjbkaaGreatDoor
