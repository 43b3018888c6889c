import Derived.Test.YthmmfhdpkddniaaGreatDoorRj
set_option linter.unusedSimpArgs false
set_option linter.unusedVariables false
namespace Go.Proofs.YthmmfhdpkddniaaGreatDoor
open Go.RowKit
theorem inf40:infO Tryz.prog 40=some (some (.agg #[.int .i64 0,.int .i64 0]),2,16):=by kernel_rfl
theorem sz24:szO Tryz.prog 24=some 1:=by kernel_rfl
set_option maxRecDepth 20000 in
set_option maxHeartbeats 4000000 in
set_option maxRecDepth 20000 in
set_option maxHeartbeats 4000000 in
theorem newR_e (n pz la:Int) (seed:ByteArray) (ino:Bool) (hb:100<(seed.size:Int)∨n<1∨4096<n∨pz<16∨1024<pz∨¬ pz % 16=0∨la<1∨pz<la)  (w:World):Calls Tryz.prog 35 #[.int .i64 n,.int .i64 pz,.int .i64 la,.string seed,.bool ino] w fun e w'=>e=.returned (.tuple #[.pointer none,.int .i64 (newE n pz la seed)])∧S w' [Old w no]:=by
 have H0:=S.old w
 refine enter 70 Tryz.func35 rfl rfl rfl ?_
 refine g_weak [(0,.int .i64 n),(1,.int .i64 pz),(2,.int .i64 la),(3,.string seed),(4,.bool ino)] ⟨rfl,rfl,rfl,rfl,rfl,trivial⟩ ?_
 refine g_seq ?_
 refine g_region ?_
 refine l_of (s_val (v:=.pointer none) (wt0 rfl) rfl rfl (x_assign rfl rfl) ?_)
 refine l_of (s_val (v:=.int .i64 0) (wt0 rfl) rfl rfl (x_assign rfl rfl) ?_)
 refine g_nil ?_
 refine g_then ?_
 refine g_seq ?_
 refine g_block ?_
 refine g_seq ?_
 refine g_region ?_
 refine l_of (s_val (v:=.string seed) (wt0 rfl) rfl rfl (x_move rfl rfl) ?_)
 refine l_of (s_val (v:=.int .i64 ((seed.size:Int))) (wt0 rfl) rfl rfl (x_lens rfl rfl Tryz.underlying9) ?_)
 refine l_of (s_val (v:=.bool (decide ((100:Int)<(seed.size:Int)))) (wt0 rfl) rfl rfl (x_bin rfl rfl rfl b_gtr) ?_)
 refine l_of (s_val (v:=.bool (decide ((100:Int)<(seed.size:Int)))) (wt0 rfl) rfl rfl (x_assign rfl rfl) ?_)
 refine g_nil ?_
 refine g_then ?_
 by_cases hb1:(100:Int)<(seed.size:Int)
 · skip
   refine g_cond_t rfl (decide_eq_true hb1) ?_
   refine g_seq ?_
   refine g_region ?_
   refine l_of (s_val (v:=.pointer none) (wt0 rfl) rfl rfl (x_assign rfl rfl) ?_)
   refine l_of (s_val (v:=.int .i64 1) (wt0 rfl) rfl rfl (x_assign rfl rfl) ?_)
   refine g_nil ?_
   refine g_then ?_
   refine g_ret ?_
   refine g_in_ret ?_
   refine g_then_ret ?_
   refine fin_ret [.tmp 10,.tmp 11] [.pointer none,.int .i64 1] rfl ⟨rfl,rfl,trivial⟩ ?_
   have hE:newE n pz la seed=1:=if_pos hb1
   rw [hE]
   exact ⟨rfl,H0.mask [true]⟩
 · skip
   refine g_cond_f rfl (decide_eq_false hb1) ?_
   refine g_seq ?_
   refine g_region ?_
   refine l_of (s_val (v:=.int .i64 n) (wt0 rfl) rfl rfl (x_move rfl rfl) ?_)
   refine l_of (s_val (v:=.bool (decide ((n:Int)<1))) (wt0 rfl) rfl rfl (x_bin rfl rfl rfl b_lss) ?_)
   refine l_of (s_val (v:=.bool (decide ((n:Int)<1))) (wt0 rfl) rfl rfl (x_move rfl rfl) ?_)
   by_cases hb2:(n:Int)<1
   · skip
     refine l_of (s_not (wn1 rfl rfl rfl rfl (decide_eq_true hb2)) rfl rfl ?_)
     refine l_of (s_not (wn1 rfl rfl rfl rfl (decide_eq_true hb2)) rfl rfl ?_)
     refine l_of (s_val (v:=.bool true) (wt0 rfl) rfl rfl (x_pick_t rfl rfl (decide_eq_true hb2) rfl) ?_)
     refine l_of (s_val (v:=.bool true) (wt0 rfl) rfl rfl (x_move rfl rfl) ?_)
     refine l_of (s_not (wn1 rfl rfl rfl rfl rfl) rfl rfl ?_)
     refine l_of (s_not (wn1 rfl rfl rfl rfl rfl) rfl rfl ?_)
     refine l_of (s_val (v:=.bool true) (wt0 rfl) rfl rfl (x_pick_t rfl rfl rfl rfl) ?_)
     refine l_of (s_val (v:=.bool true) (wt0 rfl) rfl rfl (x_move rfl rfl) ?_)
     refine l_of (s_not (wn1 rfl rfl rfl rfl rfl) rfl rfl ?_)
     refine l_of (s_not (wn1 rfl rfl rfl rfl rfl) rfl rfl ?_)
     refine l_of (s_val (v:=.bool true) (wt0 rfl) rfl rfl (x_pick_t rfl rfl rfl rfl) ?_)
     refine l_of (s_val (v:=.bool true) (wt0 rfl) rfl rfl (x_move rfl rfl) ?_)
     refine l_of (s_not (wn1 rfl rfl rfl rfl rfl) rfl rfl ?_)
     refine l_of (s_not (wn1 rfl rfl rfl rfl rfl) rfl rfl ?_)
     refine l_of (s_not (wn1 rfl rfl rfl rfl rfl) rfl rfl ?_)
     refine l_of (s_val (v:=.bool true) (wt0 rfl) rfl rfl (x_pick_t rfl rfl rfl rfl) ?_)
     refine l_of (s_val (v:=.bool true) (wt0 rfl) rfl rfl (x_move rfl rfl) ?_)
     refine l_of (s_not (wn1 rfl rfl rfl rfl rfl) rfl rfl ?_)
     refine l_of (s_not (wn1 rfl rfl rfl rfl rfl) rfl rfl ?_)
     refine l_of (s_val (v:=.bool true) (wt0 rfl) rfl rfl (x_pick_t rfl rfl rfl rfl) ?_)
     refine l_of (s_val (v:=.bool true) (wt0 rfl) rfl rfl (x_move rfl rfl) ?_)
     refine l_of (s_not (wn1 rfl rfl rfl rfl rfl) rfl rfl ?_)
     refine l_of (s_not (wn1 rfl rfl rfl rfl rfl) rfl rfl ?_)
     refine l_of (s_not (wn1 rfl rfl rfl rfl rfl) rfl rfl ?_)
     refine l_of (s_val (v:=.bool true) (wt0 rfl) rfl rfl (x_pick_t rfl rfl rfl rfl) ?_)
     refine l_of (s_val (v:=.bool true) (wt0 rfl) rfl rfl (x_assign rfl rfl) ?_)
     refine g_nil ?_
     refine g_then ?_
     refine g_weak [(0,.int .i64 n),(1,.int .i64 pz),(2,.int .i64 la),(3,.string seed),(4,.bool ino),(17,.bool true)] ⟨rfl,rfl,rfl,rfl,rfl,rfl,trivial⟩ ?_
     refine g_cond_t rfl rfl ?_
     refine g_seq ?_
     refine g_region ?_
     refine l_of (s_val (v:=.pointer none) (wt0 rfl) rfl rfl (x_assign rfl rfl) ?_)
     refine l_of (s_val (v:=.int .i64 7) (wt0 rfl) rfl rfl (x_assign rfl rfl) ?_)
     refine g_nil ?_
     refine g_then ?_
     refine g_ret ?_
     refine g_in_ret ?_
     refine g_then_ret ?_
     refine fin_ret [.tmp 10,.tmp 11] [.pointer none,.int .i64 7] rfl ⟨rfl,rfl,trivial⟩ ?_
     have hE:newE n pz la seed=7:=by unfold newE; rw [if_neg hb1,if_pos (by omega)]
     rw [hE]
     exact ⟨rfl,H0.mask [true]⟩
   · skip
     refine l_of (s_val (v:=.int .i64 n) (wt1 rfl rfl rfl rfl (decide_eq_false hb2)) rfl rfl (x_move rfl rfl) ?_)
     refine l_of (s_val (v:=.bool (decide ((4096:Int)<n))) (wt1 rfl rfl rfl rfl (decide_eq_false hb2)) rfl rfl (x_bin rfl rfl rfl b_gtr) ?_)
     refine l_of (s_val (v:=.bool (decide ((4096:Int)<n))) (wt0 rfl) rfl rfl (x_pick_f rfl rfl (decide_eq_false hb2) rfl) ?_)
     refine l_of (s_val (v:=.bool (decide ((4096:Int)<n))) (wt0 rfl) rfl rfl (x_move rfl rfl) ?_)
     by_cases hb3:(4096:Int)<n
     · skip
       refine l_of (s_not (wn1 rfl rfl rfl rfl (decide_eq_true hb3)) rfl rfl ?_)
       refine l_of (s_not (wn1 rfl rfl rfl rfl (decide_eq_true hb3)) rfl rfl ?_)
       refine l_of (s_val (v:=.bool true) (wt0 rfl) rfl rfl (x_pick_t rfl rfl (decide_eq_true hb3) rfl) ?_)
       refine l_of (s_val (v:=.bool true) (wt0 rfl) rfl rfl (x_move rfl rfl) ?_)
       refine l_of (s_not (wn1 rfl rfl rfl rfl rfl) rfl rfl ?_)
       refine l_of (s_not (wn1 rfl rfl rfl rfl rfl) rfl rfl ?_)
       refine l_of (s_val (v:=.bool true) (wt0 rfl) rfl rfl (x_pick_t rfl rfl rfl rfl) ?_)
       refine l_of (s_val (v:=.bool true) (wt0 rfl) rfl rfl (x_move rfl rfl) ?_)
       refine l_of (s_not (wn1 rfl rfl rfl rfl rfl) rfl rfl ?_)
       refine l_of (s_not (wn1 rfl rfl rfl rfl rfl) rfl rfl ?_)
       refine l_of (s_not (wn1 rfl rfl rfl rfl rfl) rfl rfl ?_)
       refine l_of (s_val (v:=.bool true) (wt0 rfl) rfl rfl (x_pick_t rfl rfl rfl rfl) ?_)
       refine l_of (s_val (v:=.bool true) (wt0 rfl) rfl rfl (x_move rfl rfl) ?_)
       refine l_of (s_not (wn1 rfl rfl rfl rfl rfl) rfl rfl ?_)
       refine l_of (s_not (wn1 rfl rfl rfl rfl rfl) rfl rfl ?_)
       refine l_of (s_val (v:=.bool true) (wt0 rfl) rfl rfl (x_pick_t rfl rfl rfl rfl) ?_)
       refine l_of (s_val (v:=.bool true) (wt0 rfl) rfl rfl (x_move rfl rfl) ?_)
       refine l_of (s_not (wn1 rfl rfl rfl rfl rfl) rfl rfl ?_)
       refine l_of (s_not (wn1 rfl rfl rfl rfl rfl) rfl rfl ?_)
       refine l_of (s_not (wn1 rfl rfl rfl rfl rfl) rfl rfl ?_)
       refine l_of (s_val (v:=.bool true) (wt0 rfl) rfl rfl (x_pick_t rfl rfl rfl rfl) ?_)
       refine l_of (s_val (v:=.bool true) (wt0 rfl) rfl rfl (x_assign rfl rfl) ?_)
       refine g_nil ?_
       refine g_then ?_
       refine g_weak [(0,.int .i64 n),(1,.int .i64 pz),(2,.int .i64 la),(3,.string seed),(4,.bool ino),(17,.bool true)] ⟨rfl,rfl,rfl,rfl,rfl,rfl,trivial⟩ ?_
       refine g_cond_t rfl rfl ?_
       refine g_seq ?_
       refine g_region ?_
       refine l_of (s_val (v:=.pointer none) (wt0 rfl) rfl rfl (x_assign rfl rfl) ?_)
       refine l_of (s_val (v:=.int .i64 7) (wt0 rfl) rfl rfl (x_assign rfl rfl) ?_)
       refine g_nil ?_
       refine g_then ?_
       refine g_ret ?_
       refine g_in_ret ?_
       refine g_then_ret ?_
       refine fin_ret [.tmp 10,.tmp 11] [.pointer none,.int .i64 7] rfl ⟨rfl,rfl,trivial⟩ ?_
       have hE:newE n pz la seed=7:=by unfold newE; rw [if_neg hb1,if_pos (by omega)]
       rw [hE]
       exact ⟨rfl,H0.mask [true]⟩
     · skip
       refine l_of (s_val (v:=.int .i64 pz) (wt1 rfl rfl rfl rfl (decide_eq_false hb3)) rfl rfl (x_move rfl rfl) ?_)
       refine l_of (s_val (v:=.bool (decide ((pz:Int)<16))) (wt1 rfl rfl rfl rfl (decide_eq_false hb3)) rfl rfl (x_bin rfl rfl rfl b_lss) ?_)
       refine l_of (s_val (v:=.bool (decide ((pz:Int)<16))) (wt0 rfl) rfl rfl (x_pick_f rfl rfl (decide_eq_false hb3) rfl) ?_)
       refine l_of (s_val (v:=.bool (decide ((pz:Int)<16))) (wt0 rfl) rfl rfl (x_move rfl rfl) ?_)
       by_cases hb4:(pz:Int)<16
       · skip
         refine l_of (s_not (wn1 rfl rfl rfl rfl (decide_eq_true hb4)) rfl rfl ?_)
         refine l_of (s_not (wn1 rfl rfl rfl rfl (decide_eq_true hb4)) rfl rfl ?_)
         refine l_of (s_val (v:=.bool true) (wt0 rfl) rfl rfl (x_pick_t rfl rfl (decide_eq_true hb4) rfl) ?_)
         refine l_of (s_val (v:=.bool true) (wt0 rfl) rfl rfl (x_move rfl rfl) ?_)
         refine l_of (s_not (wn1 rfl rfl rfl rfl rfl) rfl rfl ?_)
         refine l_of (s_not (wn1 rfl rfl rfl rfl rfl) rfl rfl ?_)
         refine l_of (s_not (wn1 rfl rfl rfl rfl rfl) rfl rfl ?_)
         refine l_of (s_val (v:=.bool true) (wt0 rfl) rfl rfl (x_pick_t rfl rfl rfl rfl) ?_)
         refine l_of (s_val (v:=.bool true) (wt0 rfl) rfl rfl (x_move rfl rfl) ?_)
         refine l_of (s_not (wn1 rfl rfl rfl rfl rfl) rfl rfl ?_)
         refine l_of (s_not (wn1 rfl rfl rfl rfl rfl) rfl rfl ?_)
         refine l_of (s_val (v:=.bool true) (wt0 rfl) rfl rfl (x_pick_t rfl rfl rfl rfl) ?_)
         refine l_of (s_val (v:=.bool true) (wt0 rfl) rfl rfl (x_move rfl rfl) ?_)
         refine l_of (s_not (wn1 rfl rfl rfl rfl rfl) rfl rfl ?_)
         refine l_of (s_not (wn1 rfl rfl rfl rfl rfl) rfl rfl ?_)
         refine l_of (s_not (wn1 rfl rfl rfl rfl rfl) rfl rfl ?_)
         refine l_of (s_val (v:=.bool true) (wt0 rfl) rfl rfl (x_pick_t rfl rfl rfl rfl) ?_)
         refine l_of (s_val (v:=.bool true) (wt0 rfl) rfl rfl (x_assign rfl rfl) ?_)
         refine g_nil ?_
         refine g_then ?_
         refine g_weak [(0,.int .i64 n),(1,.int .i64 pz),(2,.int .i64 la),(3,.string seed),(4,.bool ino),(17,.bool true)] ⟨rfl,rfl,rfl,rfl,rfl,rfl,trivial⟩ ?_
         refine g_cond_t rfl rfl ?_
         refine g_seq ?_
         refine g_region ?_
         refine l_of (s_val (v:=.pointer none) (wt0 rfl) rfl rfl (x_assign rfl rfl) ?_)
         refine l_of (s_val (v:=.int .i64 7) (wt0 rfl) rfl rfl (x_assign rfl rfl) ?_)
         refine g_nil ?_
         refine g_then ?_
         refine g_ret ?_
         refine g_in_ret ?_
         refine g_then_ret ?_
         refine fin_ret [.tmp 10,.tmp 11] [.pointer none,.int .i64 7] rfl ⟨rfl,rfl,trivial⟩ ?_
         have hE:newE n pz la seed=7:=by unfold newE; rw [if_neg hb1,if_pos (by omega)]
         rw [hE]
         exact ⟨rfl,H0.mask [true]⟩
       · skip
         refine l_of (s_val (v:=.int .i64 pz) (wt1 rfl rfl rfl rfl (decide_eq_false hb4)) rfl rfl (x_move rfl rfl) ?_)
         refine l_of (s_val (v:=.bool (decide ((1024:Int)<pz))) (wt1 rfl rfl rfl rfl (decide_eq_false hb4)) rfl rfl (x_bin rfl rfl rfl b_gtr) ?_)
         refine l_of (s_val (v:=.bool (decide ((1024:Int)<pz))) (wt0 rfl) rfl rfl (x_pick_f rfl rfl (decide_eq_false hb4) rfl) ?_)
         refine l_of (s_val (v:=.bool (decide ((1024:Int)<pz))) (wt0 rfl) rfl rfl (x_move rfl rfl) ?_)
         by_cases hb5:(1024:Int)<pz
         · skip
           refine l_of (s_not (wn1 rfl rfl rfl rfl (decide_eq_true hb5)) rfl rfl ?_)
           refine l_of (s_not (wn1 rfl rfl rfl rfl (decide_eq_true hb5)) rfl rfl ?_)
           refine l_of (s_not (wn1 rfl rfl rfl rfl (decide_eq_true hb5)) rfl rfl ?_)
           refine l_of (s_val (v:=.bool true) (wt0 rfl) rfl rfl (x_pick_t rfl rfl (decide_eq_true hb5) rfl) ?_)
           refine l_of (s_val (v:=.bool true) (wt0 rfl) rfl rfl (x_move rfl rfl) ?_)
           refine l_of (s_not (wn1 rfl rfl rfl rfl rfl) rfl rfl ?_)
           refine l_of (s_not (wn1 rfl rfl rfl rfl rfl) rfl rfl ?_)
           refine l_of (s_val (v:=.bool true) (wt0 rfl) rfl rfl (x_pick_t rfl rfl rfl rfl) ?_)
           refine l_of (s_val (v:=.bool true) (wt0 rfl) rfl rfl (x_move rfl rfl) ?_)
           refine l_of (s_not (wn1 rfl rfl rfl rfl rfl) rfl rfl ?_)
           refine l_of (s_not (wn1 rfl rfl rfl rfl rfl) rfl rfl ?_)
           refine l_of (s_not (wn1 rfl rfl rfl rfl rfl) rfl rfl ?_)
           refine l_of (s_val (v:=.bool true) (wt0 rfl) rfl rfl (x_pick_t rfl rfl rfl rfl) ?_)
           refine l_of (s_val (v:=.bool true) (wt0 rfl) rfl rfl (x_assign rfl rfl) ?_)
           refine g_nil ?_
           refine g_then ?_
           refine g_weak [(0,.int .i64 n),(1,.int .i64 pz),(2,.int .i64 la),(3,.string seed),(4,.bool ino),(17,.bool true)] ⟨rfl,rfl,rfl,rfl,rfl,rfl,trivial⟩ ?_
           refine g_cond_t rfl rfl ?_
           refine g_seq ?_
           refine g_region ?_
           refine l_of (s_val (v:=.pointer none) (wt0 rfl) rfl rfl (x_assign rfl rfl) ?_)
           refine l_of (s_val (v:=.int .i64 7) (wt0 rfl) rfl rfl (x_assign rfl rfl) ?_)
           refine g_nil ?_
           refine g_then ?_
           refine g_ret ?_
           refine g_in_ret ?_
           refine g_then_ret ?_
           refine fin_ret [.tmp 10,.tmp 11] [.pointer none,.int .i64 7] rfl ⟨rfl,rfl,trivial⟩ ?_
           have hE:newE n pz la seed=7:=by unfold newE; rw [if_neg hb1,if_pos (by omega)]
           rw [hE]
           exact ⟨rfl,H0.mask [true]⟩
         · skip
           refine l_of (s_val (v:=.int .i64 pz) (wt1 rfl rfl rfl rfl (decide_eq_false hb5)) rfl rfl (x_move rfl rfl) ?_)
           refine l_of (s_val (v:=.int .i64 (pz % 16)) (wt1 rfl rfl rfl rfl (decide_eq_false hb5)) rfl rfl (x_bin rfl rfl rfl (b_rem (by omega) (rem0 (by omega)))) ?_)
           refine l_of (s_val (v:=.bool (!decide ((pz % 16:Int)=0))) (wt1 rfl rfl rfl rfl (decide_eq_false hb5)) rfl rfl (x_bin rfl rfl rfl b_neq) ?_)
           refine l_of (s_val (v:=.bool (!decide ((pz % 16:Int)=0))) (wt0 rfl) rfl rfl (x_pick_f rfl rfl (decide_eq_false hb5) rfl) ?_)
           refine l_of (s_val (v:=.bool (!decide ((pz % 16:Int)=0))) (wt0 rfl) rfl rfl (x_move rfl rfl) ?_)
           by_cases hb6:(pz % 16:Int)=0
           · skip
             refine l_of (s_val (v:=.int .i64 la) (wt1 rfl rfl rfl rfl (nf hb6)) rfl rfl (x_move rfl rfl) ?_)
             refine l_of (s_val (v:=.bool (decide ((la:Int)<1))) (wt1 rfl rfl rfl rfl (nf hb6)) rfl rfl (x_bin rfl rfl rfl b_lss) ?_)
             refine l_of (s_val (v:=.bool (decide ((la:Int)<1))) (wt0 rfl) rfl rfl (x_pick_f rfl rfl (nf hb6) rfl) ?_)
             refine l_of (s_val (v:=.bool (decide ((la:Int)<1))) (wt0 rfl) rfl rfl (x_move rfl rfl) ?_)
             by_cases hb7:(la:Int)<1
             · skip
               refine l_of (s_not (wn1 rfl rfl rfl rfl (decide_eq_true hb7)) rfl rfl ?_)
               refine l_of (s_not (wn1 rfl rfl rfl rfl (decide_eq_true hb7)) rfl rfl ?_)
               refine l_of (s_not (wn1 rfl rfl rfl rfl (decide_eq_true hb7)) rfl rfl ?_)
               refine l_of (s_val (v:=.bool true) (wt0 rfl) rfl rfl (x_pick_t rfl rfl (decide_eq_true hb7) rfl) ?_)
               refine l_of (s_val (v:=.bool true) (wt0 rfl) rfl rfl (x_assign rfl rfl) ?_)
               refine g_nil ?_
               refine g_then ?_
               refine g_weak [(0,.int .i64 n),(1,.int .i64 pz),(2,.int .i64 la),(3,.string seed),(4,.bool ino),(17,.bool true)] ⟨rfl,rfl,rfl,rfl,rfl,rfl,trivial⟩ ?_
               refine g_cond_t rfl rfl ?_
               refine g_seq ?_
               refine g_region ?_
               refine l_of (s_val (v:=.pointer none) (wt0 rfl) rfl rfl (x_assign rfl rfl) ?_)
               refine l_of (s_val (v:=.int .i64 7) (wt0 rfl) rfl rfl (x_assign rfl rfl) ?_)
               refine g_nil ?_
               refine g_then ?_
               refine g_ret ?_
               refine g_in_ret ?_
               refine g_then_ret ?_
               refine fin_ret [.tmp 10,.tmp 11] [.pointer none,.int .i64 7] rfl ⟨rfl,rfl,trivial⟩ ?_
               have hE:newE n pz la seed=7:=by unfold newE; rw [if_neg hb1,if_pos (by omega)]
               rw [hE]
               exact ⟨rfl,H0.mask [true]⟩
             · skip
               refine l_of (s_val (v:=.int .i64 la) (wt1 rfl rfl rfl rfl (decide_eq_false hb7)) rfl rfl (x_move rfl rfl) ?_)
               refine l_of (s_val (v:=.int .i64 pz) (wt1 rfl rfl rfl rfl (decide_eq_false hb7)) rfl rfl (x_move rfl rfl) ?_)
               refine l_of (s_val (v:=.bool (decide ((pz:Int)<la))) (wt1 rfl rfl rfl rfl (decide_eq_false hb7)) rfl rfl (x_bin rfl rfl rfl b_gtr) ?_)
               refine l_of (s_val (v:=.bool (decide ((pz:Int)<la))) (wt0 rfl) rfl rfl (x_pick_f rfl rfl (decide_eq_false hb7) rfl) ?_)
               refine l_of (s_val (v:=.bool (decide ((pz:Int)<la))) (wt0 rfl) rfl rfl (x_assign rfl rfl) ?_)
               refine g_nil ?_
               refine g_then ?_
               refine g_weak [(0,.int .i64 n),(1,.int .i64 pz),(2,.int .i64 la),(3,.string seed),(4,.bool ino),(17,.bool (decide ((pz:Int)<la)))] ⟨rfl,rfl,rfl,rfl,rfl,rfl,trivial⟩ ?_
               refine g_cond_t rfl (decide_eq_true (by omega)) ?_
               refine g_seq ?_
               refine g_region ?_
               refine l_of (s_val (v:=.pointer none) (wt0 rfl) rfl rfl (x_assign rfl rfl) ?_)
               refine l_of (s_val (v:=.int .i64 7) (wt0 rfl) rfl rfl (x_assign rfl rfl) ?_)
               refine g_nil ?_
               refine g_then ?_
               refine g_ret ?_
               refine g_in_ret ?_
               refine g_then_ret ?_
               refine fin_ret [.tmp 10,.tmp 11] [.pointer none,.int .i64 7] rfl ⟨rfl,rfl,trivial⟩ ?_
               have hE:newE n pz la seed=7:=by unfold newE; rw [if_neg hb1,if_pos (by omega)]
               rw [hE]
               exact ⟨rfl,H0.mask [true]⟩
           · skip
             refine l_of (s_not (wn1 rfl rfl rfl rfl (nt hb6)) rfl rfl ?_)
             refine l_of (s_not (wn1 rfl rfl rfl rfl (nt hb6)) rfl rfl ?_)
             refine l_of (s_val (v:=.bool true) (wt0 rfl) rfl rfl (x_pick_t rfl rfl (nt hb6) rfl) ?_)
             refine l_of (s_val (v:=.bool true) (wt0 rfl) rfl rfl (x_move rfl rfl) ?_)
             refine l_of (s_not (wn1 rfl rfl rfl rfl rfl) rfl rfl ?_)
             refine l_of (s_not (wn1 rfl rfl rfl rfl rfl) rfl rfl ?_)
             refine l_of (s_not (wn1 rfl rfl rfl rfl rfl) rfl rfl ?_)
             refine l_of (s_val (v:=.bool true) (wt0 rfl) rfl rfl (x_pick_t rfl rfl rfl rfl) ?_)
             refine l_of (s_val (v:=.bool true) (wt0 rfl) rfl rfl (x_assign rfl rfl) ?_)
             refine g_nil ?_
             refine g_then ?_
             refine g_weak [(0,.int .i64 n),(1,.int .i64 pz),(2,.int .i64 la),(3,.string seed),(4,.bool ino),(17,.bool true)] ⟨rfl,rfl,rfl,rfl,rfl,rfl,trivial⟩ ?_
             refine g_cond_t rfl rfl ?_
             refine g_seq ?_
             refine g_region ?_
             refine l_of (s_val (v:=.pointer none) (wt0 rfl) rfl rfl (x_assign rfl rfl) ?_)
             refine l_of (s_val (v:=.int .i64 7) (wt0 rfl) rfl rfl (x_assign rfl rfl) ?_)
             refine g_nil ?_
             refine g_then ?_
             refine g_ret ?_
             refine g_in_ret ?_
             refine g_then_ret ?_
             refine fin_ret [.tmp 10,.tmp 11] [.pointer none,.int .i64 7] rfl ⟨rfl,rfl,trivial⟩ ?_
             have hE:newE n pz la seed=7:=by unfold newE; rw [if_neg hb1,if_pos (by omega)]
             rw [hE]
             exact ⟨rfl,H0.mask [true]⟩
set_option maxRecDepth 20000 in
set_option maxHeartbeats 4000000 in
set_option maxRecDepth 20000 in
set_option maxHeartbeats 4000000 in
theorem newR_o (n pz la:Nat) (seed:ByteArray) (ino:Bool) (h:(1≤n∧n≤24∧16≤pz∧pz≤128∧1≤la∧la≤pz∧seed.size≤100)∧(pz:Int) % 16=0)  (w:World):Calls Tryz.prog 35 #[.int .i64 ((n:Int)),.int .i64 ((pz:Int)),.int .i64 ((la:Int)),.string seed,.bool ino] w fun e w'=>∃ Z:ZP,ZOK Z (newPK n pz la seed ino)∧e=.returned (.tuple #[.pointer (some ⟨Z.g,0,none⟩),.int .i64 0])∧S w' ([(ZI Z (newPK n pz la seed ino))]++[Old w no]):=by
 have H0:=S.old w
 refine enter 70 Tryz.func35 rfl rfl rfl ?_
 refine g_weak [(0,.int .i64 ((n:Int))),(1,.int .i64 ((pz:Int))),(2,.int .i64 ((la:Int))),(3,.string seed),(4,.bool ino)] ⟨rfl,rfl,rfl,rfl,rfl,trivial⟩ ?_
 refine g_seq ?_
 refine g_region ?_
 refine l_of (s_val (v:=.pointer none) (wt0 rfl) rfl rfl (x_assign rfl rfl) ?_)
 refine l_of (s_val (v:=.int .i64 0) (wt0 rfl) rfl rfl (x_assign rfl rfl) ?_)
 refine g_nil ?_
 refine g_then ?_
 refine g_seq ?_
 refine g_block ?_
 refine g_seq ?_
 refine g_region ?_
 refine l_of (s_val (v:=.string seed) (wt0 rfl) rfl rfl (x_move rfl rfl) ?_)
 refine l_of (s_val (v:=.int .i64 ((seed.size:Int))) (wt0 rfl) rfl rfl (x_lens rfl rfl Tryz.underlying9) ?_)
 refine l_of (s_val (v:=.bool (decide ((100:Int)<(seed.size:Int)))) (wt0 rfl) rfl rfl (x_bin rfl rfl rfl b_gtr) ?_)
 refine l_of (s_val (v:=.bool (decide ((100:Int)<(seed.size:Int)))) (wt0 rfl) rfl rfl (x_assign rfl rfl) ?_)
 refine g_nil ?_
 refine g_then ?_
 refine g_cond_f rfl (decide_eq_false (by omega)) ?_
 refine g_seq ?_
 refine g_region ?_
 refine l_of (s_val (v:=.int .i64 ((n:Int))) (wt0 rfl) rfl rfl (x_move rfl rfl) ?_)
 refine l_of (s_val (v:=.bool (decide (((n:Int):Int)<1))) (wt0 rfl) rfl rfl (x_bin rfl rfl rfl b_lss) ?_)
 refine l_of (s_val (v:=.bool (decide (((n:Int):Int)<1))) (wt0 rfl) rfl rfl (x_move rfl rfl) ?_)
 refine l_of (s_val (v:=.int .i64 ((n:Int))) (wt1 rfl rfl rfl rfl (decide_eq_false (by omega))) rfl rfl (x_move rfl rfl) ?_)
 refine l_of (s_val (v:=.bool (decide ((4096:Int)<(n:Int)))) (wt1 rfl rfl rfl rfl (decide_eq_false (by omega))) rfl rfl (x_bin rfl rfl rfl b_gtr) ?_)
 refine l_of (s_val (v:=.bool (decide ((4096:Int)<(n:Int)))) (wt0 rfl) rfl rfl (x_pick_f rfl rfl (decide_eq_false (by omega)) rfl) ?_)
 refine l_of (s_val (v:=.bool (decide ((4096:Int)<(n:Int)))) (wt0 rfl) rfl rfl (x_move rfl rfl) ?_)
 refine l_of (s_val (v:=.int .i64 ((pz:Int))) (wt1 rfl rfl rfl rfl (decide_eq_false (by omega))) rfl rfl (x_move rfl rfl) ?_)
 refine l_of (s_val (v:=.bool (decide (((pz:Int):Int)<16))) (wt1 rfl rfl rfl rfl (decide_eq_false (by omega))) rfl rfl (x_bin rfl rfl rfl b_lss) ?_)
 refine l_of (s_val (v:=.bool (decide (((pz:Int):Int)<16))) (wt0 rfl) rfl rfl (x_pick_f rfl rfl (decide_eq_false (by omega)) rfl) ?_)
 refine l_of (s_val (v:=.bool (decide (((pz:Int):Int)<16))) (wt0 rfl) rfl rfl (x_move rfl rfl) ?_)
 refine l_of (s_val (v:=.int .i64 ((pz:Int))) (wt1 rfl rfl rfl rfl (decide_eq_false (by omega))) rfl rfl (x_move rfl rfl) ?_)
 refine l_of (s_val (v:=.bool (decide ((1024:Int)<(pz:Int)))) (wt1 rfl rfl rfl rfl (decide_eq_false (by omega))) rfl rfl (x_bin rfl rfl rfl b_gtr) ?_)
 refine l_of (s_val (v:=.bool (decide ((1024:Int)<(pz:Int)))) (wt0 rfl) rfl rfl (x_pick_f rfl rfl (decide_eq_false (by omega)) rfl) ?_)
 refine l_of (s_val (v:=.bool (decide ((1024:Int)<(pz:Int)))) (wt0 rfl) rfl rfl (x_move rfl rfl) ?_)
 refine l_of (s_val (v:=.int .i64 ((pz:Int))) (wt1 rfl rfl rfl rfl (decide_eq_false (by omega))) rfl rfl (x_move rfl rfl) ?_)
 refine l_of (s_val (v:=.int .i64 ((pz:Int) % 16)) (wt1 rfl rfl rfl rfl (decide_eq_false (by omega))) rfl rfl (x_bin rfl rfl rfl (b_rem (by omega) (rem0 (by omega)))) ?_)
 refine l_of (s_val (v:=.bool (!decide (((pz:Int) % 16:Int)=0))) (wt1 rfl rfl rfl rfl (decide_eq_false (by omega))) rfl rfl (x_bin rfl rfl rfl b_neq) ?_)
 refine l_of (s_val (v:=.bool (!decide (((pz:Int) % 16:Int)=0))) (wt0 rfl) rfl rfl (x_pick_f rfl rfl (decide_eq_false (by omega)) rfl) ?_)
 refine l_of (s_val (v:=.bool (!decide (((pz:Int) % 16:Int)=0))) (wt0 rfl) rfl rfl (x_move rfl rfl) ?_)
 refine l_of (s_val (v:=.int .i64 ((la:Int))) (wt1 rfl rfl rfl rfl (nf (by omega))) rfl rfl (x_move rfl rfl) ?_)
 refine l_of (s_val (v:=.bool (decide (((la:Int):Int)<1))) (wt1 rfl rfl rfl rfl (nf (by omega))) rfl rfl (x_bin rfl rfl rfl b_lss) ?_)
 refine l_of (s_val (v:=.bool (decide (((la:Int):Int)<1))) (wt0 rfl) rfl rfl (x_pick_f rfl rfl (nf (by omega)) rfl) ?_)
 refine l_of (s_val (v:=.bool (decide (((la:Int):Int)<1))) (wt0 rfl) rfl rfl (x_move rfl rfl) ?_)
 refine l_of (s_val (v:=.int .i64 ((la:Int))) (wt1 rfl rfl rfl rfl (decide_eq_false (by omega))) rfl rfl (x_move rfl rfl) ?_)
 refine l_of (s_val (v:=.int .i64 ((pz:Int))) (wt1 rfl rfl rfl rfl (decide_eq_false (by omega))) rfl rfl (x_move rfl rfl) ?_)
 refine l_of (s_val (v:=.bool (decide (((pz:Int):Int)<(la:Int)))) (wt1 rfl rfl rfl rfl (decide_eq_false (by omega))) rfl rfl (x_bin rfl rfl rfl b_gtr) ?_)
 refine l_of (s_val (v:=.bool (decide (((pz:Int):Int)<(la:Int)))) (wt0 rfl) rfl rfl (x_pick_f rfl rfl (decide_eq_false (by omega)) rfl) ?_)
 refine l_of (s_val (v:=.bool (decide (((pz:Int):Int)<(la:Int)))) (wt0 rfl) rfl rfl (x_assign rfl rfl) ?_)
 refine g_nil ?_
 refine g_then ?_
 refine g_weak [(0,.int .i64 ((n:Int))),(1,.int .i64 ((pz:Int))),(2,.int .i64 ((la:Int))),(3,.string seed),(4,.bool ino),(17,.bool (decide (((pz:Int):Int)<(la:Int))))] ⟨rfl,rfl,rfl,rfl,rfl,rfl,trivial⟩ ?_
 refine g_cond_f rfl (decide_eq_false (by omega)) ?_
 refine g_skip ?_
 refine g_in ?_
 refine g_then ?_
 refine g_seq ?_
 refine g_region ?_
 refine l_of (s_val (v:=.int .i64 ((n:Int))) (wt0 rfl) rfl rfl (x_move rfl rfl) ?_)
 refine l_of (s_val (v:=.int .i64 ((pz:Int))) (wt0 rfl) rfl rfl (x_move rfl rfl) ?_)
 refine l_of (s_val (v:=.int .i64 ((la:Int))) (wt0 rfl) rfl rfl (x_move rfl rfl) ?_)
 refine l_of (s_val (v:=.string seed) (wt0 rfl) rfl rfl (x_move rfl rfl) ?_)
 refine l_of (s_val (v:=.bool ino) (wt0 rfl) rfl rfl (x_move rfl rfl) ?_)
 refine l_of (s_val (v:=.int .i64 ((n:Int))) (wt0 rfl) rfl rfl (x_move rfl rfl) ?_)
 refine l_of (s_makeB n H0 (wt0 rfl) rfl rfl rfl rfl rfl Tryz.underlying38 inf4 (by omega) ?_)
 intro g1 wq2 H3
 replace H3:S wq2 [Rw 4 1 (some ⟨g1,0,none⟩) ((List.replicate n false).length) n (fl boolL (List.replicate n false)),Old w no]:=H3
 refine l_of (s_val (v:=.agg #[.int .i64 ((n:Int)),.int .i64 ((pz:Int)),.int .i64 ((la:Int)),.string seed,.bool ino,.slice (some ⟨g1,0,none⟩) ((List.replicate n false).length) n,.slice none 0 0,.slice none 0 0,.slice none 0 0,.slice none 0 0]) (wt0 rfl) rfl rfl (x_build (vs:=[.int .i64 ((n:Int)),.int .i64 ((pz:Int)),.int .i64 ((la:Int)),.string seed,.bool ino,.slice (some ⟨g1,0,none⟩) ((List.replicate n false).length) n]) rfl rfl (cells:=#[.int .i64 ((n:Int)),.int .i64 ((pz:Int)),.int .i64 ((la:Int)),.string seed,.bool ino,.slice (some ⟨g1,0,none⟩) ((List.replicate n false).length) n,.slice none 0 0,.slice none 0 0,.slice none 0 0,.slice none 0 0]) (by kernel_rfl)) ?_)
 refine l_of (s_box H3 (wt0 rfl) rfl rfl rfl rfl ?_)
 intro g4 wq5 H6
 refine l_of (s_val (v:=.pointer (some ⟨g4,0,none⟩)) (wt0 rfl) rfl rfl (x_assign rfl rfl) ?_)
 refine g_nil ?_
 refine g_then ?_
 refine g_weak [(0,.int .i64 ((n:Int))),(12,.pointer (some ⟨g4,0,none⟩))] ⟨rfl,rfl,trivial⟩ ?_
 refine g_seq ?_
 refine g_seq ?_
 refine g_region ?_
 refine l_of (s_val (v:=.int .i64 ((n:Int))) (wt0 rfl) rfl rfl (x_move rfl rfl) ?_)
 refine l_of (s_val (v:=.int .i64 0) (wt0 rfl) rfl rfl (x_move rfl rfl) ?_)
 refine g_nil ?_
 refine g_then ?_
 refine g_block ?_
 refine g_loop (ι:=Nat × Option Addr × Nat × List Wis) (fun (ii,wp,wc,wl)=>[(12,.pointer (some ⟨g4,0,none⟩)),(55,.int .i64 ((n:Int))),(56,.int .i64 ((ii:Int)))]) (fun (ii,wp,wc,wl) wx=>(ii≤n)∧(wl=List.replicate ii (⟨4,0⟩:Wis))∧(wl.length=ii)∧S wx [Ob g4 (.cells #[.int .i64 ((n:Int)),.int .i64 ((pz:Int)),.int .i64 ((la:Int)),.string seed,.bool ino,.slice (some ⟨g1,0,none⟩) ((List.replicate n false).length) n,.slice wp wl.length wc,.slice none 0 0,.slice none 0 0,.slice none 0 0] 97 (0,0)),Rw 4 1 (some ⟨g1,0,none⟩) ((List.replicate n false).length) n (fl boolL (List.replicate n false)),Rw 40 2 wp wl.length wc (fl wisL wl),Old w no]) (fun (ii,wp,wc,wl)=>n - ii) (0,none,0,[]) ⟨rfl,rfl,rfl,trivial⟩ ⟨Nat.zero_le _,rfl,rfl,((S.nilFl H6 40 2 wisL).takes [1,2,0,3] (by decide))⟩ ?_
 rintro ⟨ii,wp,wc,wl⟩ wq7 ⟨hii,hwl,hww,H8⟩
 replace H8:S wq7 [Ob g4 (.cells #[.int .i64 ((n:Int)),.int .i64 ((pz:Int)),.int .i64 ((la:Int)),.string seed,.bool ino,.slice (some ⟨g1,0,none⟩) ((List.replicate n false).length) n,.slice wp wl.length wc,.slice none 0 0,.slice none 0 0,.slice none 0 0] 97 (0,0)),Rw 4 1 (some ⟨g1,0,none⟩) ((List.replicate n false).length) n (fl boolL (List.replicate n false)),Rw 40 2 wp wl.length wc (fl wisL wl),Old w no]:=H8
 refine g_weak [(12,.pointer (some ⟨g4,0,none⟩)),(55,.int .i64 ((n:Int))),(56,.int .i64 ((ii:Int)))] ⟨rfl,rfl,rfl,trivial⟩ ?_
 refine g_seq ?_
 refine g_region ?_
 refine l_of (s_val (v:=.bool (decide (((ii:Int):Int)<(n:Int)))) (wt0 rfl) rfl rfl (x_bin rfl rfl rfl b_lss) ?_)
 refine g_nil ?_
 refine g_then ?_
 refine g_seq ?_
 by_cases hb9:((ii:Int):Int)<(n:Int)
 · skip
   refine g_cond_t rfl (decide_eq_true hb9) ?_
   refine g_skip ?_
   refine g_then ?_
   refine g_seq ?_
   refine g_block ?_
   refine g_region ?_
   refine l_of (s_val (v:=.pointer (some ⟨g4,0,none⟩)) (wt0 rfl) rfl rfl (x_move rfl rfl) ?_)
   refine l_of (s_val (v:=.pointer (some ⟨g4,0,none⟩)) (wt0 rfl) rfl rfl (x_move rfl rfl) ?_)
   refine l_of (s_val (v:=.pointer (some ⟨g4,0,none⟩)) (wt0 rfl) rfl rfl (x_nilCheck rfl rfl) ?_)
   refine l_of (s_val (v:=.pointer (some ⟨g4,6,none⟩)) (wt0 rfl) rfl rfl (x_fieldAddr rfl rfl fo97_6 rfl) ?_)
   refine l_of (s_val (v:=.slice wp wl.length wc) (wt0 rfl) rfl rfl (x_load1 H8 0 rfl rfl Tryz.underlying24 rfl rfl rfl) ?_)
   refine l_of (s_val (v:=.agg #[.int .i64 4,.int .i64 0]) (wt0 rfl) rfl rfl (x_build (vs:=[.int .i64 4]) rfl rfl (cells:=#[.int .i64 4,.int .i64 0]) (by kernel_rfl)) ?_)
   refine l_of (s_buildSlice H8 (wt0 rfl) rfl rfl rfl (vs:=[.agg #[.int .i64 4,.int .i64 0]]) rfl Tryz.underlying24 sz40 ze40 rfl rfl (cells:=#[.int .i64 4,.int .i64 0]) (by kernel_rfl) ?_)
   intro g10 wq11 H12
   have hln17a:=(H12.rwReads (k:=3) rfl).lenL wisE
   have hln17:(wl++[(⟨4,0⟩:Wis)]).length=wl.length+1:=by simp only [List.length_append,List.length_cons,List.length_nil] <;> omega
   refine l_of (s_appBn (m:=1) (l:=wl) (l2:=[(⟨4,0⟩:Wis)]) wisE H12 3 (j0:=0) rfl rfl ⟨rfl,Nat.le_refl _⟩ (wt0 rfl) rfl rfl rfl rfl rfl rfl Tryz.underlying24 inf40 rfl (by decide) (by omega) ?_)
   intro p13 c14 wq15 H16
   replace H16:S wq15 [Ob g10 (.cells #[.int .i64 4,.int .i64 0] 40 (0,0)),Ob g4 (.cells #[.int .i64 ((n:Int)),.int .i64 ((pz:Int)),.int .i64 ((la:Int)),.string seed,.bool ino,.slice (some ⟨g1,0,none⟩) ((List.replicate n false).length) n,.slice wp wl.length wc,.slice none 0 0,.slice none 0 0,.slice none 0 0] 97 (0,0)),Rw 4 1 (some ⟨g1,0,none⟩) ((List.replicate n false).length) n (fl boolL (List.replicate n false)),Rw 40 2 p13 ((wl++[(⟨4,0⟩:Wis)]).length) c14 (fl wisL (wl++[(⟨4,0⟩:Wis)])),Old w no]:=H16
   refine l_of (s_val (v:=.pointer (some ⟨g4,0,none⟩)) (wt0 rfl) rfl rfl (x_nilCheck rfl rfl) ?_)
   refine l_of (s_val (v:=.pointer (some ⟨g4,6,none⟩)) (wt0 rfl) rfl rfl (x_fieldAddr rfl rfl fo97_6 rfl) ?_)
   refine l_of (s_store H16 1 (wt0 rfl) rfl rfl rfl rfl rfl sz24 rfl rfl (cs':=#[.int .i64 ((n:Int)),.int .i64 ((pz:Int)),.int .i64 ((la:Int)),.string seed,.bool ino,.slice (some ⟨g1,0,none⟩) ((List.replicate n false).length) n,.slice p13 ((wl++[(⟨4,0⟩:Wis)]).length) c14,.slice none 0 0,.slice none 0 0,.slice none 0 0]) rfl ?_)
   intro wq18 H19
   replace H19:S wq18 [Ob g10 (.cells #[.int .i64 4,.int .i64 0] 40 (0,0)),Ob g4 (.cells #[.int .i64 ((n:Int)),.int .i64 ((pz:Int)),.int .i64 ((la:Int)),.string seed,.bool ino,.slice (some ⟨g1,0,none⟩) ((List.replicate n false).length) n,.slice p13 ((wl++[(⟨4,0⟩:Wis)]).length) c14,.slice none 0 0,.slice none 0 0,.slice none 0 0] 97 (0,0)),Rw 4 1 (some ⟨g1,0,none⟩) ((List.replicate n false).length) n (fl boolL (List.replicate n false)),Rw 40 2 p13 ((wl++[(⟨4,0⟩:Wis)]).length) c14 (fl wisL (wl++[(⟨4,0⟩:Wis)])),Old w no]:=H19
   refine g_nil ?_
   refine g_in ?_
   refine g_then ?_
   refine g_region ?_
   refine l_of (s_val (v:=.int .i64 (((ii+1:Nat):Int))) (wt0 rfl) rfl rfl (x_bin rfl rfl rfl (b_add (by rw [w64 (by omega)]; omega))) ?_)
   refine l_of (s_val (v:=.int .i64 (((ii+1:Nat):Int))) (wt0 rfl) rfl rfl (x_move rfl rfl) ?_)
   refine g_nil ?_
   refine g_then ?_
   refine g_round (i:=(ii,wp,wc,wl)) ((ii+1),p13,c14,(wl++[(⟨4,0⟩:Wis)])) ?_ ?_ ?_
   · exact ⟨rfl,rfl,rfl,trivial⟩
   · exact ⟨by omega,(by rw [List.replicate_succ',← hwl]),(by simp only [List.length_append,List.length_cons,List.length_nil]; omega),(H19.takes [1,2,3,4] (by decide))⟩
   · (try dsimp only); omega
 · skip
   refine g_cond_f rfl (decide_eq_false hb9) ?_
   refine g_exit ?_
   refine g_then_exit ?_
   refine g_then_exit ?_
   refine g_in_hit ?_
   refine g_then ?_
   refine g_seq ?_
   refine g_region ?_
   refine l_of (s_val (v:=.pointer (some ⟨g4,0,none⟩)) (wt0 rfl) rfl rfl (x_move rfl rfl) ?_)
   refine l_of (s_val (v:=.pointer (some ⟨g4,0,none⟩)) (wt0 rfl) rfl rfl (x_assign rfl rfl) ?_)
   refine l_of (s_val (v:=.int .i64 0) (wt0 rfl) rfl rfl (x_assign rfl rfl) ?_)
   refine g_nil ?_
   refine g_then ?_
   refine g_ret ?_
   refine fin_ret [.tmp 10,.tmp 11] [.pointer (some ⟨g4,0,none⟩),.int .i64 0] rfl ⟨rfl,rfl,trivial⟩ ?_
   obtain rfl:wl=List.replicate n ⟨4,0⟩:=by rw [hwl,show ii=n from by omega]
   have hQ:=S.nilFl (S.nilFl (S.nilFl (S.lstNil (H8.takes [0,1,2,3] (by decide)) RpI) 125 6 rpL) 150 4 askL) 44 3 choL
   refine ⟨(⟨g4,(some ⟨g1,0,none⟩),n,wp,wc,none,0,none,0,none,0,[]⟩:ZP),rfl,rfl,?_⟩
   exact S.big (L:=[_,_,_,_,_,_,_]) (hQ.takes [4,5,6,0,1,2,3,7] (by decide))
end Go.Proofs.YthmmfhdpkddniaaGreatDoor
