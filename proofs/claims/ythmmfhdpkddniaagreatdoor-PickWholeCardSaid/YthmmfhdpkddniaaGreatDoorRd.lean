import Derived.Test.YthmmfhdpkddniaaGreatDoorRc
set_option linter.unusedSimpArgs false
set_option linter.unusedVariables false
namespace Go.Proofs.YthmmfhdpkddniaaGreatDoor
open Go.RowKit
theorem fo40_0:foO Tryz.prog 40 0=some 0:=by kernel_rfl
theorem fo40_1:foO Tryz.prog 40 1=some 1:=by kernel_rfl
theorem fo97_6:foO Tryz.prog 97 6=some 6:=by kernel_rfl
theorem inf4:infO Tryz.prog 4=some (some (.bool false),1,1):=by kernel_rfl
theorem sz40:szO Tryz.prog 40=some 2:=by kernel_rfl
set_option maxRecDepth 20000 in
set_option maxHeartbeats 4000000 in
set_option maxRecDepth 20000 in
set_option maxHeartbeats 4000000 in
theorem wish_r (Z:ZP) (A:PK) (j:Nat) (hZ:ZOK Z A) (hI:PKI j A) (i:Int) (x:Wis)  (w:World) (HS:S w [(ZI Z A)]):Calls Tryz.prog 16 #[.pointer (some ⟨Z.g,0,none⟩),.int .i64 i,.agg #[.int .i64 (x.lv),.int .i64 (x.du)]] w fun e w'=>∃ (Y:ZP),Y.g=Z.g∧ZOK Y (A.wishA i x)∧e=.returned (.int .i64 (A.wishE i x))∧S w' ([(ZI Y (A.wishA i x))]++[Old w (fps [(ZI Z A)])]):=by
 have H00:=HS.beginI
 have H0:S w ([(ZI Z A),Old w (fps [(ZI Z A)])]):=H00
 have hn24:=hI.n24
 have hn1:=hI.n1
 have hpz1:=hI.pz1
 have hpz2:=hI.pz2
 have hla1:=hI.la1
 have hla2:=hI.la2
 have hadl:=hI.hadl
 have hwl:=hI.wishl
 replace H0:S w [Ob Z.g (.cells #[.int .i64 ((A.n:Int)),.int .i64 ((A.pz:Int)),.int .i64 ((A.la:Int)),.string (A.seed),.bool A.ino,.slice Z.hp A.had.length Z.hc,.slice Z.wp A.wish.length Z.wc,.slice Z.ep A.here.length Z.ec,.slice Z.ap A.asked.length Z.ac,.slice Z.pp Z.rs.length Z.pc] 97 (0,0)),Rw 4 1 Z.hp A.had.length Z.hc (fl boolL A.had),Rw 40 2 Z.wp A.wish.length Z.wc (fl wisL A.wish),Rw 44 3 Z.ep A.here.length Z.ec (fl choL A.here),Rw 150 4 Z.ap A.asked.length Z.ac (fl askL A.asked),Rw 125 6 Z.pp Z.rs.length Z.pc (fl rpL Z.rs),(Lst RpI Z.rs),Old w (fps [(ZI Z A)])]:=S.unbig (L:=[_,_,_,_,_,_,_]) H0
 refine enter 44 Tryz.func16 rfl rfl rfl ?_
 refine g_weak [(0,.pointer (some ⟨Z.g,0,none⟩)),(1,.int .i64 i),(2,.agg #[.int .i64 (x.lv),.int .i64 (x.du)])] ⟨rfl,rfl,rfl,trivial⟩ ?_
 refine g_seq ?_
 refine g_region ?_
 refine l_of (s_box H0 (wt0 rfl) rfl rfl rfl rfl ?_)
 intro g1 wq2 H3
 refine l_of (s_val (v:=.int .i64 0) (wt0 rfl) rfl rfl (x_assign rfl rfl) ?_)
 refine g_nil ?_
 refine g_then ?_
 refine g_seq ?_
 refine g_seq ?_
 refine g_region ?_
 refine l_of (s_val (v:=.int .i64 i) (wt0 rfl) rfl rfl (x_move rfl rfl) ?_)
 refine l_of (s_val (v:=.bool (decide ((i:Int)<0))) (wt0 rfl) rfl rfl (x_bin rfl rfl rfl b_lss) ?_)
 refine l_of (s_val (v:=.bool (decide ((i:Int)<0))) (wt0 rfl) rfl rfl (x_move rfl rfl) ?_)
 by_cases hb4:(i:Int)<0
 · skip
   refine l_of (s_not (wn1 rfl rfl rfl rfl (decide_eq_true hb4)) rfl rfl ?_)
   refine l_of (s_not (wn1 rfl rfl rfl rfl (decide_eq_true hb4)) rfl rfl ?_)
   refine l_of (s_not (wn1 rfl rfl rfl rfl (decide_eq_true hb4)) rfl rfl ?_)
   refine l_of (s_not (wn1 rfl rfl rfl rfl (decide_eq_true hb4)) rfl rfl ?_)
   refine l_of (s_not (wn1 rfl rfl rfl rfl (decide_eq_true hb4)) rfl rfl ?_)
   refine l_of (s_not (wn1 rfl rfl rfl rfl (decide_eq_true hb4)) rfl rfl ?_)
   refine l_of (s_val (v:=.bool true) (wt0 rfl) rfl rfl (x_pick_t rfl rfl (decide_eq_true hb4) rfl) ?_)
   refine l_of (s_val (v:=.bool true) (wt0 rfl) rfl rfl (x_move rfl rfl) ?_)
   refine l_of (s_not (wn1 rfl rfl rfl rfl rfl) rfl rfl ?_)
   refine l_of (s_not (wn1 rfl rfl rfl rfl rfl) rfl rfl ?_)
   refine l_of (s_not (wn1 rfl rfl rfl rfl rfl) rfl rfl ?_)
   refine l_of (s_val (v:=.bool true) (wt0 rfl) rfl rfl (x_pick_t rfl rfl rfl rfl) ?_)
   refine l_of (s_val (v:=.bool true) (wt0 rfl) rfl rfl (x_move rfl rfl) ?_)
   refine l_of (s_not (wn1 rfl rfl rfl rfl rfl) rfl rfl ?_)
   refine l_of (s_not (wn1 rfl rfl rfl rfl rfl) rfl rfl ?_)
   refine l_of (s_not (wn1 rfl rfl rfl rfl rfl) rfl rfl ?_)
   refine l_of (s_val (v:=.bool true) (wt0 rfl) rfl rfl (x_pick_t rfl rfl rfl rfl) ?_)
   refine l_of (s_val (v:=.bool true) (wt0 rfl) rfl rfl (x_move rfl rfl) ?_)
   refine l_of (s_not (wn1 rfl rfl rfl rfl rfl) rfl rfl ?_)
   refine l_of (s_not (wn1 rfl rfl rfl rfl rfl) rfl rfl ?_)
   refine l_of (s_not (wn1 rfl rfl rfl rfl rfl) rfl rfl ?_)
   refine l_of (s_val (v:=.bool true) (wt0 rfl) rfl rfl (x_pick_t rfl rfl rfl rfl) ?_)
   refine l_of (s_val (v:=.bool true) (wt0 rfl) rfl rfl (x_move rfl rfl) ?_)
   refine l_of (s_not (wn1 rfl rfl rfl rfl rfl) rfl rfl ?_)
   refine l_of (s_not (wn1 rfl rfl rfl rfl rfl) rfl rfl ?_)
   refine l_of (s_not (wn1 rfl rfl rfl rfl rfl) rfl rfl ?_)
   refine l_of (s_val (v:=.bool true) (wt0 rfl) rfl rfl (x_pick_t rfl rfl rfl rfl) ?_)
   refine g_nil ?_
   refine g_then ?_
   refine g_weak [(0,.pointer (some ⟨Z.g,0,none⟩)),(1,.int .i64 i),(5,.pointer (some ⟨g1,0,none⟩)),(36,.bool true)] ⟨rfl,rfl,rfl,rfl,trivial⟩ ?_
   refine g_cond_t rfl rfl ?_
   refine g_seq ?_
   refine g_region ?_
   refine l_of (s_val (v:=.int .i64 7) (wt0 rfl) rfl rfl (x_assign rfl rfl) ?_)
   refine g_nil ?_
   refine g_then ?_
   refine g_ret ?_
   refine g_then_ret ?_
   refine fin_ret [.tmp 6] [.int .i64 7] rfl ⟨rfl,trivial⟩ ?_
   have h7:(i<0∨(A.n:Int)≤i)∨(x.lv<0∨7<x.lv)∨(x.du<0∨1000000000<x.du):=by omega
   have hE:A.wishE i x=7:=if_pos h7
   have hA9:A.wishA i x=A:=by unfold PK.wishA; rw [hE]; exact if_neg (by decide)
   rw [hA9]
   exact ⟨Z,rfl,hZ,(by rw [hE]; rfl),((S.big (L:=[_,_,_,_,_,_,_]) (H3.takes [1,2,3,4,5,6,7,8] (by decide))).takes [0,1] (by decide))⟩
 · skip
   refine l_of (s_val (v:=.int .i64 i) (wt1 rfl rfl rfl rfl (decide_eq_false hb4)) rfl rfl (x_move rfl rfl) ?_)
   refine l_of (s_val (v:=.pointer (some ⟨Z.g,0,none⟩)) (wt1 rfl rfl rfl rfl (decide_eq_false hb4)) rfl rfl (x_move rfl rfl) ?_)
   refine l_of (s_val (v:=.pointer (some ⟨Z.g,0,none⟩)) (wt1 rfl rfl rfl rfl (decide_eq_false hb4)) rfl rfl (x_nilCheck rfl rfl) ?_)
   refine l_of (s_val (v:=.pointer (some ⟨Z.g,0,none⟩)) (wt1 rfl rfl rfl rfl (decide_eq_false hb4)) rfl rfl (x_fieldAddr rfl rfl fo97_0 rfl) ?_)
   refine l_of (s_val (v:=.int .i64 ((A.n:Int))) (wt1 rfl rfl rfl rfl (decide_eq_false hb4)) rfl rfl (x_load1 H3 1 rfl rfl Tryz.underlying3 rfl rfl rfl) ?_)
   refine l_of (s_val (v:=.bool (decide (((A.n:Int):Int)≤i))) (wt1 rfl rfl rfl rfl (decide_eq_false hb4)) rfl rfl (x_bin rfl rfl rfl b_geq) ?_)
   refine l_of (s_val (v:=.bool (decide (((A.n:Int):Int)≤i))) (wt0 rfl) rfl rfl (x_pick_f rfl rfl (decide_eq_false hb4) rfl) ?_)
   refine l_of (s_val (v:=.bool (decide (((A.n:Int):Int)≤i))) (wt0 rfl) rfl rfl (x_move rfl rfl) ?_)
   by_cases hb5:((A.n:Int):Int)≤i
   · skip
     refine l_of (s_not (wn1 rfl rfl rfl rfl (decide_eq_true hb5)) rfl rfl ?_)
     refine l_of (s_not (wn1 rfl rfl rfl rfl (decide_eq_true hb5)) rfl rfl ?_)
     refine l_of (s_not (wn1 rfl rfl rfl rfl (decide_eq_true hb5)) rfl rfl ?_)
     refine l_of (s_val (v:=.bool true) (wt0 rfl) rfl rfl (x_pick_t rfl rfl (decide_eq_true hb5) rfl) ?_)
     refine l_of (s_val (v:=.bool true) (wt0 rfl) rfl rfl (x_move rfl rfl) ?_)
     refine l_of (s_not (wn1 rfl rfl rfl rfl rfl) rfl rfl ?_)
     refine l_of (s_not (wn1 rfl rfl rfl rfl rfl) rfl rfl ?_)
     refine l_of (s_not (wn1 rfl rfl rfl rfl rfl) rfl rfl ?_)
     refine l_of (s_val (v:=.bool true) (wt0 rfl) rfl rfl (x_pick_t rfl rfl rfl rfl) ?_)
     refine l_of (s_val (v:=.bool true) (wt0 rfl) rfl rfl (x_move rfl rfl) ?_)
     refine l_of (s_not (wn1 rfl rfl rfl rfl rfl) rfl rfl ?_)
     refine l_of (s_not (wn1 rfl rfl rfl rfl rfl) rfl rfl ?_)
     refine l_of (s_not (wn1 rfl rfl rfl rfl rfl) rfl rfl ?_)
     refine l_of (s_val (v:=.bool true) (wt0 rfl) rfl rfl (x_pick_t rfl rfl rfl rfl) ?_)
     refine l_of (s_val (v:=.bool true) (wt0 rfl) rfl rfl (x_move rfl rfl) ?_)
     refine l_of (s_not (wn1 rfl rfl rfl rfl rfl) rfl rfl ?_)
     refine l_of (s_not (wn1 rfl rfl rfl rfl rfl) rfl rfl ?_)
     refine l_of (s_not (wn1 rfl rfl rfl rfl rfl) rfl rfl ?_)
     refine l_of (s_val (v:=.bool true) (wt0 rfl) rfl rfl (x_pick_t rfl rfl rfl rfl) ?_)
     refine g_nil ?_
     refine g_then ?_
     refine g_weak [(0,.pointer (some ⟨Z.g,0,none⟩)),(1,.int .i64 i),(5,.pointer (some ⟨g1,0,none⟩)),(36,.bool true)] ⟨rfl,rfl,rfl,rfl,trivial⟩ ?_
     refine g_cond_t rfl rfl ?_
     refine g_seq ?_
     refine g_region ?_
     refine l_of (s_val (v:=.int .i64 7) (wt0 rfl) rfl rfl (x_assign rfl rfl) ?_)
     refine g_nil ?_
     refine g_then ?_
     refine g_ret ?_
     refine g_then_ret ?_
     refine fin_ret [.tmp 6] [.int .i64 7] rfl ⟨rfl,trivial⟩ ?_
     have h7:(i<0∨(A.n:Int)≤i)∨(x.lv<0∨7<x.lv)∨(x.du<0∨1000000000<x.du):=by omega
     have hE:A.wishE i x=7:=if_pos h7
     have hA9:A.wishA i x=A:=by unfold PK.wishA; rw [hE]; exact if_neg (by decide)
     rw [hA9]
     exact ⟨Z,rfl,hZ,(by rw [hE]; rfl),((S.big (L:=[_,_,_,_,_,_,_]) (H3.takes [1,2,3,4,5,6,7,8] (by decide))).takes [0,1] (by decide))⟩
   · skip
     refine l_of (s_val (v:=.pointer (some ⟨g1,0,none⟩)) (wt1 rfl rfl rfl rfl (decide_eq_false hb5)) rfl rfl (x_fieldAddr rfl rfl fo40_0 rfl) ?_)
     refine l_of (s_val (v:=.int .i64 (x.lv)) (wt1 rfl rfl rfl rfl (decide_eq_false hb5)) rfl rfl (x_load1 H3 0 rfl rfl Tryz.underlying3 rfl rfl rfl) ?_)
     refine l_of (s_val (v:=.bool (decide ((x.lv:Int)<0))) (wt1 rfl rfl rfl rfl (decide_eq_false hb5)) rfl rfl (x_bin rfl rfl rfl b_lss) ?_)
     refine l_of (s_val (v:=.bool (decide ((x.lv:Int)<0))) (wt0 rfl) rfl rfl (x_pick_f rfl rfl (decide_eq_false hb5) rfl) ?_)
     refine l_of (s_val (v:=.bool (decide ((x.lv:Int)<0))) (wt0 rfl) rfl rfl (x_move rfl rfl) ?_)
     by_cases hb6:(x.lv:Int)<0
     · skip
       refine l_of (s_not (wn1 rfl rfl rfl rfl (decide_eq_true hb6)) rfl rfl ?_)
       refine l_of (s_not (wn1 rfl rfl rfl rfl (decide_eq_true hb6)) rfl rfl ?_)
       refine l_of (s_not (wn1 rfl rfl rfl rfl (decide_eq_true hb6)) rfl rfl ?_)
       refine l_of (s_val (v:=.bool true) (wt0 rfl) rfl rfl (x_pick_t rfl rfl (decide_eq_true hb6) rfl) ?_)
       refine l_of (s_val (v:=.bool true) (wt0 rfl) rfl rfl (x_move rfl rfl) ?_)
       refine l_of (s_not (wn1 rfl rfl rfl rfl rfl) rfl rfl ?_)
       refine l_of (s_not (wn1 rfl rfl rfl rfl rfl) rfl rfl ?_)
       refine l_of (s_not (wn1 rfl rfl rfl rfl rfl) rfl rfl ?_)
       refine l_of (s_val (v:=.bool true) (wt0 rfl) rfl rfl (x_pick_t rfl rfl rfl rfl) ?_)
       refine l_of (s_val (v:=.bool true) (wt0 rfl) rfl rfl (x_move rfl rfl) ?_)
       refine l_of (s_not (wn1 rfl rfl rfl rfl rfl) rfl rfl ?_)
       refine l_of (s_not (wn1 rfl rfl rfl rfl rfl) rfl rfl ?_)
       refine l_of (s_not (wn1 rfl rfl rfl rfl rfl) rfl rfl ?_)
       refine l_of (s_val (v:=.bool true) (wt0 rfl) rfl rfl (x_pick_t rfl rfl rfl rfl) ?_)
       refine g_nil ?_
       refine g_then ?_
       refine g_weak [(0,.pointer (some ⟨Z.g,0,none⟩)),(1,.int .i64 i),(5,.pointer (some ⟨g1,0,none⟩)),(36,.bool true)] ⟨rfl,rfl,rfl,rfl,trivial⟩ ?_
       refine g_cond_t rfl rfl ?_
       refine g_seq ?_
       refine g_region ?_
       refine l_of (s_val (v:=.int .i64 7) (wt0 rfl) rfl rfl (x_assign rfl rfl) ?_)
       refine g_nil ?_
       refine g_then ?_
       refine g_ret ?_
       refine g_then_ret ?_
       refine fin_ret [.tmp 6] [.int .i64 7] rfl ⟨rfl,trivial⟩ ?_
       have h7:(i<0∨(A.n:Int)≤i)∨(x.lv<0∨7<x.lv)∨(x.du<0∨1000000000<x.du):=by omega
       have hE:A.wishE i x=7:=if_pos h7
       have hA9:A.wishA i x=A:=by unfold PK.wishA; rw [hE]; exact if_neg (by decide)
       rw [hA9]
       exact ⟨Z,rfl,hZ,(by rw [hE]; rfl),((S.big (L:=[_,_,_,_,_,_,_]) (H3.takes [1,2,3,4,5,6,7,8] (by decide))).takes [0,1] (by decide))⟩
     · skip
       refine l_of (s_val (v:=.pointer (some ⟨g1,0,none⟩)) (wt1 rfl rfl rfl rfl (decide_eq_false hb6)) rfl rfl (x_fieldAddr rfl rfl fo40_0 rfl) ?_)
       refine l_of (s_val (v:=.int .i64 (x.lv)) (wt1 rfl rfl rfl rfl (decide_eq_false hb6)) rfl rfl (x_load1 H3 0 rfl rfl Tryz.underlying3 rfl rfl rfl) ?_)
       refine l_of (s_val (v:=.bool (decide ((7:Int)<x.lv))) (wt1 rfl rfl rfl rfl (decide_eq_false hb6)) rfl rfl (x_bin rfl rfl rfl b_gtr) ?_)
       refine l_of (s_val (v:=.bool (decide ((7:Int)<x.lv))) (wt0 rfl) rfl rfl (x_pick_f rfl rfl (decide_eq_false hb6) rfl) ?_)
       refine l_of (s_val (v:=.bool (decide ((7:Int)<x.lv))) (wt0 rfl) rfl rfl (x_move rfl rfl) ?_)
       by_cases hb7:(7:Int)<x.lv
       · skip
         refine l_of (s_not (wn1 rfl rfl rfl rfl (decide_eq_true hb7)) rfl rfl ?_)
         refine l_of (s_not (wn1 rfl rfl rfl rfl (decide_eq_true hb7)) rfl rfl ?_)
         refine l_of (s_not (wn1 rfl rfl rfl rfl (decide_eq_true hb7)) rfl rfl ?_)
         refine l_of (s_val (v:=.bool true) (wt0 rfl) rfl rfl (x_pick_t rfl rfl (decide_eq_true hb7) rfl) ?_)
         refine l_of (s_val (v:=.bool true) (wt0 rfl) rfl rfl (x_move rfl rfl) ?_)
         refine l_of (s_not (wn1 rfl rfl rfl rfl rfl) rfl rfl ?_)
         refine l_of (s_not (wn1 rfl rfl rfl rfl rfl) rfl rfl ?_)
         refine l_of (s_not (wn1 rfl rfl rfl rfl rfl) rfl rfl ?_)
         refine l_of (s_val (v:=.bool true) (wt0 rfl) rfl rfl (x_pick_t rfl rfl rfl rfl) ?_)
         refine g_nil ?_
         refine g_then ?_
         refine g_weak [(0,.pointer (some ⟨Z.g,0,none⟩)),(1,.int .i64 i),(5,.pointer (some ⟨g1,0,none⟩)),(36,.bool true)] ⟨rfl,rfl,rfl,rfl,trivial⟩ ?_
         refine g_cond_t rfl rfl ?_
         refine g_seq ?_
         refine g_region ?_
         refine l_of (s_val (v:=.int .i64 7) (wt0 rfl) rfl rfl (x_assign rfl rfl) ?_)
         refine g_nil ?_
         refine g_then ?_
         refine g_ret ?_
         refine g_then_ret ?_
         refine fin_ret [.tmp 6] [.int .i64 7] rfl ⟨rfl,trivial⟩ ?_
         have h7:(i<0∨(A.n:Int)≤i)∨(x.lv<0∨7<x.lv)∨(x.du<0∨1000000000<x.du):=by omega
         have hE:A.wishE i x=7:=if_pos h7
         have hA9:A.wishA i x=A:=by unfold PK.wishA; rw [hE]; exact if_neg (by decide)
         rw [hA9]
         exact ⟨Z,rfl,hZ,(by rw [hE]; rfl),((S.big (L:=[_,_,_,_,_,_,_]) (H3.takes [1,2,3,4,5,6,7,8] (by decide))).takes [0,1] (by decide))⟩
       · skip
         refine l_of (s_val (v:=.pointer (some ⟨g1,1,none⟩)) (wt1 rfl rfl rfl rfl (decide_eq_false hb7)) rfl rfl (x_fieldAddr rfl rfl fo40_1 rfl) ?_)
         refine l_of (s_val (v:=.int .i64 (x.du)) (wt1 rfl rfl rfl rfl (decide_eq_false hb7)) rfl rfl (x_load1 H3 0 rfl rfl Tryz.underlying3 rfl rfl rfl) ?_)
         refine l_of (s_val (v:=.bool (decide ((x.du:Int)<0))) (wt1 rfl rfl rfl rfl (decide_eq_false hb7)) rfl rfl (x_bin rfl rfl rfl b_lss) ?_)
         refine l_of (s_val (v:=.bool (decide ((x.du:Int)<0))) (wt0 rfl) rfl rfl (x_pick_f rfl rfl (decide_eq_false hb7) rfl) ?_)
         refine l_of (s_val (v:=.bool (decide ((x.du:Int)<0))) (wt0 rfl) rfl rfl (x_move rfl rfl) ?_)
         by_cases hb8:(x.du:Int)<0
         · skip
           refine l_of (s_not (wn1 rfl rfl rfl rfl (decide_eq_true hb8)) rfl rfl ?_)
           refine l_of (s_not (wn1 rfl rfl rfl rfl (decide_eq_true hb8)) rfl rfl ?_)
           refine l_of (s_not (wn1 rfl rfl rfl rfl (decide_eq_true hb8)) rfl rfl ?_)
           refine l_of (s_val (v:=.bool true) (wt0 rfl) rfl rfl (x_pick_t rfl rfl (decide_eq_true hb8) rfl) ?_)
           refine g_nil ?_
           refine g_then ?_
           refine g_weak [(0,.pointer (some ⟨Z.g,0,none⟩)),(1,.int .i64 i),(5,.pointer (some ⟨g1,0,none⟩)),(36,.bool true)] ⟨rfl,rfl,rfl,rfl,trivial⟩ ?_
           refine g_cond_t rfl rfl ?_
           refine g_seq ?_
           refine g_region ?_
           refine l_of (s_val (v:=.int .i64 7) (wt0 rfl) rfl rfl (x_assign rfl rfl) ?_)
           refine g_nil ?_
           refine g_then ?_
           refine g_ret ?_
           refine g_then_ret ?_
           refine fin_ret [.tmp 6] [.int .i64 7] rfl ⟨rfl,trivial⟩ ?_
           have h7:(i<0∨(A.n:Int)≤i)∨(x.lv<0∨7<x.lv)∨(x.du<0∨1000000000<x.du):=by omega
           have hE:A.wishE i x=7:=if_pos h7
           have hA9:A.wishA i x=A:=by unfold PK.wishA; rw [hE]; exact if_neg (by decide)
           rw [hA9]
           exact ⟨Z,rfl,hZ,(by rw [hE]; rfl),((S.big (L:=[_,_,_,_,_,_,_]) (H3.takes [1,2,3,4,5,6,7,8] (by decide))).takes [0,1] (by decide))⟩
         · skip
           refine l_of (s_val (v:=.pointer (some ⟨g1,1,none⟩)) (wt1 rfl rfl rfl rfl (decide_eq_false hb8)) rfl rfl (x_fieldAddr rfl rfl fo40_1 rfl) ?_)
           refine l_of (s_val (v:=.int .i64 (x.du)) (wt1 rfl rfl rfl rfl (decide_eq_false hb8)) rfl rfl (x_load1 H3 0 rfl rfl Tryz.underlying3 rfl rfl rfl) ?_)
           refine l_of (s_val (v:=.bool (decide ((1000000000:Int)<x.du))) (wt1 rfl rfl rfl rfl (decide_eq_false hb8)) rfl rfl (x_bin rfl rfl rfl b_gtr) ?_)
           refine l_of (s_val (v:=.bool (decide ((1000000000:Int)<x.du))) (wt0 rfl) rfl rfl (x_pick_f rfl rfl (decide_eq_false hb8) rfl) ?_)
           refine g_nil ?_
           refine g_then ?_
           refine g_weak [(0,.pointer (some ⟨Z.g,0,none⟩)),(1,.int .i64 i),(5,.pointer (some ⟨g1,0,none⟩)),(36,.bool (decide ((1000000000:Int)<x.du)))] ⟨rfl,rfl,rfl,rfl,trivial⟩ ?_
           by_cases hb9:(1000000000:Int)<x.du
           · skip
             refine g_cond_t rfl (decide_eq_true hb9) ?_
             refine g_seq ?_
             refine g_region ?_
             refine l_of (s_val (v:=.int .i64 7) (wt0 rfl) rfl rfl (x_assign rfl rfl) ?_)
             refine g_nil ?_
             refine g_then ?_
             refine g_ret ?_
             refine g_then_ret ?_
             refine fin_ret [.tmp 6] [.int .i64 7] rfl ⟨rfl,trivial⟩ ?_
             have h7:(i<0∨(A.n:Int)≤i)∨(x.lv<0∨7<x.lv)∨(x.du<0∨1000000000<x.du):=by omega
             have hE:A.wishE i x=7:=if_pos h7
             have hA9:A.wishA i x=A:=by unfold PK.wishA; rw [hE]; exact if_neg (by decide)
             rw [hA9]
             exact ⟨Z,rfl,hZ,(by rw [hE]; rfl),((S.big (L:=[_,_,_,_,_,_,_]) (H3.takes [1,2,3,4,5,6,7,8] (by decide))).takes [0,1] (by decide))⟩
           · skip
             refine g_cond_f rfl (decide_eq_false hb9) ?_
             refine g_skip ?_
             refine g_then ?_
             refine g_seq ?_
             refine g_any [] (fun wx=>S wx [Ob g1 (.cells #[.int .i64 (x.lv),.int .i64 (x.du)] 40 (0,0)),Ob Z.g (.cells #[.int .i64 ((A.n:Int)),.int .i64 ((A.pz:Int)),.int .i64 ((A.la:Int)),.string (A.seed),.bool A.ino,.slice Z.hp A.had.length Z.hc,.slice Z.wp A.wish.length Z.wc,.slice Z.ep A.here.length Z.ec,.slice Z.ap A.asked.length Z.ac,.slice Z.pp Z.rs.length Z.pc] 97 (0,0))]) [7] (by kernel_rfl) H3 (fun wq10 H11=>?_)
             refine a_take (v:=.pointer (some ⟨Z.g,0,none⟩)) 0 rfl (wt0 rfl) rfl rfl rfl (by kernel_rfl) (by kernel_rfl) (by kernel_rfl) (by kernel_rfl) (H11.mask [true,true,false,false,false,false,false,false,false]) (fun wx H=>x_move rfl rfl) ?_
             refine a_take (v:=.pointer (some ⟨Z.g,0,none⟩)) 1 rfl (wt0 rfl) rfl rfl rfl (by kernel_rfl) (by kernel_rfl) (by kernel_rfl) (by kernel_rfl) (H11.mask [true,true,false,false,false,false,false,false,false]) (fun wx H=>x_nilCheck rfl rfl) ?_
             refine a_take (v:=.pointer (some ⟨Z.g,6,none⟩)) 2 rfl (wt0 rfl) rfl rfl rfl (by kernel_rfl) (by kernel_rfl) (by kernel_rfl) (by kernel_rfl) (H11.mask [true,true,false,false,false,false,false,false,false]) (fun wx H=>x_fieldAddr rfl rfl fo97_6 rfl) ?_
             refine a_take (v:=.slice Z.wp A.wish.length Z.wc) 3 rfl (wt0 rfl) rfl rfl rfl (by kernel_rfl) (by kernel_rfl) (by kernel_rfl) (by kernel_rfl) (H11.mask [true,true,false,false,false,false,false,false,false]) (fun wx H=>x_load1 H 1 rfl rfl Tryz.underlying24 rfl rfl rfl) ?_
             refine a_take (v:=.int .i64 i) 4 rfl (wt0 rfl) rfl rfl rfl (by kernel_rfl) (by kernel_rfl) (by kernel_rfl) (by kernel_rfl) (H11.mask [true,true,false,false,false,false,false,false,false]) (fun wx H=>x_move rfl rfl) ?_
             refine a_take (v:=.agg #[.int .i64 (x.lv),.int .i64 (x.du)]) 5 rfl (wt0 rfl) rfl rfl rfl (by kernel_rfl) (by kernel_rfl) (by kernel_rfl) (by kernel_rfl) (H11.mask [true,true,false,false,false,false,false,false,false]) (fun wx H=>x_loadA H 0 rfl rfl Tryz.underlying40 rfl sz40 rfl rfl rfl) ?_
             refine a_one (i:=6) (by kernel_rfl) rfl ?_
             refine s_val (v:=.pointer ((Z.wp).map fun q=>q.add (((i).toNat) * 2))) (wt0 rfl) rfl rfl (x_idxR ((i).toNat) (H11.rwReads (k:=3) rfl) rfl rfl rfl Tryz.underlying24 sz40 (by omega)) ?_
             refine a_k (H11.mask [true,true,false,false,false,false,false,false,false]) ?_
             refine a_one (i:=7) (by kernel_rfl) rfl ?_
             refine s_stoL (j:=((i).toNat)) wisE x H11 3 (wt0 rfl) rfl rfl rfl rfl rfl rfl sz40 (by omega) ?_
             intro wq12 H13
             replace H13:S wq12 [Ob g1 (.cells #[.int .i64 (x.lv),.int .i64 (x.du)] 40 (0,0)),Ob Z.g (.cells #[.int .i64 ((A.n:Int)),.int .i64 ((A.pz:Int)),.int .i64 ((A.la:Int)),.string (A.seed),.bool A.ino,.slice Z.hp A.had.length Z.hc,.slice Z.wp A.wish.length Z.wc,.slice Z.ep A.here.length Z.ec,.slice Z.ap A.asked.length Z.ac,.slice Z.pp Z.rs.length Z.pc] 97 (0,0)),Rw 4 1 Z.hp A.had.length Z.hc (fl boolL A.had),Rw 40 2 Z.wp A.wish.length Z.wc (fl wisL (A.wish.set ((i).toNat) x)),Rw 44 3 Z.ep A.here.length Z.ec (fl choL A.here),Rw 150 4 Z.ap A.asked.length Z.ac (fl askL A.asked),Rw 125 6 Z.pp Z.rs.length Z.pc (fl rpL Z.rs),(Lst RpI Z.rs),Old w (fps [(ZI Z A)])]:=H13
             have H14:S wq12 [Ob g1 (.cells #[.int .i64 (x.lv),.int .i64 (x.du)] 40 (0,0)),Ob Z.g (.cells #[.int .i64 ((A.n:Int)),.int .i64 ((A.pz:Int)),.int .i64 ((A.la:Int)),.string (A.seed),.bool A.ino,.slice Z.hp A.had.length Z.hc,.slice Z.wp ((A.wish.set (i).toNat x).length) Z.wc,.slice Z.ep A.here.length Z.ec,.slice Z.ap A.asked.length Z.ac,.slice Z.pp Z.rs.length Z.pc] 97 (0,0)),Rw 4 1 Z.hp A.had.length Z.hc (fl boolL A.had),Rw 40 2 Z.wp ((A.wish.set (i).toNat x).length) Z.wc (fl wisL (A.wish.set (i).toNat x)),Rw 44 3 Z.ep A.here.length Z.ec (fl choL A.here),Rw 150 4 Z.ap A.asked.length Z.ac (fl askL A.asked),Rw 125 6 Z.pp Z.rs.length Z.pc (fl rpL Z.rs),(Lst RpI Z.rs),Old w (fps [(ZI Z A)])]:=by rw [show (A.wish.set (i).toNat x).length=A.wish.length from List.length_set]; exact H13
             refine a_kt rfl ?_
             refine a_done (by kernel_rfl) ?_
             refine g_then ?_
             refine g_seq ?_
             refine g_region ?_
             refine l_of (s_val (v:=.int .i64 0) (wt0 rfl) rfl rfl (x_assign rfl rfl) ?_)
             refine g_nil ?_
             refine g_then ?_
             refine g_ret ?_
             refine fin_ret [.tmp 6] [.int .i64 0] rfl ⟨rfl,trivial⟩ ?_
             have h7:¬ ((i<0∨(A.n:Int)≤i)∨(x.lv<0∨7<x.lv)∨(x.du<0∨1000000000<x.du)):=by omega
             have hE:A.wishE i x=0:=if_neg h7
             have hA9:A.wishA i x={ A with wish:=A.wish.set i.toNat x }:=if_pos hE
             rw [hA9,hE]
             exact ⟨Z,rfl,hZ,rfl,((S.big (L:=[_,_,_,_,_,_,_]) (H14.takes [1,2,3,4,5,6,7,8] (by decide))).takes [0,1] (by decide))⟩
theorem map_eraseR {α β:Type} (f:α→β):∀ (l:List α) (i:Nat),(l.eraseIdx i).map f=(l.map f).eraseIdx i
 | [],i=>rfl
 | a :: l,0=>rfl
 | a :: l,i+1=>by show f a :: (l.eraseIdx i).map f=f a :: (l.map f).eraseIdx i; rw [map_eraseR f l i]
end Go.Proofs.YthmmfhdpkddniaaGreatDoor
