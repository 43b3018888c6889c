import Derived.Test.YtpbjekdjebjbkaaGreatFk
import Derived.Test.YtpbjekdjebjbkaaGreatSp
import Derived.Test.YtpbjekdjebjbkaaGreatProg
set_option linter.unusedSimpArgs false
set_option linter.unusedVariables false
namespace Go.Proofs.YtpbjekdjebjbkaaGreat
open Go.RowKit

theorem sz102 : szO Tryz.prog 102 = some 10 := by kernel_rfl
theorem ex_cast {P : Program} {N : Nat} {f : Fr} {ds : List Deferred} {w w' : World} {o : Oper} {v v' : Value} (h : Ex P N f ds o w v w') (e : v = v') : Ex P N f ds o w v' w' := e ▸ h
set_option maxRecDepth 20000 in
set_option maxHeartbeats 4000000 in
theorem insS_s {β : Type} (d : β) (ev : β → Value) (cs : β → Array Value) (hcs : ∀ x, ev x = .agg (cs x)) (hsz : ∀ x, (ev x).cells.size = 10) (ho : ∀ x, (ev x).cells.toList.all (·.oneCell') = true) (z : List β) (nn : Nat) (hz : z.length = nn) (p : Option Addr) (cc : Nat) (hm : nn ≤ 1099511627776) (c : β → β → Int) (gc : Nat) (fi ca : Array Value) (X : Item) (hc : Cmps Tryz.prog gc fi ca X ev c z) (a b : Nat) (hab : a ≤ b) (hb : b ≤ nn) (w : World) (HS : S w [Rw 102 10 p nn cc (mV ev z), X]) : Calls Tryz.prog 131 #[.slice p nn cc, .int .i64 ((a : Int)), .int .i64 ((b : Int)), .func (.func gc) fi ca] w fun e w' => e = .returned (.tuple #[]) ∧ S w' ([Rw 102 10 p nn cc (mV ev (insS d c a b z)), X] ++ [Old w (fps [Rw 102 10 p nn cc (mV ev z), X])]) := by
 have H0 := HS.beginI
 refine enter 53 Tryz.func131 rfl rfl rfl ?_
 refine g_weak [(0, .slice p nn cc), (1, .int .i64 ((a : Int))), (2, .int .i64 ((b : Int))), (3, .func (.func gc) fi ca)] ⟨rfl, rfl, rfl, rfl, trivial⟩ ?_
 refine w_s ?_
 refine w_m ?_
 refine w_b (v := .int .i64 (((a + 1 : Nat) : Int))) (hb := (b_addN (a := a) (b := 1) (by omega))) ?_
 refine w_a ?_
 refine w_e ?_
 refine g_block ?_
 refine g_loop (ι := Nat × List β) (fun (i, cur) => [(0, .slice p nn cc), (1, .int .i64 ((a : Int))), (2, .int .i64 ((b : Int))), (3, .func (.func gc) fi ca), (8, .int .i64 ((i : Int)))]) (fun (i, cur) wx => (a + 1 ≤ i ∧ i ≤ max b (a + 1)) ∧ (cur.length = nn) ∧ (cur.Perm z) ∧ (insOut d c a (b - i) i cur = insS d c a b z) ∧ S wx [Rw 102 10 p nn cc (mV ev cur), X, Old w (fps [Rw 102 10 p nn cc (mV ev z), X])]) (fun (i, cur) => b - i) ((a + 1), z) ⟨rfl, rfl, rfl, rfl, rfl, trivial⟩ ⟨(by omega), hz, (.refl _), rfl, (H0.takes [0, 1, 2] (by decide))⟩ ?_
 rintro ⟨i, cur⟩ wq1 ⟨hi, hcl, hpp, hR, H2⟩
 refine g_weak [(0, .slice p nn cc), (1, .int .i64 ((a : Int))), (2, .int .i64 ((b : Int))), (3, .func (.func gc) fi ca), (8, .int .i64 ((i : Int)))] ⟨rfl, rfl, rfl, rfl, rfl, trivial⟩ ?_
 refine g_seq ?_
 refine w_s ?_
 refine w_r2 ?_
 refine w_b ?_
 refine w_e ?_
 by_cases hb3 : ((i : Int) : Int) < (b : Int)
 ·
  refine g_cond_t rfl (decide_eq_true hb3) ?_
  refine g_skip ?_
  refine g_then ?_
  refine g_seq ?_
  refine g_block ?_
  refine w_s ?_
  refine w_r2 ?_
  refine w_e ?_
  refine g_block ?_
  refine g_loop (ι := Nat × List β) (fun (j, cur2) => [(0, .slice p nn cc), (1, .int .i64 ((a : Int))), (2, .int .i64 ((b : Int))), (3, .func (.func gc) fi ca), (8, .int .i64 ((i : Int))), (9, .int .i64 ((j : Int)))]) (fun (j, cur2) wx => (a ≤ j ∧ j ≤ i) ∧ (cur2.length = nn) ∧ (cur2.Perm z) ∧ (insIn d c a j cur2 = insIn d c a i cur) ∧ S wx [Rw 102 10 p nn cc (mV ev cur2), X, Old w (fps [Rw 102 10 p nn cc (mV ev z), X])]) (fun (j, cur2) => j) (i, cur) ⟨rfl, rfl, rfl, rfl, rfl, rfl, trivial⟩ ⟨(by omega), hcl, hpp, rfl, (H2.takes [0, 1, 2] (by decide))⟩ ?_
  rintro ⟨j, cur2⟩ wq4 ⟨hj, hcl2, hpp2, hR2, H5⟩
  refine g_weak [(0, .slice p nn cc), (1, .int .i64 ((a : Int))), (2, .int .i64 ((b : Int))), (3, .func (.func gc) fi ca), (8, .int .i64 ((i : Int))), (9, .int .i64 ((j : Int)))] ⟨rfl, rfl, rfl, rfl, rfl, rfl, trivial⟩ ?_
  have hpm : ∀ y, y ∈ cur2 → y ∈ z := fun y hy => (hpp2.mem_iff).1 hy
  refine g_seq ?_
  refine g_seq ?_
  refine g_any [] (fun wx => S wx [Rw 102 10 p nn cc (mV ev cur2), X, Old w (fps [Rw 102 10 p nn cc (mV ev z), X])]) [] (by kernel_rfl) H5 (fun wq6 H7 => ?_)
  refine w_t 0 rfl H7 (fun _ _ => xm) ?_
  refine w_t 1 rfl H7 (fun _ _ => xm) ?_
  refine w_t 2 rfl H7 (fun _ _ => x_bin rfl rfl rfl b_gtr) ?_
  refine w_t 3 rfl H7 (fun _ _ => xm) ?_
  by_cases hb8 : ((a : Int) : Int) < (j : Int)
  ·
   refine w_tg 4 rfl (decide_eq_true hb8) H7 (fun _ _ => xm) ?_
   refine w_tg 5 rfl (decide_eq_true hb8) H7 (fun _ _ => xm) ?_
   refine w_tg 6 rfl (decide_eq_true hb8) H7 (fun _ _ => xm) ?_
   refine w_tg (v := .pointer ((p).map fun q => q.add (j * 10))) 7 rfl (decide_eq_true hb8) H7 (fun _ _ => x_idxP j (H7.rwSome (k := 0) rfl (by omega)) rfl rfl rfl Tryz.underlying98 sz102 (by omega)) ?_
   refine w_tg (v := ev (cur2.getD j d)) 8 rfl (decide_eq_true hb8) H7 (fun _ H => ex_cast (x_loadRA (vs := (ev (cur2.getD j d)).cells.toList) j (H.rwReads (k := 0) rfl) (by omega) rfl rfl Tryz.underlying102 rfl sz102 (by rw [Array.length_toList]; exact hsz _) (mV_atR hsz (by omega))) (by rw [hcs]; rfl)) ?_
   refine w_tg 9 rfl (decide_eq_true hb8) H7 (fun _ _ => xm) ?_
   refine w_tg 10 rfl (decide_eq_true hb8) H7 (fun _ _ => xm) ?_
   refine w_tg (v := .int .i64 (((j - 1 : Nat) : Int))) 11 rfl (decide_eq_true hb8) H7 (fun _ _ => x_bin rfl rfl rfl (b_subN (a := j) (b := 1) (by omega))) ?_
   refine w_tg (v := .pointer ((p).map fun q => q.add ((j - 1) * 10))) 12 rfl (decide_eq_true hb8) H7 (fun _ _ => x_idxP (j - 1) (H7.rwSome (k := 0) rfl (by omega)) rfl rfl rfl Tryz.underlying98 sz102 (by omega)) ?_
   refine w_tg (v := ev (cur2.getD (j - 1) d)) 13 rfl (decide_eq_true hb8) H7 (fun _ H => ex_cast (x_loadRA (vs := (ev (cur2.getD (j - 1) d)).cells.toList) (j - 1) (H.rwReads (k := 0) rfl) (by omega) rfl rfl Tryz.underlying102 rfl sz102 (by rw [Array.length_toList]; exact hsz _) (mV_atR hsz (by omega))) (by rw [hcs]; rfl)) ?_
   refine a_one (i := 14) (by kernel_rfl) rfl ?_
   refine s_call (wt1 rfl rfl rfl rfl (decide_eq_true hb8)) (x_call rfl rfl rfl hc.ok) (hc.does _ (hpm _ (getD_mem (by omega))) _ (hpm _ (getD_mem (by omega))) _ (H7.takes [1] (by decide))) ?_
   rintro _ wq9 ⟨rfl, H10⟩
   replace H10 : S wq9 [X, Rw 102 10 p nn cc (mV ev cur2), Old w (fps [Rw 102 10 p nn cc (mV ev z), X])] := by have h := H7.absorbI [1] H10; exact h
   refine b_ret rfl rfl ?_
   refine a_k (H10.takes [1, 0, 2] (by decide)) ?_
   refine w_tg 15 rfl (decide_eq_true hb8) (H10.takes [1, 0, 2] (by decide)) (fun _ _ => x_bin rfl rfl rfl b_lss) ?_
   refine w_t (v := .bool (decide (((c (cur2.getD j d) (cur2.getD (j - 1) d)) : Int) < 0))) 16 rfl (H10.takes [1, 0, 2] (by decide)) (fun _ _ => x_pick_t rfl rfl (decide_eq_true hb8) rfl) ?_
   refine a_done (by kernel_rfl) ?_
   refine g_then ?_
   by_cases hb11 : ((c (cur2.getD j d) (cur2.getD (j - 1) d)) : Int) < 0
   ·
    refine g_cond_t rfl (decide_eq_true hb11) ?_
    refine g_skip ?_
    refine g_then ?_
    refine g_seq ?_
    refine g_block ?_
    refine g_anyY [] (fun wx => S wx [X, Rw 102 10 p nn cc (mV ev cur2), Old w (fps [Rw 102 10 p nn cc (mV ev z), X])]) (fun wx => S wx [X, Old w (fps [Rw 102 10 p nn cc (mV ev z), X])]) [15, 17] (by kernel_rfl) H10 (fun wq12 H13 => ?_)
    refine w_y 0 rfl (wt0 rfl) rfl rfl rfl (by kernel_rfl) (fun _ => x_move rfl rfl) ?_
    refine w_y 1 rfl (wt0 rfl) rfl rfl rfl (by kernel_rfl) (fun _ => x_move rfl rfl) ?_
    refine w_y 2 rfl (wt0 rfl) rfl rfl rfl (by kernel_rfl) (fun _ => x_move rfl rfl) ?_
    refine w_y 3 rfl (wt0 rfl) rfl rfl rfl (by kernel_rfl) (fun _ => x_move rfl rfl) ?_
    refine w_y (v := .int .i64 (((j - 1 : Nat) : Int))) 4 rfl (wt0 rfl) rfl rfl rfl (by kernel_rfl) (fun _ => x_bin rfl rfl rfl (b_subN (a := j) (b := 1) (by omega))) ?_
    refine w_y 5 rfl (wt0 rfl) rfl rfl rfl (by kernel_rfl) (fun _ => x_move rfl rfl) ?_
    refine w_y 6 rfl (wt0 rfl) rfl rfl rfl (by kernel_rfl) (fun _ => x_move rfl rfl) ?_
    refine w_y (v := .int .i64 (((j - 1 : Nat) : Int))) 7 rfl (wt0 rfl) rfl rfl rfl (by kernel_rfl) (fun _ => x_bin rfl rfl rfl (b_subN (a := j) (b := 1) (by omega))) ?_
    refine w_y (v := .pointer ((p).map fun q => q.add ((j - 1) * 10))) 8 rfl (wt0 rfl) rfl rfl rfl (by kernel_rfl) (fun _ => x_idxP (j - 1) (H13.rwSome (k := 1) rfl (by omega)) rfl rfl rfl Tryz.underlying98 sz102 (by omega)) ?_
    refine y_take (v := ev (cur2.getD (j - 1) d)) 9 rfl (wt0 rfl) rfl rfl rfl (by kernel_rfl) (by kernel_rfl) (by kernel_rfl) (by kernel_rfl) (by kernel_rfl) H13 (fun wx H => ex_cast (x_loadRA (vs := (ev (cur2.getD (j - 1) d)).cells.toList) (j - 1) (H.rwReads (k := 1) rfl) (by omega) rfl rfl Tryz.underlying102 rfl sz102 (by rw [Array.length_toList]; exact hsz _) (mV_atR hsz (by omega))) (by rw [hcs]; rfl)) ?_
    refine w_y 10 rfl (wt0 rfl) rfl rfl rfl (by kernel_rfl) (fun _ => x_move rfl rfl) ?_
    refine w_y 11 rfl (wt0 rfl) rfl rfl rfl (by kernel_rfl) (fun _ => x_move rfl rfl) ?_
    refine w_y (v := .pointer ((p).map fun q => q.add (j * 10))) 12 rfl (wt0 rfl) rfl rfl rfl (by kernel_rfl) (fun _ => x_idxP j (H13.rwSome (k := 1) rfl (by omega)) rfl rfl rfl Tryz.underlying98 sz102 (by omega)) ?_
    refine y_take (v := ev (cur2.getD j d)) 13 rfl (wt0 rfl) rfl rfl rfl (by kernel_rfl) (by kernel_rfl) (by kernel_rfl) (by kernel_rfl) (by kernel_rfl) H13 (fun wx H => ex_cast (x_loadRA (vs := (ev (cur2.getD j d)).cells.toList) j (H.rwReads (k := 1) rfl) (by omega) rfl rfl Tryz.underlying102 rfl sz102 (by rw [Array.length_toList]; exact hsz _) (mV_atR hsz (by omega))) (by rw [hcs]; rfl)) ?_
    refine w_y (v := .pointer ((p).map fun q => q.add (j * 10))) 14 rfl (wt0 rfl) rfl rfl rfl (by kernel_rfl) (fun _ => x_idxP j (H13.rwSome (k := 1) rfl (by omega)) rfl rfl rfl Tryz.underlying98 sz102 (by omega)) ?_
    refine y_one (i := 15) (by kernel_rfl) rfl ?_
    refine s_storeW (j := j) H13 1 (wt0 rfl) rfl rfl rfl rfl rfl (by rw [hsz]; exact sz102) (hsz _) (ho _) (by omega) ?_
    intro wq14 H15
    rw [mV_set hsz (cur2.getD (j - 1) d) (by first | omega | (simp only [List.length_set]; omega))] at H15
    replace H15 : S wq14 [X, Rw 102 10 p nn cc (mV ev (cur2.set j (cur2.getD (j - 1) d))), Old w (fps [Rw 102 10 p nn cc (mV ev z), X])] := H15
    refine y_kt rfl (H15.mask [true, false, true]) ?_
    refine w_y (v := .pointer ((p).map fun q => q.add ((j - 1) * 10))) 16 rfl (wt0 rfl) rfl rfl rfl (by kernel_rfl) (fun _ => x_idxP (j - 1) (H15.rwSome (k := 1) rfl (by omega)) rfl rfl rfl Tryz.underlying98 sz102 (by omega)) ?_
    refine y_one (i := 17) (by kernel_rfl) rfl ?_
    refine s_storeW (j := (j - 1)) H15 1 (wt0 rfl) rfl rfl rfl rfl rfl (by rw [hsz]; exact sz102) (hsz _) (ho _) (by omega) ?_
    intro wq16 H17
    rw [mV_set hsz (cur2.getD j d) (by first | omega | (simp only [List.length_set]; omega))] at H17
    replace H17 : S wq16 [X, Rw 102 10 p nn cc (mV ev ((cur2.set j (cur2.getD (j - 1) d)).set (j - 1) (cur2.getD j d))), Old w (fps [Rw 102 10 p nn cc (mV ev z), X])] := H17
    refine y_kt rfl (H17.mask [true, false, true]) ?_
    refine y_done (by kernel_rfl) ?_
    refine g_in ?_
    refine g_then ?_
    refine g_weak [(0, .slice p nn cc), (1, .int .i64 ((a : Int))), (2, .int .i64 ((b : Int))), (3, .func (.func gc) fi ca), (8, .int .i64 ((i : Int))), (9, .int .i64 ((j : Int))), (22, .func (.func gc) fi ca), (23, .slice p nn cc), (24, .int .i64 ((j : Int))), (25, .pointer ((p).map fun q => q.add (j * 10))), (26, ev (cur2.getD j d)), (27, .slice p nn cc), (28, .int .i64 ((j : Int))), (29, .int .i64 (((j - 1 : Nat) : Int))), (30, .pointer ((p).map fun q => q.add ((j - 1) * 10))), (31, ev (cur2.getD (j - 1) d)), (32, .int .i64 ((c (cur2.getD j d) (cur2.getD (j - 1) d)))), (33, .bool (decide (((c (cur2.getD j d) (cur2.getD (j - 1) d)) : Int) < 0)))] ⟨rfl, rfl, rfl, rfl, rfl, rfl, rfl, rfl, rfl, rfl, rfl, rfl, rfl, rfl, rfl, rfl, rfl, rfl, trivial⟩ ?_
    refine g_region ?_
    refine w_m ?_
    refine w_b (v := .int .i64 (((j - 1 : Nat) : Int))) (hb := (b_subN (a := j) (b := 1) (by omega))) ?_
    refine w_a ?_
    refine w_e ?_
    refine g_round (i := (j, cur2)) ((j - 1), ((cur2.set j (cur2.getD (j - 1) d)).set (j - 1) (cur2.getD j d))) ?_ ?_ ?_
    · exact ⟨rfl, rfl, rfl, rfl, rfl, rfl, trivial⟩
    · exact ⟨(by omega), (by simp only [List.length_set]; exact hcl2), ((swp_perm (by omega) (by omega)).trans hpp2), ((insIn_go (by omega) hb11).symm.trans hR2), (H17.takes [1, 0, 2] (by decide))⟩
    · (try dsimp only); omega
   ·
    refine g_cond_f rfl (decide_eq_false hb11) ?_
    refine g_exit ?_
    have hE : insIn d c a i cur = cur2 := hR2.symm.trans (insIn_stop hb11)
    refine g_then_exit ?_
    refine g_then_exit ?_
    refine g_in_hit ?_
    refine g_in ?_
    refine g_then ?_
    refine g_region ?_
    refine w_m ?_
    refine w_b (v := .int .i64 (((i + 1 : Nat) : Int))) (hb := (b_addN (a := i) (b := 1) (by omega))) ?_
    refine w_a ?_
    refine w_e ?_
    refine g_round (i := (i, cur)) ((i + 1), cur2) ?_ ?_ ?_
    · exact ⟨rfl, rfl, rfl, rfl, rfl, trivial⟩
    · exact ⟨(by omega), hcl2, hpp2, (by rw [← hE, ← insOut_go (by omega)]; exact hR), (H10.takes [1, 0, 2] (by decide))⟩
    · (try dsimp only); omega
  ·
   refine w_tn 4 rfl (decide_eq_false hb8) H7 ?_
   refine w_tn 5 rfl (decide_eq_false hb8) H7 ?_
   refine w_tn 6 rfl (decide_eq_false hb8) H7 ?_
   refine w_tn 7 rfl (decide_eq_false hb8) H7 ?_
   refine w_tn 8 rfl (decide_eq_false hb8) H7 ?_
   refine w_tn 9 rfl (decide_eq_false hb8) H7 ?_
   refine w_tn 10 rfl (decide_eq_false hb8) H7 ?_
   refine w_tn 11 rfl (decide_eq_false hb8) H7 ?_
   refine w_tn 12 rfl (decide_eq_false hb8) H7 ?_
   refine w_tn 13 rfl (decide_eq_false hb8) H7 ?_
   refine a_one (i := 14) (by kernel_rfl) rfl ?_
   refine s_not (wn1 rfl rfl rfl rfl (decide_eq_false hb8)) rfl rfl ?_
   refine a_k H7 ?_
   refine w_tn 15 rfl (decide_eq_false hb8) H7 ?_
   refine w_t (v := .bool false) 16 rfl H7 (fun _ _ => x_pick_f rfl rfl (decide_eq_false hb8) rfl) ?_
   refine a_done (by kernel_rfl) ?_
   refine g_then ?_
   refine g_cond_f rfl rfl ?_
   refine g_exit ?_
   have hE : insIn d c a i cur = cur2 := hR2.symm.trans (insIn_end (by omega))
   refine g_then_exit ?_
   refine g_then_exit ?_
   refine g_in_hit ?_
   refine g_in ?_
   refine g_then ?_
   refine g_region ?_
   refine w_m ?_
   refine w_b (v := .int .i64 (((i + 1 : Nat) : Int))) (hb := (b_addN (a := i) (b := 1) (by omega))) ?_
   refine w_a ?_
   refine w_e ?_
   refine g_round (i := (i, cur)) ((i + 1), cur2) ?_ ?_ ?_
   · exact ⟨rfl, rfl, rfl, rfl, rfl, trivial⟩
   · exact ⟨(by omega), hcl2, hpp2, (by rw [← hE, ← insOut_go (by omega)]; exact hR), (H7.takes [0, 1, 2] (by decide))⟩
   · (try dsimp only); omega
 ·
  refine g_cond_f rfl (decide_eq_false hb3) ?_
  refine g_exit ?_
  refine g_then_exit ?_
  refine g_then_exit ?_
  refine g_in_hit ?_
  refine fin_end [] [] rfl trivial ?_
  exact ⟨rfl, by rw [← hR, insOut_end (by omega)]; exact (H2.takes [0, 1, 2] (by decide))⟩
end Go.Proofs.YtpbjekdjebjbkaaGreat
namespace Go.Proofs.YtpbjekdjebjbkaaGreat
open Go.RowKit

def Sym_s {β : Type} (d : β) (ev : β → Value) (gc : Nat) (fi ca : Array Value) (c : β → β → Int) (X : Item) (zall : List β) (nn : Nat) (p : Option Addr) (cc n : Nat) : Prop :=
  ∀ (z : List β) (_ : z.length = nn) (_ : z.Perm zall) (a m b : Nat) (_ : a < m) (_ : m < b) (_ : b ≤ nn) (_ : b - a ≤ n) (w : World) (_ : S w [Rw 102 10 p nn cc (mV ev z), X]),
    Calls Tryz.prog 132 #[.slice p nn cc, .int .i64 (a : Int), .int .i64 (m : Int), .int .i64 (b : Int), .func (.func gc) fi ca] w fun e w' => e = .returned (.tuple #[]) ∧ S w' ([Rw 102 10 p nn cc (mV ev (symS d c n a m b z)), X] ++ [Old w (fps [Rw 102 10 p nn cc (mV ev z), X])])
end Go.Proofs.YtpbjekdjebjbkaaGreat
namespace Go.Proofs.YtpbjekdjebjbkaaGreat
open Go.RowKit

theorem cl114 : callable Tryz.prog 114 = true := by kernel_rfl
theorem cl131 : callable Tryz.prog 131 = true := by kernel_rfl
theorem Cmps.perm {P : Program} {g : Nat} {fi ca : Array Value} {X : Item} {β : Type} {ev : β → Value} {c : β → β → Int} {l l' : List β} (h : Cmps P g fi ca X ev c l) (hp : l'.Perm l) : Cmps P g fi ca X ev c l' :=
  ⟨h.ok, fun x hx y hy w HS => h.does x ((hp.mem_iff).1 hx) y ((hp.mem_iff).1 hy) w HS⟩
theorem insB_go {β : Type} {d : β} {c : β → β → Int} {s n k a : Nat} {l : List β} (h : a + s ≤ n) (hk : 1 ≤ k) : insB d c s n k a l = insB d c s n (k - 1) (a + s) (insS d c a (a + s) l) := by
  obtain ⟨j, rfl⟩ : ∃ j, k = j + 1 := ⟨k - 1, by omega⟩
  conv => lhs; unfold insB
  rw [if_pos h]; rfl
theorem insB_end {β : Type} {d : β} {c : β → β → Int} {s n k a : Nat} {l : List β} (h : ¬ a + s ≤ n) : insB d c s n k a l = insS d c a n l := by
  cases k with
  | zero => rfl
  | succ k => unfold insB; rw [if_neg h]
theorem symA_end {β : Type} {d : β} {c : β → β → Int} {n k s : Nat} {l : List β} (h : ¬ s < n) : symA d c n k s l = l := by
  cases k with
  | zero => rfl
  | succ k => unfold symA; rw [if_neg h]
set_option maxRecDepth 20000 in
set_option maxHeartbeats 4000000 in
theorem stable0_s {β : Type} (d : β) (ev : β → Value) (cs : β → Array Value) (hcs : ∀ x, ev x = .agg (cs x)) (hsz : ∀ x, (ev x).cells.size = 10) (ho : ∀ x, (ev x).cells.toList.all (·.oneCell') = true) (z : List β) (nn : Nat) (hz : z.length = nn) (p : Option Addr) (cc : Nat) (hm : nn ≤ 1099511627776) (c : β → β → Int) (gc : Nat) (fi ca : Array Value) (X : Item) (hc : Cmps Tryz.prog gc fi ca X ev c z) (h20 : nn ≤ 20)  (w : World) (HS : S w [Rw 102 10 p nn cc (mV ev z), X]) : Calls Tryz.prog 114 #[.slice p nn cc, .int .i64 ((nn : Int)), .func (.func gc) fi ca] w fun e w' => e = .returned (.tuple #[]) ∧ S w' ([Rw 102 10 p nn cc (mV ev (stableS d c z)), X] ++ [Old w (fps [Rw 102 10 p nn cc (mV ev z), X])]) := by
 have H0 := HS.beginI
 refine enter 63 Tryz.func114 rfl rfl rfl ?_
 refine g_weak [(0, .slice p nn cc), (1, .int .i64 ((nn : Int))), (2, .func (.func gc) fi ca)] ⟨rfl, rfl, rfl, trivial⟩ ?_
 refine w_s ?_
 refine w_a ?_
 refine w_e ?_
 refine w_s ?_
 refine w_r3 ?_
 refine w_e ?_
 refine g_seq ?_
 refine g_block ?_
 refine g_loop (ι := Nat × Nat × List β) (fun (k, a, cur) => [(0, .slice p nn cc), (1, .int .i64 ((nn : Int))), (2, .func (.func gc) fi ca), (6, .int .i64 20), (7, .int .i64 ((a : Int))), (8, .int .i64 (((a + 20 : Nat) : Int)))]) (fun (k, a, cur) wx => (a ≤ nn) ∧ (nn ≤ a + k) ∧ (cur.length = nn) ∧ (cur.Perm z) ∧ (insB d c 20 nn k a cur = insB d c 20 nn nn 0 z) ∧ S wx [Rw 102 10 p nn cc (mV ev cur), X, Old w (fps [Rw 102 10 p nn cc (mV ev z), X])]) (fun (k, a, cur) => nn - a) (nn, 0, z) ⟨rfl, rfl, rfl, rfl, rfl, rfl, trivial⟩ ⟨(Nat.zero_le _), (by omega), hz, (.refl _), rfl, (H0.takes [0, 1, 2] (by decide))⟩ ?_
 rintro ⟨k, a, cur⟩ wq1 ⟨ha, hk, hcl, hpp, hR, H2⟩
 refine g_weak [(0, .slice p nn cc), (1, .int .i64 ((nn : Int))), (2, .func (.func gc) fi ca), (6, .int .i64 20), (7, .int .i64 ((a : Int))), (8, .int .i64 (((a + 20 : Nat) : Int)))] ⟨rfl, rfl, rfl, rfl, rfl, rfl, trivial⟩ ?_
 refine g_seq ?_
 refine w_s ?_
 refine w_r2 ?_
 refine w_b ?_
 refine w_e ?_
 by_cases hb3 : (((a + 20 : Nat) : Int) : Int) ≤ (nn : Int)
 ·
  refine g_cond_t rfl (decide_eq_true hb3) ?_
  refine g_skip ?_
  refine g_then ?_
  refine g_block ?_
  refine w_s ?_
  refine w_r4 ?_
  have hl6 : (insS d c a (a + 20) cur).length = nn := by rw [(insS_mv (d := d) (c := c) (a := a) (by rw [hcl]; omega)).len]; exact hcl
  have hp7 : (insS d c a (a + 20) cur).Perm z := (insS_mv (d := d) (c := c) (a := a) (by rw [hcl]; omega)).1.trans (hpp)
  refine l_of (s_call (wt0 rfl) (x_call' rfl rfl cl131) (insS_s d ev cs hcs hsz ho cur nn hcl p cc hm c gc fi ca X (hc.perm (hpp)) a (a + 20) (by omega) (by omega) _ (H2.takes [0, 1] (by decide))) ?_)
  rintro _ wq4 ⟨rfl, H5⟩
  replace H5 : S wq4 [Rw 102 10 p nn cc (mV ev (insS d c a (a + 20) cur)), X, Old w (fps [Rw 102 10 p nn cc (mV ev z), X])] := by have h := H2.absorbI [0, 1] H5; exact h
  refine b_ret rfl rfl ?_
  refine w_e ?_
  refine w_s ?_
  refine w_r2 ?_
  refine w_e ?_
  refine g_region ?_
  refine w_r2 ?_
  refine w_b (v := .int .i64 (((a + 20 + 20 : Nat) : Int))) (hb := (b_addN (a := a + 20) (b := 20) (by omega))) ?_
  refine w_a ?_
  refine g_nil ?_
  refine g_in ?_
  refine g_then ?_
  refine g_round (i := (k, a, cur)) ((k - 1), (a + 20), (insS d c a (a + 20) cur)) ?_ ?_ ?_
  · exact ⟨rfl, rfl, rfl, rfl, rfl, rfl, trivial⟩
  · exact ⟨(by omega), (by omega), hl6, hp7, ((insB_go (by omega) (by omega)).symm.trans hR), (H5.takes [0, 1, 2] (by decide))⟩
  · (try dsimp only); omega
 ·
  refine g_cond_f rfl (decide_eq_false hb3) ?_
  refine g_exit ?_
  have hRB := (insB_end (by omega)).symm.trans hR
  refine g_then_exit ?_
  refine g_then_exit ?_
  refine g_in_hit ?_
  refine g_then ?_
  refine w_s ?_
  refine w_r4 ?_
  have hl10 : (insS d c a nn cur).length = nn := by rw [(insS_mv (d := d) (c := c) (a := a) (by rw [hcl]; omega)).len]; exact hcl
  have hp11 : (insS d c a nn cur).Perm z := (insS_mv (d := d) (c := c) (a := a) (by rw [hcl]; omega)).1.trans (hpp)
  refine l_of (s_call (wt0 rfl) (x_call' rfl rfl cl131) (insS_s d ev cs hcs hsz ho cur nn hcl p cc hm c gc fi ca X (hc.perm (hpp)) a nn (by omega) (by omega) _ (H2.takes [0, 1] (by decide))) ?_)
  rintro _ wq8 ⟨rfl, H9⟩
  replace H9 : S wq8 [Rw 102 10 p nn cc (mV ev (insS d c a nn cur)), X, Old w (fps [Rw 102 10 p nn cc (mV ev z), X])] := by have h := H2.absorbI [0, 1] H9; exact h
  refine b_ret rfl rfl ?_
  refine w_e ?_
  refine g_block ?_
  refine g_loop (ι := Nat × Nat × List β) (fun (k, s, cw) => [(0, .slice p nn cc), (1, .int .i64 ((nn : Int))), (2, .func (.func gc) fi ca), (6, .int .i64 ((s : Int)))]) (fun (k, s, cw) wx => (20 ≤ s ∧ s ≤ 2 * nn + 20) ∧ (nn ≤ s + k) ∧ (cw.length = nn) ∧ (cw.Perm z) ∧ (symA d c nn k s cw = symA d c nn nn 20 (insS d c a nn cur)) ∧ S wx [Rw 102 10 p nn cc (mV ev cw), X, Old w (fps [Rw 102 10 p nn cc (mV ev z), X])]) (fun (k, s, cw) => nn - s) (nn, 20, (insS d c a nn cur)) ⟨rfl, rfl, rfl, rfl, trivial⟩ ⟨(by omega), (by omega), hl10, hp11, rfl, (H9.takes [0, 1, 2] (by decide))⟩ ?_
  rintro ⟨k, s, cw⟩ wq12 ⟨hs, hk, hclw, hppw, hR, H13⟩
  refine g_weak [(0, .slice p nn cc), (1, .int .i64 ((nn : Int))), (2, .func (.func gc) fi ca), (6, .int .i64 ((s : Int)))] ⟨rfl, rfl, rfl, rfl, trivial⟩ ?_
  refine g_seq ?_
  refine w_s ?_
  refine w_r2 ?_
  refine w_b ?_
  refine w_e ?_
  refine g_cond_f rfl (decide_eq_false (by omega)) ?_
  refine g_exit ?_
  refine g_then_exit ?_
  refine g_then_exit ?_
  refine g_in_hit ?_
  refine fin_end [] [] rfl trivial ?_
  exact ⟨rfl, by unfold stableS; rw [hz]; rw [hRB, symA_end (by omega)] at hR; rw [← hR]; exact (H13.takes [0, 1, 2] (by decide))⟩
set_option maxRecDepth 20000 in
set_option maxHeartbeats 4000000 in
theorem sortStable_s {β : Type} (d : β) (ev : β → Value) (cs : β → Array Value) (hcs : ∀ x, ev x = .agg (cs x)) (hsz : ∀ x, (ev x).cells.size = 10) (ho : ∀ x, (ev x).cells.toList.all (·.oneCell') = true) (z : List β) (nn : Nat) (hz : z.length = nn) (p : Option Addr) (cc : Nat) (hm : nn ≤ 1099511627776) (c : β → β → Int) (gc : Nat) (fi ca : Array Value) (X : Item) (hc : Cmps Tryz.prog gc fi ca X ev c z) (h20 : nn ≤ 20)  (w : World) (HS : S w [Rw 102 10 p nn cc (mV ev z), X]) : Calls Tryz.prog 91 #[.slice p nn cc, .func (.func gc) fi ca] w fun e w' => e = .returned (.tuple #[]) ∧ S w' ([Rw 102 10 p nn cc (mV ev (stableS d c z)), X] ++ [Old w (fps [Rw 102 10 p nn cc (mV ev z), X])]) := by
 have H0 := HS.beginI
 refine enter 9 Tryz.func91 rfl rfl rfl ?_
 refine g_weak [(0, .slice p nn cc), (1, .func (.func gc) fi ca)] ⟨rfl, rfl, trivial⟩ ?_
 refine g_region ?_
 refine w_r2 ?_
 refine w_v (v := .int .i64 ((nn : Int))) (x_lenl rfl rfl Tryz.underlying98) ?_
 refine w_m ?_
 have hl3 : (stableS d c z).length = nn := by rw [(stable_perm d c z).length_eq]; exact hz
 have hp4 : (stableS d c z).Perm z := stable_perm d c z
 refine l_of (s_call (wt0 rfl) (x_call' rfl rfl cl114) (stable0_s d ev cs hcs hsz ho z nn hz p cc hm c gc fi ca X hc h20 _ (H0.takes [0, 1] (by decide))) ?_)
 rintro _ wq1 ⟨rfl, H2⟩
 replace H2 : S wq1 [Rw 102 10 p nn cc (mV ev (stableS d c z)), X, Old w (fps [Rw 102 10 p nn cc (mV ev z), X])] := by have h := H0.absorbI [0, 1] H2; exact h
 refine b_ret rfl rfl ?_
 refine g_nil ?_
 refine fin_end [] [] rfl trivial ?_
 exact ⟨rfl, (H2.takes [0, 1, 2] (by decide))⟩
end Go.Proofs.YtpbjekdjebjbkaaGreat
