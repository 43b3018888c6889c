import Derived.Test.YtlajgickimgigaaGreatUD
set_option linter.unusedSimpArgs false
set_option linter.unusedVariables false
namespace Go.Proofs.YtlajgickimgigaaGreat
open Go.RowKit

theorem cl41 : callable Tryz.prog 41 = true := by kernel_rfl
theorem cl35 : callable Tryz.prog 35 = true := by kernel_rfl
theorem row_eq (l : List ByteArray) : rowT l.length 0 l = rowP 0 (tallN l.length) l := rfl
/-- A level of the reference is a level of the tree with pads. -/
theorem level_row {l : List ByteArray} {k : Nat} (hn : l.length ≤ 1099511627776) (hk : k ≤ tallN l.length) : upN k (rowT l.length 0 l) = rowP k (tallN l.length - k) (lvlS 0 l k) := by
  obtain ⟨h1, _, _⟩ := tall_spec hn
  have := upN_row k (tallN l.length - k) 0 l (by rw [show tallN l.length - k + k = tallN l.length from by omega]; exact h1)
  rw [show tallN l.length - k + k = tallN l.length from by omega, Nat.zero_add] at this
  rw [row_eq]; exact this
theorem lvl_count {l : List ByteArray} (h1 : 1 ≤ l.length) (k : Nat) : (lvlS 0 l k).length = countN l.length k := by
  have := lvlS_count (n := l.length) (v := 0) (l := l) (by unfold countN; rw [Nat.pow_zero, Nat.div_one]; omega) k
  rw [Nat.zero_add] at this; exact this
theorem level_take {l : List ByteArray} {k : Nat} (h1 : 1 ≤ l.length) (hn : l.length ≤ 1099511627776) (hk : k ≤ tallN l.length) : (upN k (rowT l.length 0 l)).take (countN l.length k) = lvlS 0 l k := by
  rw [level_row hn hk, ← lvl_count h1 k]
  unfold rowP
  rw [List.take_left']
  rfl
theorem top_row {l : List ByteArray} (h1 : 1 ≤ l.length) (hn : l.length ≤ 1099511627776) : (upN (tallN l.length) (rowT l.length 0 l)).getD 0 ⟨#[]⟩ = (lvlS 0 l (tallN l.length)).getD 0 ⟨#[]⟩ := by
  rw [level_row hn (Nat.le_refl _)]
  have h2 : 0 < (lvlS 0 l (tallN l.length)).length := by rw [lvl_count h1]; exact countN_pos _ _
  unfold rowP
  rw [List.getD_eq_getElem?_getD, List.getD_eq_getElem?_getD, List.getElem?_append_left h2]
/-- Layer. -/
def layerS (l : List ByteArray) (v : Int) : List ByteArray × Int := if checkE l = 0 then (if 0 ≤ v ∧ v ≤ (tallN l.length : Int) then (lvlS 0 l v.toNat, 0) else ([], 7)) else ([], checkE l)
theorem check_r0 : True := trivial
theorem tall_n' {l : List ByteArray} {n : Nat} (hn : n = l.length) (hm : n ≤ 1099511627776) (w : World) : Calls Tryz.prog 38 #[.int .i64 (n : Int)] w fun e w' => e = .returned (.int .i64 ((tallN l.length : Nat) : Int)) ∧ S w' [Old w no] := by
  subst hn; exact tall_r _ hm w
set_option maxRecDepth 20000 in
set_option maxHeartbeats 4000000 in
set_option maxRecDepth 20000 in
set_option maxHeartbeats 4000000 in
theorem check_r (l : List ByteArray) (p : Option Addr) (n c : Nat) (hn : n = l.length) (hm : n ≤ 1099511627776) (w : World) (hr : Reads w p n c 1 (stV l)) : Calls Tryz.prog 41 #[.slice p n c] w fun e w' => e = .returned (.int .i64 (checkE l)) ∧ S w' [Old w no] := by
  have H0 := S.old w
  refine enter 16 Tryz.func41 rfl rfl rfl ?_
  refine g_weak [(0, .slice p n c)] ⟨rfl, trivial⟩ ?_
  refine g_seq ?_
  refine g_region ?_
  refine l_of (s_val (v := .int .i64 0) (wt0 rfl) rfl rfl (x_assign rfl rfl) ?_)
  refine g_nil ?_
  refine g_then ?_
  refine g_seq ?_
  refine g_block ?_
  refine g_seq ?_
  refine g_region ?_
  refine l_of (s_val (v := .slice p n c) (wt0 rfl) rfl rfl (x_move rfl rfl) ?_)
  refine l_of (s_val (v := .int .i64 ((n : Int))) (wt0 rfl) rfl rfl (x_lenl rfl rfl Tryz.underlying22) ?_)
  refine l_of (s_val (v := .bool (decide (((n : Int) : Int) = 0))) (wt0 rfl) rfl rfl (x_bin rfl rfl rfl b_eql) ?_)
  refine l_of (s_val (v := .bool (decide (((n : Int) : Int) = 0))) (wt0 rfl) rfl rfl (x_move rfl rfl) ?_)
  by_cases hb1 : ((n : Int) : Int) = 0
  · skip
    refine l_of (s_not (wn1 rfl rfl rfl rfl (decide_eq_true hb1)) rfl rfl ?_)
    refine l_of (s_not (wn1 rfl rfl rfl rfl (decide_eq_true hb1)) rfl rfl ?_)
    refine l_of (s_not (wn1 rfl rfl rfl rfl (decide_eq_true hb1)) rfl rfl ?_)
    refine l_of (s_val (v := .bool true) (wt0 rfl) rfl rfl (x_pick_t rfl rfl (decide_eq_true hb1) rfl) ?_)
    refine l_of (s_val (v := .bool true) (wt0 rfl) rfl rfl (x_assign rfl rfl) ?_)
    refine g_nil ?_
    refine g_then ?_
    refine g_cond_t rfl rfl ?_
    refine g_seq ?_
    refine g_region ?_
    refine l_of (s_val (v := .int .i64 1) (wt0 rfl) rfl rfl (x_assign rfl rfl) ?_)
    refine g_nil ?_
    refine g_then ?_
    refine g_ret ?_
    refine g_in_ret ?_
    refine g_then_ret ?_
    refine fin_ret [.tmp 2] [.int .i64 1] rfl ⟨rfl, trivial⟩ ?_
    exact ⟨by rw [check_1 (.inl (by omega))]; rfl, H0.mask [true]⟩
  · skip
    refine l_of (s_val (v := .slice p n c) (wt1 rfl rfl rfl rfl (decide_eq_false hb1)) rfl rfl (x_move rfl rfl) ?_)
    refine l_of (s_call (wt1 rfl rfl rfl rfl (decide_eq_false hb1)) (x_call' rfl rfl cl49) (digests_r l p n c hn hm _ (H0.oldReads (k := 0) rfl hr)) ?_)
    rintro _ wq2 ⟨rfl, H3⟩
    replace H3 : S wq2 [Old w no] := H0.absorb (new := []) H3
    refine b_ret rfl rfl ?_
    refine l_of (s_val (v := .bool (!((digsB l)))) (wt1 rfl rfl rfl rfl (decide_eq_false hb1)) rfl rfl (x_not (b := (digsB l)) rfl rfl) ?_)
    refine l_of (s_val (v := .bool (!((digsB l)))) (wt0 rfl) rfl rfl (x_pick_f rfl rfl (decide_eq_false hb1) rfl) ?_)
    refine l_of (s_val (v := .bool (!((digsB l)))) (wt0 rfl) rfl rfl (x_assign rfl rfl) ?_)
    refine g_nil ?_
    refine g_then ?_
    rcases Bool.eq_false_or_eq_true ((digsB l)) with hb4 | hb4
    · skip
      refine g_cond_f rfl (neg_of hb4) ?_
      refine g_seq ?_
      refine g_region ?_
      refine l_of (s_val (v := .slice p n c) (wt0 rfl) rfl rfl (x_move rfl rfl) ?_)
      refine l_of (s_val (v := .int .i64 ((n : Int))) (wt0 rfl) rfl rfl (x_lenl rfl rfl Tryz.underlying22) ?_)
      refine l_of (s_val (v := .bool (decide ((4096 : Int) < (n : Int)))) (wt0 rfl) rfl rfl (x_bin rfl rfl rfl b_gtr) ?_)
      refine l_of (s_val (v := .bool (decide ((4096 : Int) < (n : Int)))) (wt0 rfl) rfl rfl (x_assign rfl rfl) ?_)
      refine g_nil ?_
      refine g_then ?_
      refine g_weak [(12, .bool (decide ((4096 : Int) < (n : Int))))] ⟨rfl, trivial⟩ ?_
      by_cases hb5 : (4096 : Int) < (n : Int)
      · skip
        refine g_cond_t rfl (decide_eq_true hb5) ?_
        refine g_seq ?_
        refine g_region ?_
        refine l_of (s_val (v := .int .i64 4) (wt0 rfl) rfl rfl (x_assign rfl rfl) ?_)
        refine g_nil ?_
        refine g_then ?_
        refine g_ret ?_
        refine g_in_ret ?_
        refine g_then_ret ?_
        refine fin_ret [.tmp 2] [.int .i64 4] rfl ⟨rfl, trivial⟩ ?_
        exact ⟨by rw [check_4 (by omega) hb4 (by omega)]; rfl, H3.mask [true]⟩
      · skip
        refine g_cond_f rfl (decide_eq_false hb5) ?_
        refine g_skip ?_
        refine g_in ?_
        refine g_then ?_
        refine g_seq ?_
        refine g_region ?_
        refine l_of (s_val (v := .int .i64 0) (wt0 rfl) rfl rfl (x_assign rfl rfl) ?_)
        refine g_nil ?_
        refine g_then ?_
        refine g_ret ?_
        refine fin_ret [.tmp 2] [.int .i64 0] rfl ⟨rfl, trivial⟩ ?_
        exact ⟨by rw [check_ok (by omega) hb4 (by omega)]; rfl, H3.mask [true]⟩
    · skip
      refine g_cond_t rfl (neg_of hb4) ?_
      refine g_seq ?_
      refine g_region ?_
      refine l_of (s_val (v := .int .i64 1) (wt0 rfl) rfl rfl (x_assign rfl rfl) ?_)
      refine g_nil ?_
      refine g_then ?_
      refine g_ret ?_
      refine g_in_ret ?_
      refine g_then_ret ?_
      refine fin_ret [.tmp 2] [.int .i64 1] rfl ⟨rfl, trivial⟩ ?_
      exact ⟨by rw [check_1 (.inr hb4)]; rfl, H3.mask [true]⟩
set_option maxRecDepth 20000 in
set_option maxHeartbeats 4000000 in
set_option maxRecDepth 20000 in
set_option maxHeartbeats 4000000 in
theorem root_r (l : List ByteArray) (p : Option Addr) (n c : Nat) (hn : n = l.length) (hm : n ≤ 1099511627776) (w : World) (hr : Reads w p n c 1 (stV l)) : Calls Tryz.prog 34 #[.slice p n c] w fun e w' => e = .returned (.tuple #[.string (rootS l).1, .int .i64 (rootS l).2]) ∧ S w' [Old w no] := by
  have H0 := S.old w
  refine enter 21 Tryz.func34 rfl rfl rfl ?_
  refine g_weak [(0, .slice p n c)] ⟨rfl, trivial⟩ ?_
  refine g_seq ?_
  refine g_region ?_
  refine l_of (s_val (v := .string (⟨#[]⟩)) (wt0 rfl) rfl rfl (x_assign rfl rfl) ?_)
  refine l_of (s_val (v := .int .i64 0) (wt0 rfl) rfl rfl (x_assign rfl rfl) ?_)
  refine g_nil ?_
  refine g_then ?_
  refine g_seq ?_
  refine g_seq ?_
  refine g_region ?_
  refine l_of (s_val (v := .slice p n c) (wt0 rfl) rfl rfl (x_move rfl rfl) ?_)
  refine l_of (s_call (wt0 rfl) (x_call' rfl rfl cl41) (check_r l p n c hn hm _ (H0.oldReads (k := 0) rfl hr)) ?_)
  rintro _ wq1 ⟨rfl, H2⟩
  replace H2 : S wq1 [Old w no] := H0.absorb (new := []) H2
  refine b_ret rfl rfl ?_
  refine l_of (s_val (v := .int .i64 (checkE l)) (wt0 rfl) rfl rfl (x_assign rfl rfl) ?_)
  refine g_nil ?_
  refine g_then ?_
  refine g_seq ?_
  refine g_region ?_
  refine l_of (s_val (v := .int .i64 (checkE l)) (wt0 rfl) rfl rfl (x_move rfl rfl) ?_)
  refine l_of (s_val (v := .bool (!decide ((checkE l : Int) = 0))) (wt0 rfl) rfl rfl (x_bin rfl rfl rfl b_neq) ?_)
  refine g_nil ?_
  refine g_then ?_
  by_cases hb3 : (checkE l : Int) = 0
  · skip
    obtain ⟨hc1, hc2, hc3⟩ := check_spec hb3
    have ht12 := tall_le12 hc2
    refine g_cond_f rfl (nf hb3) ?_
    refine g_skip ?_
    refine g_then ?_
    refine g_seq ?_
    refine g_region ?_
    refine l_of (s_val (v := .slice p n c) (wt0 rfl) rfl rfl (x_move rfl rfl) ?_)
    refine l_of (s_call (wt0 rfl) (x_call' rfl rfl cl35) (full_r l p n c hn (by omega) (by omega) hc3 _ (H2.oldReads (k := 0) rfl hr)) ?_)
    rintro _ wq8 ⟨P4, C5, rs6, rfl, hrs7, H9⟩
    replace H9 : S wq8 [Rw 22 1 P4 rs6.length C5 (rosV rs6), RowsI 9 1 encT rs6, Old w no] := H2.absorb (new := [Rw 22 1 P4 rs6.length C5 (rosV rs6), RowsI 9 1 encT rs6]) H9
    refine b_ret rfl rfl ?_
    refine l_of (s_val (v := .slice P4 rs6.length C5) (wt0 rfl) rfl rfl (x_assign rfl rfl) ?_)
    refine g_nil ?_
    refine g_then ?_
    refine g_seq ?_
    refine g_region ?_
    refine l_of (s_val (v := .slice P4 rs6.length C5) (wt0 rfl) rfl rfl (x_move rfl rfl) ?_)
    refine l_of (s_val (v := .slice P4 rs6.length C5) (wt0 rfl) rfl rfl (x_move rfl rfl) ?_)
    refine l_of (s_val (v := .int .i64 ((rs6.length : Int))) (wt0 rfl) rfl rfl (x_lenl rfl rfl Tryz.underlying76) ?_)
    have hrsl := full_len hrs7
    refine l_of (s_val (v := .int .i64 ((((tallN l.length) : Nat) : Int))) (wt0 rfl) rfl rfl (x_bin rfl rfl rfl (b_sub (r := ((tallN l.length : Nat) : Int)) (by rw [hrsl, w64 (by omega)]; omega))) ?_)
    refine l_of (s_val (v := .pointer ((P4).map fun q => q.add (((tallN l.length)) * 1))) (wt0 rfl) rfl rfl (x_idxR ((tallN l.length)) (H9.rwReads (k := 0) rfl) rfl rfl rfl Tryz.underlying76 sz22 (by omega)) ?_)
    obtain ⟨rp10, rc11, hj12⟩ := full_at hrs7 (j := (tallN l.length)) (by omega)
    have hrl13 := full_row (l := l) (k := (tallN l.length)) (by omega) (by omega)
    have hrl13p := Nat.two_pow_pos (tallN l.length - (tallN l.length))
    refine l_of (s_val (v := .slice rp10 (upN (tallN l.length) (rowT l.length 0 l)).length rc11) (wt0 rfl) rfl rfl (x_loadR1 (tallN l.length) (H9.rwReads (k := 0) rfl) (by omega) rfl rfl Tryz.underlying22 rfl (rosV_at hj12)) ?_)
    refine l_of (s_val (v := .pointer ((rp10).map fun q => q.add (0 * 1))) (wt0 rfl) rfl rfl (x_idxR 0 (row_read (H9.at (k := 1) rfl) hj12 rfl) rfl rfl rfl Tryz.underlying22 sz9 (by omega)) ?_)
    refine l_of (s_val (v := .string (((upN (tallN l.length) (rowT l.length 0 l)).getD (0) ⟨#[]⟩))) (wt0 rfl) rfl rfl (x_loadR1 0 (row_read (H9.at (k := 1) rfl) hj12 rfl) (by omega) rfl rfl Tryz.underlying9 rfl (stV_at (by omega))) ?_)
    refine l_of (s_val (v := .string (((upN (tallN l.length) (rowT l.length 0 l)).getD (0) ⟨#[]⟩))) (wt0 rfl) rfl rfl (x_assign rfl rfl) ?_)
    refine l_of (s_val (v := .int .i64 0) (wt0 rfl) rfl rfl (x_assign rfl rfl) ?_)
    refine g_nil ?_
    refine g_then ?_
    refine g_weak [(2, .string (((upN (tallN l.length) (rowT l.length 0 l)).getD (0) ⟨#[]⟩))), (3, .int .i64 0)] ⟨rfl, rfl, trivial⟩ ?_
    refine g_ret ?_
    refine fin_ret [.tmp 2, .tmp 3] [.string (((upN (tallN l.length) (rowT l.length 0 l)).getD (0) ⟨#[]⟩)), .int .i64 0] rfl ⟨rfl, rfl, trivial⟩ ?_
    exact ⟨by unfold rootS; rw [if_pos (by omega), ← top_row (by omega) (by omega)]; rfl, H9.mask [false, false, true]⟩
  · skip
    refine g_cond_t rfl (nt hb3) ?_
    refine g_seq ?_
    refine g_region ?_
    refine l_of (s_val (v := .int .i64 (checkE l)) (wt0 rfl) rfl rfl (x_move rfl rfl) ?_)
    refine l_of (s_val (v := .string (⟨#[]⟩)) (wt0 rfl) rfl rfl (x_assign rfl rfl) ?_)
    refine l_of (s_val (v := .int .i64 (checkE l)) (wt0 rfl) rfl rfl (x_assign rfl rfl) ?_)
    refine g_nil ?_
    refine g_then ?_
    refine g_ret ?_
    refine g_then_ret ?_
    refine fin_ret [.tmp 2, .tmp 3] [.string (⟨#[]⟩), .int .i64 (checkE l)] rfl ⟨rfl, rfl, trivial⟩ ?_
    exact ⟨by unfold rootS; rw [if_neg (by omega)]; rfl, H2.mask [true]⟩
theorem lvl_read {W : World} {rs : List (Ro ByteArray)} {l : List ByteArray} {q : Option Addr} {d k : Nat} (h1 : 1 ≤ l.length) (hn : l.length ≤ 1099511627776) (hk : k ≤ tallN l.length) (h : (RowsI 9 1 encT rs).ok W) (hj : rs[k]? = some ⟨q, d, upN k (rowT l.length 0 l)⟩) :
    Reads W (cutP q 0 d 1) (countN l.length k) d 1 (stV (lvlS 0 l k)) := by
  have hf := full_row hn hk
  have hc := count_le h1 hn hk
  have := (row_read h hj rfl).cut 0 (countN l.length k) (Nat.zero_le _) (by omega)
  rw [Nat.sub_zero, Nat.sub_zero, Nat.zero_mul, List.drop_zero, Nat.mul_one] at this
  rw [← level_take h1 hn hk]
  unfold stV at this ⊢
  rw [List.map_take]; exact this
theorem count_n {l : List ByteArray} {n : Nat} (hn : n = l.length) (v : Int) (h1 : 1 ≤ n) (hm : n ≤ 1099511627776) (h0 : 0 ≤ v) (h60 : v ≤ 60) (w : World) : Calls Tryz.prog 25 #[.int .i64 (n : Int), .int .i64 v] w fun e w' => e = .returned (.int .i64 ((countN l.length v.toNat : Nat) : Int)) ∧ S w' [Old w no] := by
  subst hn
  have e : v = (v.toNat : Int) := by omega
  have := count_r l.length v.toNat h1 hm (by omega) w
  rw [← e] at this; exact this
end Go.Proofs.YtlajgickimgigaaGreat
namespace Go.Proofs.YtlajgickimgigaaGreat
open Go.RowKit

end Go.Proofs.YtlajgickimgigaaGreat
