import Derived.Test.YtlajgickimgigaaUD
set_option linter.unusedSimpArgs false
set_option linter.unusedVariables false
namespace Go.Proofs.Ytlajgickimgigaa
open Go.RowKit

theorem cl62 : callable Try.prog 62 = true := by kernel_rfl
theorem cl63 : callable Try.prog 63 = true := by kernel_rfl
theorem row_eq (l : List ByteArray) : rowT l.length 0 l = rowP 0 (tallN l.length) l := rfl
/-- A level of the reference is a level of the tree with pads. -/
theorem level_row {l : List ByteArray} {k : Nat} (hn : l.length ≤ 1099511627776) (hk : k ≤ tallN l.length) : upN k (rowT l.length 0 l) = rowP k (tallN l.length - k) (lvlS 0 l k) := by
  obtain ⟨h1, _, _⟩ := tall_spec hn
  have := upN_row k (tallN l.length - k) 0 l (by rw [show tallN l.length - k + k = tallN l.length from by omega]; exact h1)
  rw [show tallN l.length - k + k = tallN l.length from by omega, Nat.zero_add] at this
  rw [row_eq]; exact this
theorem lvl_count {l : List ByteArray} (h1 : 1 ≤ l.length) (k : Nat) : (lvlS 0 l k).length = countN l.length k := by
  have := lvlS_count (n := l.length) (v := 0) (l := l) (by unfold countN; rw [Nat.pow_zero, Nat.div_one]; omega) k
  rw [Nat.zero_add] at this; exact this
theorem level_take {l : List ByteArray} {k : Nat} (h1 : 1 ≤ l.length) (hn : l.length ≤ 1099511627776) (hk : k ≤ tallN l.length) : (upN k (rowT l.length 0 l)).take (countN l.length k) = lvlS 0 l k := by
  rw [level_row hn hk, ← lvl_count h1 k]
  unfold rowP
  rw [List.take_left']
  rfl
theorem top_row {l : List ByteArray} (h1 : 1 ≤ l.length) (hn : l.length ≤ 1099511627776) : (upN (tallN l.length) (rowT l.length 0 l)).getD 0 ⟨#[]⟩ = (lvlS 0 l (tallN l.length)).getD 0 ⟨#[]⟩ := by
  rw [level_row hn (Nat.le_refl _)]
  have h2 : 0 < (lvlS 0 l (tallN l.length)).length := by rw [lvl_count h1]; exact countN_pos _ _
  unfold rowP
  rw [List.getD_eq_getElem?_getD, List.getD_eq_getElem?_getD, List.getElem?_append_left h2]
/-- Layer. -/
def layerS (l : List ByteArray) (v : Int) : List ByteArray × Int := if checkE l = 0 then (if 0 ≤ v ∧ v ≤ (tallN l.length : Int) then (lvlS 0 l v.toNat, 0) else ([], 7)) else ([], checkE l)
theorem check_r0 : True := trivial
theorem tall_n' {l : List ByteArray} {n : Nat} (hn : n = l.length) (hm : n ≤ 1099511627776) (w : World) : Calls Try.prog 53 #[.int .i64 (n : Int)] w fun e w' => e = .returned (.int .i64 ((tallN l.length : Nat) : Int)) ∧ S w' [Old w no] := by
  subst hn; exact tall_r _ hm w
set_option maxRecDepth 20000 in
set_option maxHeartbeats 4000000 in
set_option maxRecDepth 20000 in
set_option maxHeartbeats 4000000 in
theorem check_r (l : List ByteArray) (p : Option Addr) (n c : Nat) (hn : n = l.length) (hm : n ≤ 1099511627776) (w : World) (hr : Reads w p n c 1 (stV l)) : Calls Try.prog 62 #[.slice p n c] w fun e w' => e = .returned (.int .i64 (checkE l)) ∧ S w' [Old w no] := by
  have H0 := S.old w
  refine enter 16 Try.func62 rfl rfl rfl ?_
  refine g_weak [(0, .slice p n c)] ⟨rfl, trivial⟩ ?_
  refine g_seq ?_
  refine g_region ?_
  refine l_of (s_val (v := .int .i64 0) (wt0 rfl) rfl rfl (x_assign rfl rfl) ?_)
  refine g_nil ?_
  refine g_then ?_
  refine g_seq ?_
  refine g_block ?_
  refine g_seq ?_
  refine g_region ?_
  refine l_of (s_val (v := .slice p n c) (wt0 rfl) rfl rfl (x_move rfl rfl) ?_)
  refine l_of (s_val (v := .int .i64 ((n : Int))) (wt0 rfl) rfl rfl (x_lenl rfl rfl Try.underlying22) ?_)
  refine l_of (s_val (v := .bool (decide (((n : Int) : Int) = 0))) (wt0 rfl) rfl rfl (x_bin rfl rfl rfl b_eql) ?_)
  refine l_of (s_val (v := .bool (decide (((n : Int) : Int) = 0))) (wt0 rfl) rfl rfl (x_move rfl rfl) ?_)
  by_cases hb1 : ((n : Int) : Int) = 0
  · skip
    refine l_of (s_not (wn1 rfl rfl rfl rfl (decide_eq_true hb1)) rfl rfl ?_)
    refine l_of (s_not (wn1 rfl rfl rfl rfl (decide_eq_true hb1)) rfl rfl ?_)
    refine l_of (s_not (wn1 rfl rfl rfl rfl (decide_eq_true hb1)) rfl rfl ?_)
    refine l_of (s_val (v := .bool true) (wt0 rfl) rfl rfl (x_pick_t rfl rfl (decide_eq_true hb1) rfl) ?_)
    refine l_of (s_val (v := .bool true) (wt0 rfl) rfl rfl (x_assign rfl rfl) ?_)
    refine g_nil ?_
    refine g_then ?_
    refine g_cond_t rfl rfl ?_
    refine g_seq ?_
    refine g_region ?_
    refine l_of (s_val (v := .int .i64 1) (wt0 rfl) rfl rfl (x_assign rfl rfl) ?_)
    refine g_nil ?_
    refine g_then ?_
    refine g_ret ?_
    refine g_in_ret ?_
    refine g_then_ret ?_
    refine fin_ret [.tmp 2] [.int .i64 1] rfl ⟨rfl, trivial⟩ ?_
    exact ⟨by rw [check_1 (.inl (by omega))]; rfl, H0.mask [true]⟩
  · skip
    refine l_of (s_val (v := .slice p n c) (wt1 rfl rfl rfl rfl (decide_eq_false hb1)) rfl rfl (x_move rfl rfl) ?_)
    refine l_of (s_call (wt1 rfl rfl rfl rfl (decide_eq_false hb1)) (x_call' rfl rfl cl52) (digests_r l p n c hn hm _ (H0.oldReads (k := 0) rfl hr)) ?_)
    rintro _ wq2 ⟨rfl, H3⟩
    replace H3 : S wq2 [Old w no] := H0.absorb (new := []) H3
    refine b_ret rfl rfl ?_
    refine l_of (s_val (v := .bool (!((digsB l)))) (wt1 rfl rfl rfl rfl (decide_eq_false hb1)) rfl rfl (x_not (b := (digsB l)) rfl rfl) ?_)
    refine l_of (s_val (v := .bool (!((digsB l)))) (wt0 rfl) rfl rfl (x_pick_f rfl rfl (decide_eq_false hb1) rfl) ?_)
    refine l_of (s_val (v := .bool (!((digsB l)))) (wt0 rfl) rfl rfl (x_assign rfl rfl) ?_)
    refine g_nil ?_
    refine g_then ?_
    rcases Bool.eq_false_or_eq_true ((digsB l)) with hb4 | hb4
    · skip
      refine g_cond_f rfl (neg_of hb4) ?_
      refine g_seq ?_
      refine g_region ?_
      refine l_of (s_val (v := .slice p n c) (wt0 rfl) rfl rfl (x_move rfl rfl) ?_)
      refine l_of (s_val (v := .int .i64 ((n : Int))) (wt0 rfl) rfl rfl (x_lenl rfl rfl Try.underlying22) ?_)
      refine l_of (s_val (v := .bool (decide ((4096 : Int) < (n : Int)))) (wt0 rfl) rfl rfl (x_bin rfl rfl rfl b_gtr) ?_)
      refine l_of (s_val (v := .bool (decide ((4096 : Int) < (n : Int)))) (wt0 rfl) rfl rfl (x_assign rfl rfl) ?_)
      refine g_nil ?_
      refine g_then ?_
      refine g_weak [(12, .bool (decide ((4096 : Int) < (n : Int))))] ⟨rfl, trivial⟩ ?_
      by_cases hb5 : (4096 : Int) < (n : Int)
      · skip
        refine g_cond_t rfl (decide_eq_true hb5) ?_
        refine g_seq ?_
        refine g_region ?_
        refine l_of (s_val (v := .int .i64 4) (wt0 rfl) rfl rfl (x_assign rfl rfl) ?_)
        refine g_nil ?_
        refine g_then ?_
        refine g_ret ?_
        refine g_in_ret ?_
        refine g_then_ret ?_
        refine fin_ret [.tmp 2] [.int .i64 4] rfl ⟨rfl, trivial⟩ ?_
        exact ⟨by rw [check_4 (by omega) hb4 (by omega)]; rfl, H3.mask [true]⟩
      · skip
        refine g_cond_f rfl (decide_eq_false hb5) ?_
        refine g_skip ?_
        refine g_in ?_
        refine g_then ?_
        refine g_seq ?_
        refine g_region ?_
        refine l_of (s_val (v := .int .i64 0) (wt0 rfl) rfl rfl (x_assign rfl rfl) ?_)
        refine g_nil ?_
        refine g_then ?_
        refine g_ret ?_
        refine fin_ret [.tmp 2] [.int .i64 0] rfl ⟨rfl, trivial⟩ ?_
        exact ⟨by rw [check_ok (by omega) hb4 (by omega)]; rfl, H3.mask [true]⟩
    · skip
      refine g_cond_t rfl (neg_of hb4) ?_
      refine g_seq ?_
      refine g_region ?_
      refine l_of (s_val (v := .int .i64 1) (wt0 rfl) rfl rfl (x_assign rfl rfl) ?_)
      refine g_nil ?_
      refine g_then ?_
      refine g_ret ?_
      refine g_in_ret ?_
      refine g_then_ret ?_
      refine fin_ret [.tmp 2] [.int .i64 1] rfl ⟨rfl, trivial⟩ ?_
      exact ⟨by rw [check_1 (.inr hb4)]; rfl, H3.mask [true]⟩
set_option maxRecDepth 20000 in
set_option maxHeartbeats 4000000 in
set_option maxRecDepth 20000 in
set_option maxHeartbeats 4000000 in
theorem root_r (l : List ByteArray) (p : Option Addr) (n c : Nat) (hn : n = l.length) (hm : n ≤ 1099511627776) (w : World) (hr : Reads w p n c 1 (stV l)) : Calls Try.prog 21 #[.slice p n c] w fun e w' => e = .returned (.tuple #[.string (rootS l).1, .int .i64 (rootS l).2]) ∧ S w' [Old w no] := by
  have H0 := S.old w
  refine enter 21 Try.func21 rfl rfl rfl ?_
  refine g_weak [(0, .slice p n c)] ⟨rfl, trivial⟩ ?_
  refine g_seq ?_
  refine g_region ?_
  refine l_of (s_val (v := .string (⟨#[]⟩)) (wt0 rfl) rfl rfl (x_assign rfl rfl) ?_)
  refine l_of (s_val (v := .int .i64 0) (wt0 rfl) rfl rfl (x_assign rfl rfl) ?_)
  refine g_nil ?_
  refine g_then ?_
  refine g_seq ?_
  refine g_seq ?_
  refine g_region ?_
  refine l_of (s_val (v := .slice p n c) (wt0 rfl) rfl rfl (x_move rfl rfl) ?_)
  refine l_of (s_call (wt0 rfl) (x_call' rfl rfl cl62) (check_r l p n c hn hm _ (H0.oldReads (k := 0) rfl hr)) ?_)
  rintro _ wq1 ⟨rfl, H2⟩
  replace H2 : S wq1 [Old w no] := H0.absorb (new := []) H2
  refine b_ret rfl rfl ?_
  refine l_of (s_val (v := .int .i64 (checkE l)) (wt0 rfl) rfl rfl (x_assign rfl rfl) ?_)
  refine g_nil ?_
  refine g_then ?_
  refine g_seq ?_
  refine g_region ?_
  refine l_of (s_val (v := .int .i64 (checkE l)) (wt0 rfl) rfl rfl (x_move rfl rfl) ?_)
  refine l_of (s_val (v := .bool (!decide ((checkE l : Int) = 0))) (wt0 rfl) rfl rfl (x_bin rfl rfl rfl b_neq) ?_)
  refine g_nil ?_
  refine g_then ?_
  by_cases hb3 : (checkE l : Int) = 0
  · skip
    obtain ⟨hc1, hc2, hc3⟩ := check_spec hb3
    have ht12 := tall_le12 hc2
    refine g_cond_f rfl (nf hb3) ?_
    refine g_skip ?_
    refine g_then ?_
    refine g_seq ?_
    refine g_region ?_
    refine l_of (s_val (v := .slice p n c) (wt0 rfl) rfl rfl (x_move rfl rfl) ?_)
    refine l_of (s_call (wt0 rfl) (x_call' rfl rfl cl63) (full_r l p n c hn (by omega) (by omega) hc3 _ (H2.oldReads (k := 0) rfl hr)) ?_)
    rintro _ wq8 ⟨P4, C5, rs6, rfl, hrs7, H9⟩
    replace H9 : S wq8 [Rw 22 1 P4 rs6.length C5 (rosV rs6), RowsI 9 1 encT rs6, Old w no] := H2.absorb (new := [Rw 22 1 P4 rs6.length C5 (rosV rs6), RowsI 9 1 encT rs6]) H9
    refine b_ret rfl rfl ?_
    refine l_of (s_val (v := .slice P4 rs6.length C5) (wt0 rfl) rfl rfl (x_assign rfl rfl) ?_)
    refine g_nil ?_
    refine g_then ?_
    refine g_seq ?_
    refine g_region ?_
    refine l_of (s_val (v := .slice P4 rs6.length C5) (wt0 rfl) rfl rfl (x_move rfl rfl) ?_)
    refine l_of (s_val (v := .slice P4 rs6.length C5) (wt0 rfl) rfl rfl (x_move rfl rfl) ?_)
    refine l_of (s_val (v := .int .i64 ((rs6.length : Int))) (wt0 rfl) rfl rfl (x_lenl rfl rfl Try.underlying79) ?_)
    have hrsl := full_len hrs7
    refine l_of (s_val (v := .int .i64 ((((tallN l.length) : Nat) : Int))) (wt0 rfl) rfl rfl (x_bin rfl rfl rfl (b_sub (r := ((tallN l.length : Nat) : Int)) (by rw [hrsl, w64 (by omega)]; omega))) ?_)
    refine l_of (s_val (v := .pointer ((P4).map fun q => q.add (((tallN l.length)) * 1))) (wt0 rfl) rfl rfl (x_idxR ((tallN l.length)) (H9.rwReads (k := 0) rfl) rfl rfl rfl Try.underlying79 sz22 (by omega)) ?_)
    obtain ⟨rp10, rc11, hj12⟩ := full_at hrs7 (j := (tallN l.length)) (by omega)
    have hrl13 := full_row (l := l) (k := (tallN l.length)) (by omega) (by omega)
    have hrl13p := Nat.two_pow_pos (tallN l.length - (tallN l.length))
    refine l_of (s_val (v := .slice rp10 (upN (tallN l.length) (rowT l.length 0 l)).length rc11) (wt0 rfl) rfl rfl (x_loadR1 (tallN l.length) (H9.rwReads (k := 0) rfl) (by omega) rfl rfl Try.underlying22 rfl (rosV_at hj12)) ?_)
    refine l_of (s_val (v := .pointer ((rp10).map fun q => q.add (0 * 1))) (wt0 rfl) rfl rfl (x_idxR 0 (row_read (H9.at (k := 1) rfl) hj12 rfl) rfl rfl rfl Try.underlying22 sz9 (by omega)) ?_)
    refine l_of (s_val (v := .string (((upN (tallN l.length) (rowT l.length 0 l)).getD (0) ⟨#[]⟩))) (wt0 rfl) rfl rfl (x_loadR1 0 (row_read (H9.at (k := 1) rfl) hj12 rfl) (by omega) rfl rfl Try.underlying9 rfl (stV_at (by omega))) ?_)
    refine l_of (s_val (v := .string (((upN (tallN l.length) (rowT l.length 0 l)).getD (0) ⟨#[]⟩))) (wt0 rfl) rfl rfl (x_assign rfl rfl) ?_)
    refine l_of (s_val (v := .int .i64 0) (wt0 rfl) rfl rfl (x_assign rfl rfl) ?_)
    refine g_nil ?_
    refine g_then ?_
    refine g_weak [(2, .string (((upN (tallN l.length) (rowT l.length 0 l)).getD (0) ⟨#[]⟩))), (3, .int .i64 0)] ⟨rfl, rfl, trivial⟩ ?_
    refine g_ret ?_
    refine fin_ret [.tmp 2, .tmp 3] [.string (((upN (tallN l.length) (rowT l.length 0 l)).getD (0) ⟨#[]⟩)), .int .i64 0] rfl ⟨rfl, rfl, trivial⟩ ?_
    exact ⟨by unfold rootS; rw [if_pos (by omega), ← top_row (by omega) (by omega)]; rfl, H9.mask [false, false, true]⟩
  · skip
    refine g_cond_t rfl (nt hb3) ?_
    refine g_seq ?_
    refine g_region ?_
    refine l_of (s_val (v := .int .i64 (checkE l)) (wt0 rfl) rfl rfl (x_move rfl rfl) ?_)
    refine l_of (s_val (v := .string (⟨#[]⟩)) (wt0 rfl) rfl rfl (x_assign rfl rfl) ?_)
    refine l_of (s_val (v := .int .i64 (checkE l)) (wt0 rfl) rfl rfl (x_assign rfl rfl) ?_)
    refine g_nil ?_
    refine g_then ?_
    refine g_ret ?_
    refine g_then_ret ?_
    refine fin_ret [.tmp 2, .tmp 3] [.string (⟨#[]⟩), .int .i64 (checkE l)] rfl ⟨rfl, rfl, trivial⟩ ?_
    exact ⟨by unfold rootS; rw [if_neg (by omega)]; rfl, H2.mask [true]⟩
theorem lvl_read {W : World} {rs : List (Ro ByteArray)} {l : List ByteArray} {q : Option Addr} {d k : Nat} (h1 : 1 ≤ l.length) (hn : l.length ≤ 1099511627776) (hk : k ≤ tallN l.length) (h : (RowsI 9 1 encT rs).ok W) (hj : rs[k]? = some ⟨q, d, upN k (rowT l.length 0 l)⟩) :
    Reads W (cutP q 0 d 1) (countN l.length k) d 1 (stV (lvlS 0 l k)) := by
  have hf := full_row hn hk
  have hc := count_le h1 hn hk
  have := (row_read h hj rfl).cut 0 (countN l.length k) (Nat.zero_le _) (by omega)
  rw [Nat.sub_zero, Nat.sub_zero, Nat.zero_mul, List.drop_zero, Nat.mul_one] at this
  rw [← level_take h1 hn hk]
  unfold stV at this ⊢
  rw [List.map_take]; exact this
theorem count_n {l : List ByteArray} {n : Nat} (hn : n = l.length) (v : Int) (h1 : 1 ≤ n) (hm : n ≤ 1099511627776) (h0 : 0 ≤ v) (h60 : v ≤ 60) (w : World) : Calls Try.prog 38 #[.int .i64 (n : Int), .int .i64 v] w fun e w' => e = .returned (.int .i64 ((countN l.length v.toNat : Nat) : Int)) ∧ S w' [Old w no] := by
  subst hn
  have e : v = (v.toNat : Int) := by omega
  have := count_r l.length v.toNat h1 hm (by omega) w
  rw [← e] at this; exact this
set_option maxRecDepth 20000 in
set_option maxHeartbeats 4000000 in
set_option maxRecDepth 20000 in
set_option maxHeartbeats 4000000 in
theorem layer_r (l : List ByteArray) (p : Option Addr) (n c : Nat) (hn : n = l.length) (hm : n ≤ 1099511627776) (v : Int) (w : World) (hr : Reads w p n c 1 (stV l)) : Calls Try.prog 23 #[.slice p n c, .int .i64 v] w fun e w' => ∃ p' c' X, e = .returned (.tuple #[.slice p' (layerS l v).1.length c', .int .i64 (layerS l v).2]) ∧ (∀ W, X.ok W → Reads W p' (layerS l v).1.length c' 1 (stV (layerS l v).1)) ∧ S w' ([X] ++ [Old w no]) := by
  have H0 := S.old w
  refine enter 31 Try.func23 rfl rfl rfl ?_
  refine g_weak [(0, .slice p n c), (1, .int .i64 v)] ⟨rfl, rfl, trivial⟩ ?_
  refine g_seq ?_
  refine g_region ?_
  refine l_of (s_val (v := .slice none 0 0) (wt0 rfl) rfl rfl (x_assign rfl rfl) ?_)
  refine l_of (s_val (v := .int .i64 0) (wt0 rfl) rfl rfl (x_assign rfl rfl) ?_)
  refine g_nil ?_
  refine g_then ?_
  refine g_seq ?_
  refine g_seq ?_
  refine g_region ?_
  refine l_of (s_val (v := .slice p n c) (wt0 rfl) rfl rfl (x_move rfl rfl) ?_)
  refine l_of (s_call (wt0 rfl) (x_call' rfl rfl cl62) (check_r l p n c hn hm _ (H0.oldReads (k := 0) rfl hr)) ?_)
  rintro _ wq1 ⟨rfl, H2⟩
  replace H2 : S wq1 [Old w no] := H0.absorb (new := []) H2
  refine b_ret rfl rfl ?_
  refine l_of (s_val (v := .int .i64 (checkE l)) (wt0 rfl) rfl rfl (x_assign rfl rfl) ?_)
  refine g_nil ?_
  refine g_then ?_
  refine g_seq ?_
  refine g_region ?_
  refine l_of (s_val (v := .int .i64 (checkE l)) (wt0 rfl) rfl rfl (x_move rfl rfl) ?_)
  refine l_of (s_val (v := .bool (!decide ((checkE l : Int) = 0))) (wt0 rfl) rfl rfl (x_bin rfl rfl rfl b_neq) ?_)
  refine g_nil ?_
  refine g_then ?_
  by_cases hb3 : (checkE l : Int) = 0
  · skip
    obtain ⟨hc1, hc2, hc3⟩ := check_spec hb3
    have ht12 := tall_le12 hc2
    refine g_cond_f rfl (nf hb3) ?_
    refine g_skip ?_
    refine g_then ?_
    refine g_seq ?_
    refine g_seq ?_
    refine g_region ?_
    refine l_of (s_val (v := .int .i64 v) (wt0 rfl) rfl rfl (x_move rfl rfl) ?_)
    refine l_of (s_val (v := .bool (decide ((v : Int) < 0))) (wt0 rfl) rfl rfl (x_bin rfl rfl rfl b_lss) ?_)
    refine l_of (s_val (v := .bool (decide ((v : Int) < 0))) (wt0 rfl) rfl rfl (x_move rfl rfl) ?_)
    by_cases hb4 : (v : Int) < 0
    · skip
      refine l_of (s_not (wn1 rfl rfl rfl rfl (decide_eq_true hb4)) rfl rfl ?_)
      refine l_of (s_not (wn1 rfl rfl rfl rfl (decide_eq_true hb4)) rfl rfl ?_)
      refine l_of (s_not (wn1 rfl rfl rfl rfl (decide_eq_true hb4)) rfl rfl ?_)
      refine l_of (s_not (wn1 rfl rfl rfl rfl (decide_eq_true hb4)) rfl rfl ?_)
      refine l_of (s_not (wn1 rfl rfl rfl rfl (decide_eq_true hb4)) rfl rfl ?_)
      refine l_of (s_val (v := .bool true) (wt0 rfl) rfl rfl (x_pick_t rfl rfl (decide_eq_true hb4) rfl) ?_)
      refine g_nil ?_
      refine g_then ?_
      refine g_weak [(0, .slice p n c), (1, .int .i64 v), (20, .bool true)] ⟨rfl, rfl, rfl, trivial⟩ ?_
      refine g_cond_t rfl rfl ?_
      refine g_seq ?_
      refine g_region ?_
      refine l_of (s_val (v := .slice none 0 0) (wt0 rfl) rfl rfl (x_assign rfl rfl) ?_)
      refine l_of (s_val (v := .int .i64 7) (wt0 rfl) rfl rfl (x_assign rfl rfl) ?_)
      refine g_nil ?_
      refine g_then ?_
      refine g_ret ?_
      refine g_then_ret ?_
      refine fin_ret [.tmp 4, .tmp 5] [.slice none 0 0, .int .i64 7] rfl ⟨rfl, rfl, trivial⟩ ?_
      have hd : layerS l v = ([], 7) := by unfold layerS; rw [if_pos (by omega), if_neg (by omega)]
      rw [hd]
      exact ⟨none, 0, Big [], rfl, fun W _ => ⟨rfl, Nat.le_refl _, fun h => absurd h (Nat.lt_irrefl 0)⟩, (H2.takes [0] (by decide)).nilBig⟩
    · skip
      refine l_of (s_val (v := .int .i64 v) (wt1 rfl rfl rfl rfl (decide_eq_false hb4)) rfl rfl (x_move rfl rfl) ?_)
      refine l_of (s_val (v := .slice p n c) (wt1 rfl rfl rfl rfl (decide_eq_false hb4)) rfl rfl (x_move rfl rfl) ?_)
      refine l_of (s_val (v := .int .i64 ((n : Int))) (wt1 rfl rfl rfl rfl (decide_eq_false hb4)) rfl rfl (x_lenl rfl rfl Try.underlying22) ?_)
      refine l_of (s_call (wt1 rfl rfl rfl rfl (decide_eq_false hb4)) (x_call' rfl rfl cl53) (tall_n' hn (by omega) _) ?_)
      rintro _ wq5 ⟨rfl, H6⟩
      replace H6 : S wq5 [Old w no] := H2.absorb (new := []) H6
      refine b_ret rfl rfl ?_
      refine l_of (s_val (v := .bool (decide (((((tallN l.length) : Nat) : Int) : Int) < v))) (wt1 rfl rfl rfl rfl (decide_eq_false hb4)) rfl rfl (x_bin rfl rfl rfl b_gtr) ?_)
      refine l_of (s_val (v := .bool (decide (((((tallN l.length) : Nat) : Int) : Int) < v))) (wt0 rfl) rfl rfl (x_pick_f rfl rfl (decide_eq_false hb4) rfl) ?_)
      refine g_nil ?_
      refine g_then ?_
      refine g_weak [(0, .slice p n c), (1, .int .i64 v), (20, .bool (decide (((((tallN l.length) : Nat) : Int) : Int) < v)))] ⟨rfl, rfl, rfl, trivial⟩ ?_
      by_cases hb7 : ((((tallN l.length) : Nat) : Int) : Int) < v
      · skip
        refine g_cond_t rfl (decide_eq_true hb7) ?_
        refine g_seq ?_
        refine g_region ?_
        refine l_of (s_val (v := .slice none 0 0) (wt0 rfl) rfl rfl (x_assign rfl rfl) ?_)
        refine l_of (s_val (v := .int .i64 7) (wt0 rfl) rfl rfl (x_assign rfl rfl) ?_)
        refine g_nil ?_
        refine g_then ?_
        refine g_ret ?_
        refine g_then_ret ?_
        refine fin_ret [.tmp 4, .tmp 5] [.slice none 0 0, .int .i64 7] rfl ⟨rfl, rfl, trivial⟩ ?_
        have hd : layerS l v = ([], 7) := by unfold layerS; rw [if_pos (by omega), if_neg (by omega)]
        rw [hd]
        exact ⟨none, 0, Big [], rfl, fun W _ => ⟨rfl, Nat.le_refl _, fun h => absurd h (Nat.lt_irrefl 0)⟩, (H6.takes [0] (by decide)).nilBig⟩
      · skip
        refine g_cond_f rfl (decide_eq_false hb7) ?_
        refine g_skip ?_
        refine g_then ?_
        refine g_seq ?_
        refine g_any [] (fun _ => True) [] (by kernel_rfl) H6 (fun wq8 H9 => ?_)
        refine a_pure (v := .slice p n c) 0 rfl (wt0 rfl) rfl rfl rfl (by kernel_rfl) (by kernel_rfl) (by kernel_rfl) (.inr fun _ => trivial) (fun wx => x_move rfl rfl) ?_
        refine a_pure (v := .int .i64 v) 2 rfl (wt0 rfl) rfl rfl rfl (by kernel_rfl) (by kernel_rfl) (by kernel_rfl) (.inr fun _ => trivial) (fun wx => x_move rfl rfl) ?_
        refine a_pure (v := .slice p n c) 5 rfl (wt0 rfl) rfl rfl rfl (by kernel_rfl) (by kernel_rfl) (by kernel_rfl) (.inr fun _ => trivial) (fun wx => x_move rfl rfl) ?_
        refine a_pure (v := .int .i64 ((n : Int))) 6 rfl (wt0 rfl) rfl rfl rfl (by kernel_rfl) (by kernel_rfl) (by kernel_rfl) (.inr fun _ => trivial) (fun wx => x_lenl rfl rfl Try.underlying22) ?_
        refine a_pure (v := .int .i64 v) 7 rfl (wt0 rfl) rfl rfl rfl (by kernel_rfl) (by kernel_rfl) (by kernel_rfl) (.inr fun _ => trivial) (fun wx => x_move rfl rfl) ?_
        refine a_one (i := 1) (by kernel_rfl) rfl ?_
        refine s_call (wt0 rfl) (x_call' rfl rfl cl63) (full_r l p n c hn (by omega) (by omega) hc3 _ (H9.oldReads (k := 0) rfl hr)) ?_
        rintro _ wq14 ⟨P10, C11, rs12, rfl, hrs13, H15⟩
        replace H15 : S wq14 [Rw 22 1 P10 rs12.length C11 (rosV rs12), RowsI 9 1 encT rs12, Old w no] := H9.absorb (new := [Rw 22 1 P10 rs12.length C11 (rosV rs12), RowsI 9 1 encT rs12]) H15
        refine b_ret rfl rfl ?_
        refine a_k trivial ?_
        have hrsl16 := full_len hrs13
        have hrsl16s : ∃ a, P10 = some a := ((H15.rwReads (k := 0) rfl).2.2 (by omega)).imp fun _ h => h.1
        refine a_pure (v := .pointer ((P10).map fun q => q.add (((v).toNat) * 1))) 3 rfl (wt0 rfl) rfl rfl rfl (by kernel_rfl) (by kernel_rfl) (by kernel_rfl) (.inr fun _ => trivial) (fun wx => x_idxP ((v).toNat) (hrsl16s) rfl rfl rfl Try.underlying79 sz22 (by omega)) ?_
        refine a_two (i := 4) (j := 8) (by kernel_rfl) rfl rfl ?_ ?_
        · skip
          obtain ⟨rp17, rc18, hj19⟩ := full_at hrs13 (j := v.toNat) (by omega)
          have hrl20 := full_row (l := l) (k := v.toNat) (by omega) (by omega)
          have hrl20p := Nat.two_pow_pos (tallN l.length - v.toNat)
          refine s_val (v := .slice rp17 (upN v.toNat (rowT l.length 0 l)).length rc18) (wt0 rfl) rfl rfl (x_loadR1 v.toNat (H15.rwReads (k := 0) rfl) (by omega) rfl rfl Try.underlying22 rfl (rosV_at hj19)) ?_
          refine a_k trivial ?_
          refine a_one (i := 8) (by kernel_rfl) rfl ?_
          refine s_call (wt0 rfl) (x_call' rfl rfl cl38) (count_n hn _ (by omega) (by omega) (by omega) (by omega) _) ?_
          rintro _ wq21 ⟨rfl, H22⟩
          replace H22 : S wq21 [Rw 22 1 P10 rs12.length C11 (rosV rs12), RowsI 9 1 encT rs12, Old w no] := H15.absorb (new := []) H22
          refine b_ret rfl rfl ?_
          refine a_k trivial ?_
          refine a_one (i := 9) (by kernel_rfl) rfl ?_
          have hcl := count_le (n := l.length) (v := v.toNat) (by omega) (by omega) (by omega)
          refine s_val (v := .slice (cutP rp17 0 rc18 1) (countN l.length v.toNat) rc18) (wt0 rfl) rfl rfl (x_sliceH (countN l.length v.toNat) rfl rfl rfl Try.underlying22 sz9 (by have := (row_read (H22.at (k := 1) rfl) hj19 rfl).2.1; omega)) ?_
          refine a_k trivial ?_
          refine a_pure (v := .slice (cutP rp17 0 rc18 1) (countN l.length v.toNat) rc18) 10 rfl (wt0 rfl) rfl rfl rfl (by kernel_rfl) (by kernel_rfl) (by kernel_rfl) (.inr fun _ => trivial) (fun wx => x_assign rfl rfl) ?_
          refine a_pure (v := .int .i64 0) 11 rfl (wt0 rfl) rfl rfl rfl (by kernel_rfl) (by kernel_rfl) (by kernel_rfl) (.inr fun _ => trivial) (fun wx => x_assign rfl rfl) ?_
          refine a_done (by kernel_rfl) ?_
          refine g_then ?_
          refine g_weak [(4, .slice (cutP rp17 0 rc18 1) (countN l.length v.toNat) rc18), (5, .int .i64 0)] ⟨rfl, rfl, trivial⟩ ?_
          refine g_ret ?_
          refine fin_ret [.tmp 4, .tmp 5] [.slice (cutP rp17 0 rc18 1) (countN l.length v.toNat) rc18, .int .i64 0] rfl ⟨rfl, rfl, trivial⟩ ?_
          have hd : layerS l v = (lvlS 0 l v.toNat, 0) := by unfold layerS; rw [if_pos (by omega), if_pos (by omega)]
          rw [hd]
          have hcn := lvl_count (l := l) (by omega) v.toNat
          simp only [hcn]
          exact ⟨_, _, RowsI 9 1 encT rs12, rfl, fun W h => lvl_read (by omega) (by omega) (by omega) h hj19, H22.takes [1, 2] (by decide)⟩
        · skip
          refine s_call (wt0 rfl) (x_call' rfl rfl cl38) (count_n hn _ (by omega) (by omega) (by omega) (by omega) _) ?_
          rintro _ wq23 ⟨rfl, H24⟩
          replace H24 : S wq23 [Rw 22 1 P10 rs12.length C11 (rosV rs12), RowsI 9 1 encT rs12, Old w no] := H15.absorb (new := []) H24
          refine b_ret rfl rfl ?_
          refine a_k trivial ?_
          refine a_one (i := 4) (by kernel_rfl) rfl ?_
          obtain ⟨rp25, rc26, hj27⟩ := full_at hrs13 (j := v.toNat) (by omega)
          have hrl28 := full_row (l := l) (k := v.toNat) (by omega) (by omega)
          have hrl28p := Nat.two_pow_pos (tallN l.length - v.toNat)
          refine s_val (v := .slice rp25 (upN v.toNat (rowT l.length 0 l)).length rc26) (wt0 rfl) rfl rfl (x_loadR1 v.toNat (H24.rwReads (k := 0) rfl) (by omega) rfl rfl Try.underlying22 rfl (rosV_at hj27)) ?_
          refine a_k trivial ?_
          refine a_one (i := 9) (by kernel_rfl) rfl ?_
          have hcl := count_le (n := l.length) (v := v.toNat) (by omega) (by omega) (by omega)
          refine s_val (v := .slice (cutP rp25 0 rc26 1) (countN l.length v.toNat) rc26) (wt0 rfl) rfl rfl (x_sliceH (countN l.length v.toNat) rfl rfl rfl Try.underlying22 sz9 (by have := (row_read (H24.at (k := 1) rfl) hj27 rfl).2.1; omega)) ?_
          refine a_k trivial ?_
          refine a_pure (v := .slice (cutP rp25 0 rc26 1) (countN l.length v.toNat) rc26) 10 rfl (wt0 rfl) rfl rfl rfl (by kernel_rfl) (by kernel_rfl) (by kernel_rfl) (.inr fun _ => trivial) (fun wx => x_assign rfl rfl) ?_
          refine a_pure (v := .int .i64 0) 11 rfl (wt0 rfl) rfl rfl rfl (by kernel_rfl) (by kernel_rfl) (by kernel_rfl) (.inr fun _ => trivial) (fun wx => x_assign rfl rfl) ?_
          refine a_done (by kernel_rfl) ?_
          refine g_then ?_
          refine g_weak [(4, .slice (cutP rp25 0 rc26 1) (countN l.length v.toNat) rc26), (5, .int .i64 0)] ⟨rfl, rfl, trivial⟩ ?_
          refine g_ret ?_
          refine fin_ret [.tmp 4, .tmp 5] [.slice (cutP rp25 0 rc26 1) (countN l.length v.toNat) rc26, .int .i64 0] rfl ⟨rfl, rfl, trivial⟩ ?_
          have hd : layerS l v = (lvlS 0 l v.toNat, 0) := by unfold layerS; rw [if_pos (by omega), if_pos (by omega)]
          rw [hd]
          have hcn := lvl_count (l := l) (by omega) v.toNat
          simp only [hcn]
          exact ⟨_, _, RowsI 9 1 encT rs12, rfl, fun W h => lvl_read (by omega) (by omega) (by omega) h hj27, H24.takes [1, 2] (by decide)⟩
  · skip
    refine g_cond_t rfl (nt hb3) ?_
    refine g_seq ?_
    refine g_region ?_
    refine l_of (s_val (v := .int .i64 (checkE l)) (wt0 rfl) rfl rfl (x_move rfl rfl) ?_)
    refine l_of (s_val (v := .slice none 0 0) (wt0 rfl) rfl rfl (x_assign rfl rfl) ?_)
    refine l_of (s_val (v := .int .i64 (checkE l)) (wt0 rfl) rfl rfl (x_assign rfl rfl) ?_)
    refine g_nil ?_
    refine g_then ?_
    refine g_ret ?_
    refine g_then_ret ?_
    refine fin_ret [.tmp 4, .tmp 5] [.slice none 0 0, .int .i64 (checkE l)] rfl ⟨rfl, rfl, trivial⟩ ?_
    have hd : layerS l v = ([], checkE l) := by unfold layerS; rw [if_neg (by omega)]
    rw [hd]
    exact ⟨none, 0, Big [], rfl, fun W _ => ⟨rfl, Nat.le_refl _, fun h => absurd h (Nat.lt_irrefl 0)⟩, (H2.takes [0] (by decide)).nilBig⟩
end Go.Proofs.Ytlajgickimgigaa
namespace Go.Proofs.Ytlajgickimgigaa
open Go.RowKit

set_option maxRecDepth 20000 in
set_option maxHeartbeats 4000000 in
set_option maxRecDepth 20000 in
set_option maxHeartbeats 4000000 in
theorem layerL_s (l : List ByteArray) (p : Option Addr) (n c : Nat) (hn : n = l.length) (hm : n ≤ 1099511627776) (v : Int) (w : World) (hr : Reads w p n c 1 (stV l)) : Calls Try.prog 22 #[.slice p n c, .int .i64 v] w fun e w' => ∃ p' c', e = .returned (.tuple #[.slice p' (layerS l v).1.length c', .int .i64 (layerS l v).2]) ∧ S w' ([Rw 9 1 p' (layerS l v).1.length c' (stV (layerS l v).1)] ++ [Old w no]) := by
  have H0 := S.old w
  refine enter_d 13 Try.func22 rfl rfl rfl ?_
  refine g_weak [(0, .slice p n c), (1, .int .i64 v)] ⟨rfl, rfl, trivial⟩ ?_
  refine g_seq ?_
  refine g_region ?_
  refine l_of (s_val (v := .slice none 0 0) (wt0 rfl) rfl rfl (x_assign rfl rfl) ?_)
  refine l_of (s_alloc H0 (wt0 rfl) rfl rfl rfl ze25 ?_)
  intro g1 wq2 H3
  refine g_nil ?_
  refine g_then ?_
  refine g_seq ?_
  refine g_region ?_
  refine l_of (s_defer (wt0 rfl) rfl (xd_defer rfl rfl rfl) ?_)
  refine g_nil ?_
  refine g_then ?_
  refine g_seq ?_
  refine g_region ?_
  refine l_of (s_val (v := .slice p n c) (wt0 rfl) rfl rfl (x_move rfl rfl) ?_)
  refine l_of (s_call (wt0 rfl) (x_call' rfl rfl cl61) (open_s l p n c hn hm _ (H3.oldReads (k := 1) rfl hr)) ?_)
  rintro _ wq4 ⟨rfl, H5⟩
  replace H5 : S wq4 [Ob g1 (.cells #[.int .i64 0] 25 (0, 0)), Old w no] := H3.absorb (new := []) H5
  by_cases hce : checkE l = 0
  · skip
    rw [show openV l = .returned (.agg #[.int .i64 ((l.length : Int)), .int .i64 (((tallN l.length : Nat) : Int))]) from if_pos hce]
    obtain ⟨hc1, hc2, hc3⟩ := check_spec hce
    have ht12 := tall_le12 hc2
    refine b_ret rfl rfl ?_
    refine l_of (s_val (v := .int .i64 v) (wt0 rfl) rfl rfl (x_move rfl rfl) ?_)
    by_cases hb6 : (v : Int) < 0
    · skip
      refine l_of (s_call (wt0 rfl) (x_call' rfl rfl cl49) (level_p1 _ _ _ (of_decide_eq_true (decide_eq_true hb6)) _) ?_)
      rintro _ wq7 ⟨rfl, H8⟩
      replace H8 : S wq7 [Ob g1 (.cells #[.int .i64 0] 25 (0, 0)), Old w no] := H5.absorb (new := []) H8
      refine b_panic ?_
      refine g_then_panic ?_
      refine fin_dpanic ?_
      refine gl_step (by simp) cl45 (caught_p g1 (7) (0) [] _ (H8.ob (k := 0) rfl)) ?_
      rintro _ _ wq9 ⟨⟨rfl, H10⟩, rfl⟩
      replace H10 : S wq9 [Ob g1 (.cells #[.int .i64 7] 25 (0, 0)), Old w no] := H8.absorbK (new := [Ob g1 (.cells #[.int .i64 7] 25 (0, 0))]) [0] (by intro g hg; subst hg; exact ⟨0, rfl, _, rfl, rfl⟩) H10
      refine (?_ : GL _ _ _ _ _ _ FrameMode.returning _)
      refine gl_ret [.tmp 4, .cell 5 25] [.slice none 0 0, .int .i64 7] rfl ⟨rfl, ⟨_, rfl, run_load1 Try.underlying25 rfl (H10.cell (k := 0) rfl rfl)⟩, trivial⟩ ?_
      have hd : layerS l v = ([], 7) := by unfold layerS; rw [if_pos hce, if_neg (by omega)]
      rw [hd]
      exact ⟨none, 0, rfl, (H10.takes [1] (by decide)).nilRw 9 1⟩
    · skip
      by_cases hb11 : (((tallN l.length : Nat) : Int) : Int) < v
      · skip
        refine l_of (s_call (wt0 rfl) (x_call' rfl rfl cl49) (level_p2 _ _ _ (of_decide_eq_false (decide_eq_false hb6)) (of_decide_eq_true (decide_eq_true hb11)) _) ?_)
        rintro _ wq12 ⟨rfl, H13⟩
        replace H13 : S wq12 [Ob g1 (.cells #[.int .i64 0] 25 (0, 0)), Old w no] := H5.absorb (new := []) H13
        refine b_panic ?_
        refine g_then_panic ?_
        refine fin_dpanic ?_
        refine gl_step (by simp) cl45 (caught_p g1 (7) (0) [] _ (H13.ob (k := 0) rfl)) ?_
        rintro _ _ wq14 ⟨⟨rfl, H15⟩, rfl⟩
        replace H15 : S wq14 [Ob g1 (.cells #[.int .i64 7] 25 (0, 0)), Old w no] := H13.absorbK (new := [Ob g1 (.cells #[.int .i64 7] 25 (0, 0))]) [0] (by intro g hg; subst hg; exact ⟨0, rfl, _, rfl, rfl⟩) H15
        refine (?_ : GL _ _ _ _ _ _ FrameMode.returning _)
        refine gl_ret [.tmp 4, .cell 5 25] [.slice none 0 0, .int .i64 7] rfl ⟨rfl, ⟨_, rfl, run_load1 Try.underlying25 rfl (H15.cell (k := 0) rfl rfl)⟩, trivial⟩ ?_
        have hd : layerS l v = ([], 7) := by unfold layerS; rw [if_pos hce, if_neg (by omega)]
        rw [hd]
        exact ⟨none, 0, rfl, (H15.takes [1] (by decide)).nilRw 9 1⟩
      · skip
        refine l_of (s_call (wt0 rfl) (x_call' rfl rfl cl49) (level_r _ _ _ (of_decide_eq_false (decide_eq_false hb6)) (of_decide_eq_false (decide_eq_false hb11)) _) ?_)
        rintro _ wq16 ⟨rfl, H17⟩
        replace H17 : S wq16 [Ob g1 (.cells #[.int .i64 0] 25 (0, 0)), Old w no] := H5.absorb (new := []) H17
        refine b_ret rfl rfl ?_
        refine g_nil ?_
        refine g_then ?_
        refine g_seq ?_
        refine g_region ?_
        refine l_of (s_val (v := .int .i64 v) (wt0 rfl) rfl rfl (x_move rfl rfl) ?_)
        refine l_of (s_val (v := .slice p n c) (wt0 rfl) rfl rfl (x_move rfl rfl) ?_)
        have hlay20 := layer_i 0 v l p n c (by omega) (by omega) hn (by omega) (by omega) (digs_size hc3) (lvlS_pos (by omega) _) wq16 (H17.oldReads (k := 1) rfl hr)
        simp only [show (0 : Int).toNat = 0 from rfl, Nat.sub_zero] at hlay20
        refine l_of (s_call (wt0 rfl) (x_call' rfl rfl cl51) (hlay20) ?_)
        rintro _ wq21 ⟨p18, c19, rfl, H22⟩
        replace H22 : S wq21 [Rw 9 1 p18 (lvlS 0 l v.toNat).length c19 (stV (lvlS 0 l v.toNat)), Ob g1 (.cells #[.int .i64 0] 25 (0, 0)), Old w no] := H17.absorb (new := [Rw 9 1 p18 (lvlS 0 l v.toNat).length c19 (stV (lvlS 0 l v.toNat))]) H22
        refine b_ret rfl rfl ?_
        refine l_of (s_val (v := .slice p18 (lvlS 0 l v.toNat).length c19) (wt0 rfl) rfl rfl (x_assign rfl rfl) ?_)
        refine l_of (s_store H22 1 (wt0 rfl) rfl rfl rfl rfl rfl sz25 rfl rfl (cs' := #[.int .i64 0]) rfl ?_)
        intro wq23 H24
        refine g_nil ?_
        refine g_then ?_
        refine g_ret ?_
        refine fin_dret ?_
        refine gl_step (by simp) cl45 (caught_n g1 _) ?_
        rintro _ _ wq25 ⟨⟨rfl, H26⟩, rfl⟩
        replace H26 : S wq25 [Rw 9 1 p18 (lvlS 0 l v.toNat).length c19 (stV (lvlS 0 l v.toNat)), Ob g1 (.cells #[.int .i64 0] 25 (0, 0)), Old w no] := H24.absorb (new := []) H26
        refine (?_ : GL _ _ _ _ _ _ FrameMode.returning _)
        refine gl_ret [.tmp 4, .cell 5 25] [.slice p18 (lvlS 0 l v.toNat).length c19, .int .i64 0] rfl ⟨rfl, ⟨_, rfl, run_load1 Try.underlying25 rfl (H26.cell (k := 1) rfl rfl)⟩, trivial⟩ ?_
        have hd : layerS l v = (lvlS 0 l v.toNat, 0) := by unfold layerS; rw [if_pos hce, if_pos (by omega)]
        rw [hd]
        exact ⟨_, _, rfl, H26.takes [0, 2] (by decide)⟩
  · skip
    rw [show openV l = .panicked [{ v := .iface 113 (.int .i64 (checkE l)), recovered := false }] from if_neg hce]
    refine b_panic ?_
    refine g_then_panic ?_
    refine fin_dpanic ?_
    refine gl_step (by simp) cl45 (caught_p g1 ((checkE l)) (0) [] _ (H5.ob (k := 0) rfl)) ?_
    rintro _ _ wq27 ⟨⟨rfl, H28⟩, rfl⟩
    replace H28 : S wq27 [Ob g1 (.cells #[.int .i64 ((checkE l))] 25 (0, 0)), Old w no] := H5.absorbK (new := [Ob g1 (.cells #[.int .i64 ((checkE l))] 25 (0, 0))]) [0] (by intro g hg; subst hg; exact ⟨0, rfl, _, rfl, rfl⟩) H28
    refine (?_ : GL _ _ _ _ _ _ FrameMode.returning _)
    refine gl_ret [.tmp 4, .cell 5 25] [.slice none 0 0, .int .i64 ((checkE l))] rfl ⟨rfl, ⟨_, rfl, run_load1 Try.underlying25 rfl (H28.cell (k := 0) rfl rfl)⟩, trivial⟩ ?_
    have hd : layerS l v = ([], (checkE l)) := by unfold layerS; rw [if_neg hce]
    rw [hd]
    exact ⟨none, 0, rfl, (H28.takes [1] (by decide)).nilRw 9 1⟩
end Go.Proofs.Ytlajgickimgigaa
