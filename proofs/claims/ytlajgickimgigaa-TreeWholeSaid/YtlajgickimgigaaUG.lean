import Derived.Test.YtlajgickimgigaaUF
set_option linter.unusedSimpArgs false
set_option linter.unusedVariables false
namespace Go.Proofs.Ytlajgickimgigaa
open Go.RowKit

theorem cl10 : callable Try.prog 10 = true := by kernel_rfl
theorem cl11 : callable Try.prog 11 = true := by kernel_rfl
theorem cl13 : callable Try.prog 13 = true := by kernel_rfl
theorem cl14 : callable Try.prog 14 = true := by kernel_rfl
theorem cl15 : callable Try.prog 15 = true := by kernel_rfl
theorem cl16 : callable Try.prog 16 = true := by kernel_rfl
theorem cl17 : callable Try.prog 17 = true := by kernel_rfl
theorem cl18 : callable Try.prog 18 = true := by kernel_rfl
theorem cl21 : callable Try.prog 21 = true := by kernel_rfl
theorem cl22 : callable Try.prog 22 = true := by kernel_rfl
theorem cl23 : callable Try.prog 23 = true := by kernel_rfl
theorem cl9 : callable Try.prog 9 = true := by kernel_rfl
def hgt (n : Int) : Int × Int := if 1 ≤ n ∧ n ≤ 4096 then (((tallN n.toNat : Nat) : Int), 0) else (0, 7)
theorem hgt_eq (n : Int) : heightV n = .tuple #[.int .i64 (hgt n).1, .int .i64 (hgt n).2] := by unfold heightV hgt; split <;> rfl
theorem hgt_r (n : Int) (w : World) : Calls Try.prog 16 #[.int .i64 n] w fun e w' => e = .returned (.tuple #[.int .i64 (hgt n).1, .int .i64 (hgt n).2]) ∧ S w' [Old w no] := by rw [← hgt_eq]; exact height_r n w
theorem hgt_s (n : Int) (w : World) : Calls Try.prog 15 #[.int .i64 n] w fun e w' => e = .returned (.tuple #[.int .i64 (hgt n).1, .int .i64 (hgt n).2]) ∧ S w' [Old w no] := by rw [← hgt_eq]; exact height_s n w
theorem leavesS_len (s : ByteArray) : (leavesS s).1.length ≤ 65536 := by
  unfold leavesS
  split
  · exact Nat.zero_le _
  · split
    · exact Nat.zero_le _
    · show (leafTo s _).length ≤ _
      rw [leafTo_len]; omega
theorem layerS_len (l : List ByteArray) (v : Int) : (layerS l v).1.length ≤ l.length := by
  unfold layerS
  split
  · split
    · exact lvlS_le _ _ _
    · exact Nat.zero_le _
  · exact Nat.zero_le _
theorem lvlS_add (k : Nat) (l : List ByteArray) (j : Nat) : ∀ i, lvlS (k + j) (lvlS k l j) i = lvlS k l (j + i)
  | 0 => rfl
  | i + 1 => by
    show nextS (k + j + i) (lvlS (k + j) (lvlS k l j) i) = nextS (k + (j + i)) (lvlS k l (j + i))
    rw [lvlS_add k l j i, Nat.add_assoc]
theorem lvlS_digs {l : List ByteArray} (h : digsB l = true) : ∀ j, digsB (lvlS 0 l j) = true
  | 0 => h
  | j + 1 => upS_digs _
/-- FromLayer of each Layer is the root. -/
theorem roots_from {l : List ByteArray} {v : Int} (h : (layerS l v).2 = 0) : fromS (l.length : Int) v (layerS l v).1 = ((rootS l).1, 0) ∧ (rootS l).2 = 0 := by
  have hc : checkE l = 0 := by
    rcases Decidable.em (checkE l = 0) with h1 | h1
    · exact h1
    · unfold layerS at h; rw [if_neg h1] at h; exact absurd h h1
  have hv : 0 ≤ v ∧ v ≤ (tallN l.length : Int) := by
    rcases Decidable.em (0 ≤ v ∧ v ≤ (tallN l.length : Int)) with h1 | h1
    · exact h1
    · unfold layerS at h; rw [if_pos hc, if_neg h1] at h; exact absurd h (by decide)
  obtain ⟨h1, h2, h3⟩ := check_spec hc
  have e : layerS l v = (lvlS 0 l v.toNat, 0) := by unfold layerS; rw [if_pos hc, if_pos hv]
  have er : rootS l = ((lvlS 0 l (tallN l.length)).getD 0 ⟨#[]⟩, 0) := by unfold rootS; rw [if_pos hc]
  have hlen := lvl_count (l := l) h1 v.toNat
  rw [e, er]
  refine ⟨?_, rfl⟩
  show fromS _ _ (lvlS 0 l v.toNat) = _
  unfold fromS
  rw [if_pos (lvlS_digs h3 _), if_pos (range_t (by omega) (by omega) hv.1 (by simp only [Int.toNat_natCast]; exact hv.2)), if_pos (by simp only [Int.toNat_natCast]; omega)]
  simp only [Int.toNat_natCast]
  rw [from_plain h1 (by omega) (by omega) hlen]
  have := lvlS_add 0 l v.toNat (tallN l.length - v.toNat)
  rw [Nat.zero_add, show v.toNat + (tallN l.length - v.toNat) = tallN l.length from by omega] at this
  rw [this]
theorem texts_same (l : List ByteArray) (p q : Option Addr) (c d : Nat) (hm : l.length ≤ 1099511627776) (w : World) (hr1 : Reads w p l.length c 1 (stV l)) (hr2 : Reads w q l.length d 1 (stV l)) : Calls Try.prog 17 #[.slice p l.length c, .slice q l.length d] w fun e w' => e = .returned (.bool true) ∧ S w' [Old w no] := by
  have := texts_l l l p q l.length c l.length d rfl rfl hm w hr1 hr2
  rw [decide_eq_true rfl] at this; exact this
set_option maxRecDepth 20000 in
set_option maxHeartbeats 4000000 in
set_option maxRecDepth 20000 in
set_option maxHeartbeats 4000000 in
theorem roots_law (s : ByteArray) (n level : Int) (l : List ByteArray) (p : Option Addr) (m c : Nat) (hn : m = l.length) (hm : m ≤ 9223372036854775807) (w : World) (hr : Reads w p m c 1 (stV l)) : Calls Try.prog 4 #[.string s, .slice p m c, .int .i64 n, .int .i64 level] w fun e w' => e = .returned (.bool true) ∧ S w' [Old w no] := by
  have H0 := S.old w
  refine enter 159 Try.func4 rfl rfl rfl ?_
  refine g_weak [(0, .string s), (1, .slice p m c), (2, .int .i64 n), (3, .int .i64 level)] ⟨rfl, rfl, rfl, rfl, trivial⟩ ?_
  refine g_seq ?_
  refine g_region ?_
  refine l_of (s_val (v := .bool false) (wt0 rfl) rfl rfl (x_assign rfl rfl) ?_)
  refine g_nil ?_
  refine g_then ?_
  refine g_seq ?_
  refine g_seq ?_
  refine g_region ?_
  refine l_of (s_val (v := .string s) (wt0 rfl) rfl rfl (x_move rfl rfl) ?_)
  refine l_of (s_val (v := .int .i64 ((s.size : Int))) (wt0 rfl) rfl rfl (x_lens rfl rfl Try.underlying9) ?_)
  refine l_of (s_val (v := .bool (decide ((1000 : Int) < (s.size : Int)))) (wt0 rfl) rfl rfl (x_bin rfl rfl rfl b_gtr) ?_)
  refine l_of (s_val (v := .bool (decide ((1000 : Int) < (s.size : Int)))) (wt0 rfl) rfl rfl (x_move rfl rfl) ?_)
  by_cases hb1 : (1000 : Int) < (s.size : Int)
  · skip
    refine l_of (s_val (v := .string s) (wt1 rfl rfl rfl rfl (decide_eq_true hb1)) rfl rfl (x_move rfl rfl) ?_)
    refine l_of (s_val (v := .int .i64 ((s.size : Int))) (wt1 rfl rfl rfl rfl (decide_eq_true hb1)) rfl rfl (x_lens rfl rfl Try.underlying9) ?_)
    refine l_of (s_val (v := .bool (decide (((s.size : Int) : Int) ≤ 65536))) (wt1 rfl rfl rfl rfl (decide_eq_true hb1)) rfl rfl (x_bin rfl rfl rfl b_leq) ?_)
    refine l_of (s_val (v := .bool (decide (((s.size : Int) : Int) ≤ 65536))) (wt0 rfl) rfl rfl (x_pick_t rfl rfl (decide_eq_true hb1) rfl) ?_)
    refine l_of (s_val (v := .bool (decide (((s.size : Int) : Int) ≤ 65536))) (wt0 rfl) rfl rfl (x_move rfl rfl) ?_)
    by_cases hb2 : ((s.size : Int) : Int) ≤ 65536
    · skip
      refine l_of (s_not (wn1 rfl rfl rfl rfl (decide_eq_true hb2)) rfl rfl ?_)
      refine l_of (s_not (wn1 rfl rfl rfl rfl (decide_eq_true hb2)) rfl rfl ?_)
      refine l_of (s_not (wn1 rfl rfl rfl rfl (decide_eq_true hb2)) rfl rfl ?_)
      refine l_of (s_val (v := .bool true) (wt0 rfl) rfl rfl (x_pick_t rfl rfl (decide_eq_true hb2) rfl) ?_)
      refine g_nil ?_
      refine g_then ?_
      refine g_weak [(0, .string s), (1, .slice p m c), (2, .int .i64 n), (3, .int .i64 level), (39, .bool true)] ⟨rfl, rfl, rfl, rfl, rfl, trivial⟩ ?_
      refine g_cond_t rfl rfl ?_
      refine g_seq ?_
      refine g_region ?_
      refine l_of (s_call (wt0 rfl) (x_call' rfl rfl cl10) (awake_s _) ?_)
      rintro _ wq3 ⟨rfl, H4⟩
      replace H4 : S wq3 [Old w no] := H0.absorb (new := []) H4
      refine b_ret rfl rfl ?_
      refine l_of (s_val (v := .bool true) (wt0 rfl) rfl rfl (x_assign rfl rfl) ?_)
      refine g_nil ?_
      refine g_then ?_
      refine g_ret ?_
      refine g_then_ret ?_
      refine fin_ret [.tmp 8] [.bool true] rfl ⟨rfl, trivial⟩ ?_
      exact ⟨rfl, H4.mask [true]⟩
    · skip
      refine l_of (s_val (v := .slice p m c) (wt1 rfl rfl rfl rfl (decide_eq_false hb2)) rfl rfl (x_move rfl rfl) ?_)
      refine l_of (s_call (wt1 rfl rfl rfl rfl (decide_eq_false hb2)) (x_call' rfl rfl cl9) (few_l l p m c hn (by omega) _ (H0.oldReads (k := 0) rfl hr)) ?_)
      rintro _ wq5 ⟨rfl, H6⟩
      replace H6 : S wq5 [Old w no] := H0.absorb (new := []) H6
      refine b_ret rfl rfl ?_
      refine l_of (s_val (v := .bool (!((fewB l)))) (wt1 rfl rfl rfl rfl (decide_eq_false hb2)) rfl rfl (x_not (b := (fewB l)) rfl rfl) ?_)
      refine l_of (s_val (v := .bool (!((fewB l)))) (wt0 rfl) rfl rfl (x_pick_f rfl rfl (decide_eq_false hb2) rfl) ?_)
      refine g_nil ?_
      refine g_then ?_
      refine g_weak [(0, .string s), (1, .slice p m c), (2, .int .i64 n), (3, .int .i64 level), (39, .bool (!((fewB l))))] ⟨rfl, rfl, rfl, rfl, rfl, trivial⟩ ?_
      rcases Bool.eq_false_or_eq_true ((fewB l)) with hb7 | hb7
      · skip
        have hm2 : m ≤ 1099511627776 := by have := few_len hb7; omega
        have hs1 := leavesS_len s
        have hs2 := layerS_len l level
        refine g_cond_f rfl (neg_of hb7) ?_
        refine g_skip ?_
        refine g_then ?_
        refine g_seq ?_
        refine g_region ?_
        refine l_of (s_val (v := .string s) (wt0 rfl) rfl rfl (x_move rfl rfl) ?_)
        refine l_of (s_call (wt0 rfl) (x_call' rfl rfl cl13) (leaves_s s _) ?_)
        rintro _ wq10 ⟨p8, c9, rfl, H11⟩
        replace H11 : S wq10 [Rw 9 1 p8 (leavesS s).1.length c9 (stV (leavesS s).1), Old w no] := H6.absorb (new := [Rw 9 1 p8 (leavesS s).1.length c9 (stV (leavesS s).1)]) H11
        refine b_ret rfl rfl ?_
        refine l_of (s_val (v := .tuple #[.slice p8 (leavesS s).1.length c9, .int .i64 ((leavesS s).2)]) (wt0 rfl) rfl rfl (x_move rfl rfl) ?_)
        refine l_of (s_val (v := .slice p8 (leavesS s).1.length c9) (wt0 rfl) rfl rfl (x_extract rfl rfl rfl) ?_)
        refine l_of (s_val (v := .int .i64 ((leavesS s).2)) (wt0 rfl) rfl rfl (x_extract rfl rfl rfl) ?_)
        refine l_of (s_val (v := .slice p8 (leavesS s).1.length c9) (wt0 rfl) rfl rfl (x_assign rfl rfl) ?_)
        refine l_of (s_val (v := .int .i64 ((leavesS s).2)) (wt0 rfl) rfl rfl (x_assign rfl rfl) ?_)
        refine g_nil ?_
        refine g_then ?_
        refine g_seq ?_
        refine g_region ?_
        refine l_of (s_val (v := .string s) (wt0 rfl) rfl rfl (x_move rfl rfl) ?_)
        refine l_of (s_call (wt0 rfl) (x_call' rfl rfl cl14) (leaves_r s _) ?_)
        rintro _ wq14 ⟨p12, c13, rfl, H15⟩
        replace H15 : S wq14 [Rw 9 1 p12 (leavesS s).1.length c13 (stV (leavesS s).1), Rw 9 1 p8 (leavesS s).1.length c9 (stV (leavesS s).1), Old w no] := H11.absorb (new := [Rw 9 1 p12 (leavesS s).1.length c13 (stV (leavesS s).1)]) H15
        refine b_ret rfl rfl ?_
        refine l_of (s_val (v := .tuple #[.slice p12 (leavesS s).1.length c13, .int .i64 ((leavesS s).2)]) (wt0 rfl) rfl rfl (x_move rfl rfl) ?_)
        refine l_of (s_val (v := .slice p12 (leavesS s).1.length c13) (wt0 rfl) rfl rfl (x_extract rfl rfl rfl) ?_)
        refine l_of (s_val (v := .int .i64 ((leavesS s).2)) (wt0 rfl) rfl rfl (x_extract rfl rfl rfl) ?_)
        refine l_of (s_val (v := .slice p12 (leavesS s).1.length c13) (wt0 rfl) rfl rfl (x_assign rfl rfl) ?_)
        refine l_of (s_val (v := .int .i64 ((leavesS s).2)) (wt0 rfl) rfl rfl (x_assign rfl rfl) ?_)
        refine g_nil ?_
        refine g_then ?_
        refine g_weak [(1, .slice p m c), (2, .int .i64 n), (3, .int .i64 level), (9, .slice p8 (leavesS s).1.length c9), (10, .int .i64 ((leavesS s).2)), (11, .slice p12 (leavesS s).1.length c13), (12, .int .i64 ((leavesS s).2))] ⟨rfl, rfl, rfl, rfl, rfl, rfl, rfl, trivial⟩ ?_
        refine g_seq ?_
        refine g_region ?_
        refine l_of (s_val (v := .int .i64 n) (wt0 rfl) rfl rfl (x_move rfl rfl) ?_)
        refine l_of (s_call (wt0 rfl) (x_call' rfl rfl cl15) (hgt_s _ _) ?_)
        rintro _ wq16 ⟨rfl, H17⟩
        replace H17 : S wq16 [Rw 9 1 p12 (leavesS s).1.length c13 (stV (leavesS s).1), Rw 9 1 p8 (leavesS s).1.length c9 (stV (leavesS s).1), Old w no] := H15.absorb (new := []) H17
        refine b_ret rfl rfl ?_
        refine l_of (s_val (v := .tuple #[.int .i64 ((hgt n).1), .int .i64 ((hgt n).2)]) (wt0 rfl) rfl rfl (x_move rfl rfl) ?_)
        refine l_of (s_val (v := .int .i64 ((hgt n).1)) (wt0 rfl) rfl rfl (x_extract rfl rfl rfl) ?_)
        refine l_of (s_val (v := .int .i64 ((hgt n).2)) (wt0 rfl) rfl rfl (x_extract rfl rfl rfl) ?_)
        refine l_of (s_val (v := .int .i64 ((hgt n).1)) (wt0 rfl) rfl rfl (x_assign rfl rfl) ?_)
        refine l_of (s_val (v := .int .i64 ((hgt n).2)) (wt0 rfl) rfl rfl (x_assign rfl rfl) ?_)
        refine g_nil ?_
        refine g_then ?_
        refine g_seq ?_
        refine g_region ?_
        refine l_of (s_val (v := .int .i64 n) (wt0 rfl) rfl rfl (x_move rfl rfl) ?_)
        refine l_of (s_call (wt0 rfl) (x_call' rfl rfl cl16) (hgt_r _ _) ?_)
        rintro _ wq18 ⟨rfl, H19⟩
        replace H19 : S wq18 [Rw 9 1 p12 (leavesS s).1.length c13 (stV (leavesS s).1), Rw 9 1 p8 (leavesS s).1.length c9 (stV (leavesS s).1), Old w no] := H17.absorb (new := []) H19
        refine b_ret rfl rfl ?_
        refine l_of (s_val (v := .tuple #[.int .i64 ((hgt n).1), .int .i64 ((hgt n).2)]) (wt0 rfl) rfl rfl (x_move rfl rfl) ?_)
        refine l_of (s_val (v := .int .i64 ((hgt n).1)) (wt0 rfl) rfl rfl (x_extract rfl rfl rfl) ?_)
        refine l_of (s_val (v := .int .i64 ((hgt n).2)) (wt0 rfl) rfl rfl (x_extract rfl rfl rfl) ?_)
        refine l_of (s_val (v := .int .i64 ((hgt n).1)) (wt0 rfl) rfl rfl (x_assign rfl rfl) ?_)
        refine l_of (s_val (v := .int .i64 ((hgt n).2)) (wt0 rfl) rfl rfl (x_assign rfl rfl) ?_)
        refine g_nil ?_
        refine g_then ?_
        refine g_seq ?_
        refine g_seq ?_
        refine g_region ?_
        refine l_of (s_val (v := .slice p8 (leavesS s).1.length c9) (wt0 rfl) rfl rfl (x_move rfl rfl) ?_)
        refine l_of (s_val (v := .slice p12 (leavesS s).1.length c13) (wt0 rfl) rfl rfl (x_move rfl rfl) ?_)
        refine l_of (s_call (wt0 rfl) (x_call' rfl rfl cl17) (texts_same (leavesS s).1 p8 p12 c9 c13 (by omega) _ (H19.rwReads (k := 1) rfl) (H19.rwReads (k := 0) rfl)) ?_)
        rintro _ wq20 ⟨rfl, H21⟩
        replace H21 : S wq20 [Rw 9 1 p12 (leavesS s).1.length c13 (stV (leavesS s).1), Rw 9 1 p8 (leavesS s).1.length c9 (stV (leavesS s).1), Old w no] := H19.absorb (new := []) H21
        refine b_ret rfl rfl ?_
        refine l_of (s_val (v := .bool false) (wt0 rfl) rfl rfl (x_not (b := true) rfl rfl) ?_)
        refine l_of (s_val (v := .bool false) (wt0 rfl) rfl rfl (x_move rfl rfl) ?_)
        refine l_of (s_val (v := .int .i64 ((leavesS s).2)) (wt1 rfl rfl rfl rfl rfl) rfl rfl (x_move rfl rfl) ?_)
        refine l_of (s_val (v := .int .i64 ((leavesS s).2)) (wt1 rfl rfl rfl rfl rfl) rfl rfl (x_move rfl rfl) ?_)
        refine l_of (s_val (v := .bool (!decide (((leavesS s).2 : Int) = (leavesS s).2))) (wt1 rfl rfl rfl rfl rfl) rfl rfl (x_bin rfl rfl rfl b_neq) ?_)
        refine l_of (s_val (v := .bool (!decide (((leavesS s).2 : Int) = (leavesS s).2))) (wt0 rfl) rfl rfl (x_pick_f rfl rfl rfl rfl) ?_)
        refine l_of (s_val (v := .bool (!decide (((leavesS s).2 : Int) = (leavesS s).2))) (wt0 rfl) rfl rfl (x_move rfl rfl) ?_)
        refine l_of (s_val (v := .int .i64 ((hgt n).1)) (wt1 rfl rfl rfl rfl (nf rfl)) rfl rfl (x_move rfl rfl) ?_)
        refine l_of (s_val (v := .int .i64 ((hgt n).1)) (wt1 rfl rfl rfl rfl (nf rfl)) rfl rfl (x_move rfl rfl) ?_)
        refine l_of (s_val (v := .bool (!decide (((hgt n).1 : Int) = (hgt n).1))) (wt1 rfl rfl rfl rfl (nf rfl)) rfl rfl (x_bin rfl rfl rfl b_neq) ?_)
        refine l_of (s_val (v := .bool (!decide (((hgt n).1 : Int) = (hgt n).1))) (wt0 rfl) rfl rfl (x_pick_f rfl rfl (nf rfl) rfl) ?_)
        refine l_of (s_val (v := .bool (!decide (((hgt n).1 : Int) = (hgt n).1))) (wt0 rfl) rfl rfl (x_move rfl rfl) ?_)
        refine l_of (s_val (v := .int .i64 ((hgt n).2)) (wt1 rfl rfl rfl rfl (nf rfl)) rfl rfl (x_move rfl rfl) ?_)
        refine l_of (s_val (v := .int .i64 ((hgt n).2)) (wt1 rfl rfl rfl rfl (nf rfl)) rfl rfl (x_move rfl rfl) ?_)
        refine l_of (s_val (v := .bool (!decide (((hgt n).2 : Int) = (hgt n).2))) (wt1 rfl rfl rfl rfl (nf rfl)) rfl rfl (x_bin rfl rfl rfl b_neq) ?_)
        refine l_of (s_val (v := .bool (!decide (((hgt n).2 : Int) = (hgt n).2))) (wt0 rfl) rfl rfl (x_pick_f rfl rfl (nf rfl) rfl) ?_)
        refine g_nil ?_
        refine g_then ?_
        refine g_weak [(1, .slice p m c), (3, .int .i64 level), (79, .bool (!decide (((hgt n).2 : Int) = (hgt n).2)))] ⟨rfl, rfl, rfl, trivial⟩ ?_
        refine g_cond_f rfl (nf rfl) ?_
        refine g_skip ?_
        refine g_then ?_
        refine g_seq ?_
        refine g_region ?_
        refine l_of (s_val (v := .int .i64 level) (wt0 rfl) rfl rfl (x_move rfl rfl) ?_)
        refine l_of (s_call (wt0 rfl) (x_call' rfl rfl cl18) (zeroV_s _ _) ?_)
        rintro _ wq22 ⟨rfl, H23⟩
        replace H23 : S wq22 [Rw 9 1 p12 (leavesS s).1.length c13 (stV (leavesS s).1), Rw 9 1 p8 (leavesS s).1.length c9 (stV (leavesS s).1), Old w no] := H21.absorb (new := []) H23
        refine b_ret rfl rfl ?_
        refine l_of (s_val (v := .tuple #[.string ((zeroV level).1), .int .i64 ((zeroV level).2)]) (wt0 rfl) rfl rfl (x_move rfl rfl) ?_)
        refine l_of (s_val (v := .string ((zeroV level).1)) (wt0 rfl) rfl rfl (x_extract rfl rfl rfl) ?_)
        refine l_of (s_val (v := .int .i64 ((zeroV level).2)) (wt0 rfl) rfl rfl (x_extract rfl rfl rfl) ?_)
        refine l_of (s_val (v := .string ((zeroV level).1)) (wt0 rfl) rfl rfl (x_assign rfl rfl) ?_)
        refine l_of (s_val (v := .int .i64 ((zeroV level).2)) (wt0 rfl) rfl rfl (x_assign rfl rfl) ?_)
        refine g_nil ?_
        refine g_then ?_
        refine g_seq ?_
        refine g_region ?_
        refine l_of (s_val (v := .int .i64 level) (wt0 rfl) rfl rfl (x_move rfl rfl) ?_)
        refine l_of (s_call (wt0 rfl) (x_call' rfl rfl cl19) (zeroV_r _ _) ?_)
        rintro _ wq24 ⟨rfl, H25⟩
        replace H25 : S wq24 [Rw 9 1 p12 (leavesS s).1.length c13 (stV (leavesS s).1), Rw 9 1 p8 (leavesS s).1.length c9 (stV (leavesS s).1), Old w no] := H23.absorb (new := []) H25
        refine b_ret rfl rfl ?_
        refine l_of (s_val (v := .tuple #[.string ((zeroV level).1), .int .i64 ((zeroV level).2)]) (wt0 rfl) rfl rfl (x_move rfl rfl) ?_)
        refine l_of (s_val (v := .string ((zeroV level).1)) (wt0 rfl) rfl rfl (x_extract rfl rfl rfl) ?_)
        refine l_of (s_val (v := .int .i64 ((zeroV level).2)) (wt0 rfl) rfl rfl (x_extract rfl rfl rfl) ?_)
        refine l_of (s_val (v := .string ((zeroV level).1)) (wt0 rfl) rfl rfl (x_assign rfl rfl) ?_)
        refine l_of (s_val (v := .int .i64 ((zeroV level).2)) (wt0 rfl) rfl rfl (x_assign rfl rfl) ?_)
        refine g_nil ?_
        refine g_then ?_
        refine g_seq ?_
        refine g_region ?_
        refine l_of (s_val (v := .slice p m c) (wt0 rfl) rfl rfl (x_move rfl rfl) ?_)
        refine l_of (s_call (wt0 rfl) (x_call' rfl rfl cl20) (root_s l p m c hn hm2 _ (H25.oldReads (k := 2) rfl hr)) ?_)
        rintro _ wq26 ⟨rfl, H27⟩
        replace H27 : S wq26 [Rw 9 1 p12 (leavesS s).1.length c13 (stV (leavesS s).1), Rw 9 1 p8 (leavesS s).1.length c9 (stV (leavesS s).1), Old w no] := H25.absorb (new := []) H27
        refine b_ret rfl rfl ?_
        refine l_of (s_val (v := .tuple #[.string ((rootS l).1), .int .i64 ((rootS l).2)]) (wt0 rfl) rfl rfl (x_move rfl rfl) ?_)
        refine l_of (s_val (v := .string ((rootS l).1)) (wt0 rfl) rfl rfl (x_extract rfl rfl rfl) ?_)
        refine l_of (s_val (v := .int .i64 ((rootS l).2)) (wt0 rfl) rfl rfl (x_extract rfl rfl rfl) ?_)
        refine l_of (s_val (v := .string ((rootS l).1)) (wt0 rfl) rfl rfl (x_assign rfl rfl) ?_)
        refine l_of (s_val (v := .int .i64 ((rootS l).2)) (wt0 rfl) rfl rfl (x_assign rfl rfl) ?_)
        refine g_nil ?_
        refine g_then ?_
        refine g_weak [(1, .slice p m c), (3, .int .i64 level), (10, .int .i64 ((zeroV level).2)), (12, .int .i64 ((zeroV level).2)), (14, .int .i64 ((rootS l).2)), (17, .string ((zeroV level).1)), (18, .string ((zeroV level).1)), (19, .string ((rootS l).1))] ⟨rfl, rfl, rfl, rfl, rfl, rfl, rfl, rfl, trivial⟩ ?_
        refine g_seq ?_
        refine g_region ?_
        refine l_of (s_val (v := .slice p m c) (wt0 rfl) rfl rfl (x_move rfl rfl) ?_)
        refine l_of (s_call (wt0 rfl) (x_call' rfl rfl cl21) (root_r l p m c hn hm2 _ (H27.oldReads (k := 2) rfl hr)) ?_)
        rintro _ wq28 ⟨rfl, H29⟩
        replace H29 : S wq28 [Rw 9 1 p12 (leavesS s).1.length c13 (stV (leavesS s).1), Rw 9 1 p8 (leavesS s).1.length c9 (stV (leavesS s).1), Old w no] := H27.absorb (new := []) H29
        refine b_ret rfl rfl ?_
        refine l_of (s_val (v := .tuple #[.string ((rootS l).1), .int .i64 ((rootS l).2)]) (wt0 rfl) rfl rfl (x_move rfl rfl) ?_)
        refine l_of (s_val (v := .string ((rootS l).1)) (wt0 rfl) rfl rfl (x_extract rfl rfl rfl) ?_)
        refine l_of (s_val (v := .int .i64 ((rootS l).2)) (wt0 rfl) rfl rfl (x_extract rfl rfl rfl) ?_)
        refine l_of (s_val (v := .string ((rootS l).1)) (wt0 rfl) rfl rfl (x_assign rfl rfl) ?_)
        refine l_of (s_val (v := .int .i64 ((rootS l).2)) (wt0 rfl) rfl rfl (x_assign rfl rfl) ?_)
        refine g_nil ?_
        refine g_then ?_
        refine g_seq ?_
        refine g_region ?_
        refine l_of (s_val (v := .slice p m c) (wt0 rfl) rfl rfl (x_move rfl rfl) ?_)
        refine l_of (s_val (v := .int .i64 level) (wt0 rfl) rfl rfl (x_move rfl rfl) ?_)
        refine l_of (s_call (wt0 rfl) (x_call' rfl rfl cl22) (layerL_s l p m c hn hm2 level _ (H29.oldReads (k := 2) rfl hr)) ?_)
        rintro _ wq32 ⟨p30, c31, rfl, H33⟩
        replace H33 : S wq32 [Rw 9 1 p30 (layerS l level).1.length c31 (stV (layerS l level).1), Rw 9 1 p12 (leavesS s).1.length c13 (stV (leavesS s).1), Rw 9 1 p8 (leavesS s).1.length c9 (stV (leavesS s).1), Old w no] := H29.absorb (new := [Rw 9 1 p30 (layerS l level).1.length c31 (stV (layerS l level).1)]) H33
        refine b_ret rfl rfl ?_
        refine l_of (s_val (v := .tuple #[.slice p30 (layerS l level).1.length c31, .int .i64 ((layerS l level).2)]) (wt0 rfl) rfl rfl (x_move rfl rfl) ?_)
        refine l_of (s_val (v := .slice p30 (layerS l level).1.length c31) (wt0 rfl) rfl rfl (x_extract rfl rfl rfl) ?_)
        refine l_of (s_val (v := .int .i64 ((layerS l level).2)) (wt0 rfl) rfl rfl (x_extract rfl rfl rfl) ?_)
        refine l_of (s_val (v := .slice p30 (layerS l level).1.length c31) (wt0 rfl) rfl rfl (x_assign rfl rfl) ?_)
        refine l_of (s_val (v := .int .i64 ((layerS l level).2)) (wt0 rfl) rfl rfl (x_assign rfl rfl) ?_)
        refine g_nil ?_
        refine g_then ?_
        refine g_seq ?_
        refine g_region ?_
        refine l_of (s_val (v := .slice p m c) (wt0 rfl) rfl rfl (x_move rfl rfl) ?_)
        refine l_of (s_val (v := .int .i64 level) (wt0 rfl) rfl rfl (x_move rfl rfl) ?_)
        refine l_of (s_call (wt0 rfl) (x_call' rfl rfl cl23) (layer_r l p m c hn hm2 level _ (H33.oldReads (k := 3) rfl hr)) ?_)
        rintro _ wq38 ⟨p34, c35, X36, rfl, hX37, H39⟩
        replace H39 : S wq38 [X36, Rw 9 1 p30 (layerS l level).1.length c31 (stV (layerS l level).1), Rw 9 1 p12 (leavesS s).1.length c13 (stV (leavesS s).1), Rw 9 1 p8 (leavesS s).1.length c9 (stV (leavesS s).1), Old w no] := H33.absorb (new := [X36]) H39
        refine b_ret rfl rfl ?_
        refine l_of (s_val (v := .tuple #[.slice p34 (layerS l level).1.length c35, .int .i64 ((layerS l level).2)]) (wt0 rfl) rfl rfl (x_move rfl rfl) ?_)
        refine l_of (s_val (v := .slice p34 (layerS l level).1.length c35) (wt0 rfl) rfl rfl (x_extract rfl rfl rfl) ?_)
        refine l_of (s_val (v := .int .i64 ((layerS l level).2)) (wt0 rfl) rfl rfl (x_extract rfl rfl rfl) ?_)
        refine l_of (s_val (v := .slice p34 (layerS l level).1.length c35) (wt0 rfl) rfl rfl (x_assign rfl rfl) ?_)
        refine l_of (s_val (v := .int .i64 ((layerS l level).2)) (wt0 rfl) rfl rfl (x_assign rfl rfl) ?_)
        refine g_nil ?_
        refine g_then ?_
        refine g_weak [(1, .slice p m c), (3, .int .i64 level), (10, .int .i64 ((zeroV level).2)), (12, .int .i64 ((zeroV level).2)), (14, .int .i64 ((rootS l).2)), (16, .int .i64 ((rootS l).2)), (17, .string ((zeroV level).1)), (18, .string ((zeroV level).1)), (19, .string ((rootS l).1)), (20, .string ((rootS l).1)), (21, .slice p30 (layerS l level).1.length c31), (22, .int .i64 ((layerS l level).2)), (23, .slice p34 (layerS l level).1.length c35), (24, .int .i64 ((layerS l level).2))] ⟨rfl, rfl, rfl, rfl, rfl, rfl, rfl, rfl, rfl, rfl, rfl, rfl, rfl, rfl, trivial⟩ ?_
        refine g_seq ?_
        refine g_seq ?_
        refine g_region ?_
        refine l_of (s_val (v := .string ((zeroV level).1)) (wt0 rfl) rfl rfl (x_move rfl rfl) ?_)
        refine l_of (s_val (v := .string ((zeroV level).1)) (wt0 rfl) rfl rfl (x_move rfl rfl) ?_)
        refine l_of (s_val (v := .bool (!decide ((zeroV level).1 = (zeroV level).1))) (wt0 rfl) rfl rfl (x_bin rfl rfl rfl b_nes) ?_)
        refine l_of (s_val (v := .bool (!decide ((zeroV level).1 = (zeroV level).1))) (wt0 rfl) rfl rfl (x_move rfl rfl) ?_)
        refine l_of (s_val (v := .int .i64 ((zeroV level).2)) (wt1 rfl rfl rfl rfl (nf rfl)) rfl rfl (x_move rfl rfl) ?_)
        refine l_of (s_val (v := .int .i64 ((zeroV level).2)) (wt1 rfl rfl rfl rfl (nf rfl)) rfl rfl (x_move rfl rfl) ?_)
        refine l_of (s_val (v := .bool (!decide (((zeroV level).2 : Int) = (zeroV level).2))) (wt1 rfl rfl rfl rfl (nf rfl)) rfl rfl (x_bin rfl rfl rfl b_neq) ?_)
        refine l_of (s_val (v := .bool (!decide (((zeroV level).2 : Int) = (zeroV level).2))) (wt0 rfl) rfl rfl (x_pick_f rfl rfl (nf rfl) rfl) ?_)
        refine l_of (s_val (v := .bool (!decide (((zeroV level).2 : Int) = (zeroV level).2))) (wt0 rfl) rfl rfl (x_move rfl rfl) ?_)
        refine l_of (s_val (v := .string ((rootS l).1)) (wt1 rfl rfl rfl rfl (nf rfl)) rfl rfl (x_move rfl rfl) ?_)
        refine l_of (s_val (v := .string ((rootS l).1)) (wt1 rfl rfl rfl rfl (nf rfl)) rfl rfl (x_move rfl rfl) ?_)
        refine l_of (s_val (v := .bool (!decide ((rootS l).1 = (rootS l).1))) (wt1 rfl rfl rfl rfl (nf rfl)) rfl rfl (x_bin rfl rfl rfl b_nes) ?_)
        refine l_of (s_val (v := .bool (!decide ((rootS l).1 = (rootS l).1))) (wt0 rfl) rfl rfl (x_pick_f rfl rfl (nf rfl) rfl) ?_)
        refine l_of (s_val (v := .bool (!decide ((rootS l).1 = (rootS l).1))) (wt0 rfl) rfl rfl (x_move rfl rfl) ?_)
        refine l_of (s_val (v := .int .i64 ((rootS l).2)) (wt1 rfl rfl rfl rfl (nf rfl)) rfl rfl (x_move rfl rfl) ?_)
        refine l_of (s_val (v := .int .i64 ((rootS l).2)) (wt1 rfl rfl rfl rfl (nf rfl)) rfl rfl (x_move rfl rfl) ?_)
        refine l_of (s_val (v := .bool (!decide (((rootS l).2 : Int) = (rootS l).2))) (wt1 rfl rfl rfl rfl (nf rfl)) rfl rfl (x_bin rfl rfl rfl b_neq) ?_)
        refine l_of (s_val (v := .bool (!decide (((rootS l).2 : Int) = (rootS l).2))) (wt0 rfl) rfl rfl (x_pick_f rfl rfl (nf rfl) rfl) ?_)
        refine l_of (s_val (v := .bool (!decide (((rootS l).2 : Int) = (rootS l).2))) (wt0 rfl) rfl rfl (x_move rfl rfl) ?_)
        refine l_of (s_val (v := .slice p30 (layerS l level).1.length c31) (wt1 rfl rfl rfl rfl (nf rfl)) rfl rfl (x_move rfl rfl) ?_)
        refine l_of (s_val (v := .slice p34 (layerS l level).1.length c35) (wt1 rfl rfl rfl rfl (nf rfl)) rfl rfl (x_move rfl rfl) ?_)
        refine l_of (s_call (wt1 rfl rfl rfl rfl (nf rfl)) (x_call' rfl rfl cl17) (texts_same (layerS l level).1 p30 p34 c31 c35 (by omega) _ (H39.rwReads (k := 1) rfl) (hX37 _ (H39.at (k := 0) rfl))) ?_)
        rintro _ wq40 ⟨rfl, H41⟩
        replace H41 : S wq40 [X36, Rw 9 1 p30 (layerS l level).1.length c31 (stV (layerS l level).1), Rw 9 1 p12 (leavesS s).1.length c13 (stV (leavesS s).1), Rw 9 1 p8 (leavesS s).1.length c9 (stV (leavesS s).1), Old w no] := H39.absorb (new := []) H41
        refine b_ret rfl rfl ?_
        refine l_of (s_val (v := .bool false) (wt1 rfl rfl rfl rfl (nf rfl)) rfl rfl (x_not (b := true) rfl rfl) ?_)
        refine l_of (s_val (v := .bool false) (wt0 rfl) rfl rfl (x_pick_f rfl rfl (nf rfl) rfl) ?_)
        refine l_of (s_val (v := .bool false) (wt0 rfl) rfl rfl (x_move rfl rfl) ?_)
        refine l_of (s_val (v := .int .i64 ((layerS l level).2)) (wt1 rfl rfl rfl rfl rfl) rfl rfl (x_move rfl rfl) ?_)
        refine l_of (s_val (v := .int .i64 ((layerS l level).2)) (wt1 rfl rfl rfl rfl rfl) rfl rfl (x_move rfl rfl) ?_)
        refine l_of (s_val (v := .bool (!decide (((layerS l level).2 : Int) = (layerS l level).2))) (wt1 rfl rfl rfl rfl rfl) rfl rfl (x_bin rfl rfl rfl b_neq) ?_)
        refine l_of (s_val (v := .bool (!decide (((layerS l level).2 : Int) = (layerS l level).2))) (wt0 rfl) rfl rfl (x_pick_f rfl rfl rfl rfl) ?_)
        refine g_nil ?_
        refine g_then ?_
        refine g_weak [(1, .slice p m c), (3, .int .i64 level), (19, .string ((rootS l).1)), (21, .slice p30 (layerS l level).1.length c31), (22, .int .i64 ((layerS l level).2)), (140, .bool (!decide (((layerS l level).2 : Int) = (layerS l level).2)))] ⟨rfl, rfl, rfl, rfl, rfl, rfl, trivial⟩ ?_
        refine g_cond_f rfl (nf rfl) ?_
        refine g_skip ?_
        refine g_then ?_
        refine g_seq ?_
        refine g_seq ?_
        refine g_region ?_
        refine l_of (s_val (v := .int .i64 ((layerS l level).2)) (wt0 rfl) rfl rfl (x_move rfl rfl) ?_)
        refine l_of (s_val (v := .bool (decide (((layerS l level).2 : Int) = 0))) (wt0 rfl) rfl rfl (x_bin rfl rfl rfl b_eql) ?_)
        refine g_nil ?_
        refine g_then ?_
        by_cases hb42 : ((layerS l level).2 : Int) = 0
        · skip
          refine g_cond_t rfl (decide_eq_true hb42) ?_
          refine g_seq ?_
          refine g_region ?_
          refine l_of (s_val (v := .slice p m c) (wt0 rfl) rfl rfl (x_move rfl rfl) ?_)
          refine l_of (s_val (v := .int .i64 ((m : Int))) (wt0 rfl) rfl rfl (x_lenl rfl rfl Try.underlying22) ?_)
          refine l_of (s_val (v := .int .i64 level) (wt0 rfl) rfl rfl (x_move rfl rfl) ?_)
          refine l_of (s_val (v := .slice p30 (layerS l level).1.length c31) (wt0 rfl) rfl rfl (x_move rfl rfl) ?_)
          obtain ⟨hrf, hr0⟩ := roots_from hb42
          have hfl43 := fromL_s (l.length : Int) level (layerS l level).1 p30 _ c31 rfl (by omega) wq40 (H41.rwReads (k := 1) rfl)
          rw [hrf, ← hn] at hfl43
          refine l_of (s_call (wt0 rfl) (x_call' rfl rfl cl11) (hfl43) ?_)
          rintro _ wq44 ⟨rfl, H45⟩
          replace H45 : S wq44 [X36, Rw 9 1 p30 (layerS l level).1.length c31 (stV (layerS l level).1), Rw 9 1 p12 (leavesS s).1.length c13 (stV (leavesS s).1), Rw 9 1 p8 (leavesS s).1.length c9 (stV (leavesS s).1), Old w no] := H41.absorb (new := []) H45
          refine b_ret rfl rfl ?_
          refine l_of (s_val (v := .tuple #[.string ((rootS l).1), .int .i64 0]) (wt0 rfl) rfl rfl (x_move rfl rfl) ?_)
          refine l_of (s_val (v := .string ((rootS l).1)) (wt0 rfl) rfl rfl (x_extract rfl rfl rfl) ?_)
          refine l_of (s_val (v := .int .i64 0) (wt0 rfl) rfl rfl (x_extract rfl rfl rfl) ?_)
          refine l_of (s_val (v := .string ((rootS l).1)) (wt0 rfl) rfl rfl (x_assign rfl rfl) ?_)
          refine l_of (s_val (v := .int .i64 0) (wt0 rfl) rfl rfl (x_assign rfl rfl) ?_)
          refine g_nil ?_
          refine g_then ?_
          refine g_weak [(19, .string ((rootS l).1)), (25, .string ((rootS l).1)), (26, .int .i64 0)] ⟨rfl, rfl, rfl, trivial⟩ ?_
          refine g_seq ?_
          refine g_region ?_
          refine l_of (s_val (v := .string ((rootS l).1)) (wt0 rfl) rfl rfl (x_move rfl rfl) ?_)
          refine l_of (s_val (v := .string ((rootS l).1)) (wt0 rfl) rfl rfl (x_move rfl rfl) ?_)
          refine l_of (s_val (v := .bool (!decide ((rootS l).1 = (rootS l).1))) (wt0 rfl) rfl rfl (x_bin rfl rfl rfl b_nes) ?_)
          refine l_of (s_val (v := .bool (!decide ((rootS l).1 = (rootS l).1))) (wt0 rfl) rfl rfl (x_move rfl rfl) ?_)
          refine l_of (s_val (v := .int .i64 0) (wt1 rfl rfl rfl rfl (nf rfl)) rfl rfl (x_move rfl rfl) ?_)
          refine l_of (s_val (v := .bool (!decide ((0 : Int) = 0))) (wt1 rfl rfl rfl rfl (nf rfl)) rfl rfl (x_bin rfl rfl rfl b_neq) ?_)
          refine l_of (s_val (v := .bool (!decide ((0 : Int) = 0))) (wt0 rfl) rfl rfl (x_pick_f rfl rfl (nf rfl) rfl) ?_)
          refine g_nil ?_
          refine g_then ?_
          refine g_cond_f rfl (nf rfl) ?_
          refine g_skip ?_
          refine g_then ?_
          refine g_seq ?_
          refine g_region ?_
          refine l_of (s_call (wt0 rfl) (x_call' rfl rfl cl10) (awake_s _) ?_)
          rintro _ wq46 ⟨rfl, H47⟩
          replace H47 : S wq46 [X36, Rw 9 1 p30 (layerS l level).1.length c31 (stV (layerS l level).1), Rw 9 1 p12 (leavesS s).1.length c13 (stV (leavesS s).1), Rw 9 1 p8 (leavesS s).1.length c9 (stV (leavesS s).1), Old w no] := H45.absorb (new := []) H47
          refine b_ret rfl rfl ?_
          refine l_of (s_val (v := .bool true) (wt0 rfl) rfl rfl (x_assign rfl rfl) ?_)
          refine g_nil ?_
          refine g_then ?_
          refine g_ret ?_
          refine fin_ret [.tmp 8] [.bool true] rfl ⟨rfl, trivial⟩ ?_
          exact ⟨rfl, H47.mask [false, false, false, false, true]⟩
        · skip
          refine g_cond_f rfl (decide_eq_false hb42) ?_
          refine g_skip ?_
          refine g_then ?_
          refine g_seq ?_
          refine g_region ?_
          refine l_of (s_call (wt0 rfl) (x_call' rfl rfl cl10) (awake_s _) ?_)
          rintro _ wq48 ⟨rfl, H49⟩
          replace H49 : S wq48 [X36, Rw 9 1 p30 (layerS l level).1.length c31 (stV (layerS l level).1), Rw 9 1 p12 (leavesS s).1.length c13 (stV (leavesS s).1), Rw 9 1 p8 (leavesS s).1.length c9 (stV (leavesS s).1), Old w no] := H41.absorb (new := []) H49
          refine b_ret rfl rfl ?_
          refine l_of (s_val (v := .bool true) (wt0 rfl) rfl rfl (x_assign rfl rfl) ?_)
          refine g_nil ?_
          refine g_then ?_
          refine g_ret ?_
          refine fin_ret [.tmp 8] [.bool true] rfl ⟨rfl, trivial⟩ ?_
          exact ⟨rfl, H49.mask [false, false, false, false, true]⟩
      · skip
        refine g_cond_t rfl (neg_of hb7) ?_
        refine g_seq ?_
        refine g_region ?_
        refine l_of (s_call (wt0 rfl) (x_call' rfl rfl cl10) (awake_s _) ?_)
        rintro _ wq50 ⟨rfl, H51⟩
        replace H51 : S wq50 [Old w no] := H6.absorb (new := []) H51
        refine b_ret rfl rfl ?_
        refine l_of (s_val (v := .bool true) (wt0 rfl) rfl rfl (x_assign rfl rfl) ?_)
        refine g_nil ?_
        refine g_then ?_
        refine g_ret ?_
        refine g_then_ret ?_
        refine fin_ret [.tmp 8] [.bool true] rfl ⟨rfl, trivial⟩ ?_
        exact ⟨rfl, H51.mask [true]⟩
  · skip
    refine l_of (s_not (wn1 rfl rfl rfl rfl (decide_eq_false hb1)) rfl rfl ?_)
    refine l_of (s_not (wn1 rfl rfl rfl rfl (decide_eq_false hb1)) rfl rfl ?_)
    refine l_of (s_not (wn1 rfl rfl rfl rfl (decide_eq_false hb1)) rfl rfl ?_)
    refine l_of (s_val (v := .bool false) (wt0 rfl) rfl rfl (x_pick_f rfl rfl (decide_eq_false hb1) rfl) ?_)
    refine l_of (s_val (v := .bool false) (wt0 rfl) rfl rfl (x_move rfl rfl) ?_)
    refine l_of (s_val (v := .slice p m c) (wt1 rfl rfl rfl rfl rfl) rfl rfl (x_move rfl rfl) ?_)
    refine l_of (s_call (wt1 rfl rfl rfl rfl rfl) (x_call' rfl rfl cl9) (few_l l p m c hn (by omega) _ (H0.oldReads (k := 0) rfl hr)) ?_)
    rintro _ wq52 ⟨rfl, H53⟩
    replace H53 : S wq52 [Old w no] := H0.absorb (new := []) H53
    refine b_ret rfl rfl ?_
    refine l_of (s_val (v := .bool (!((fewB l)))) (wt1 rfl rfl rfl rfl rfl) rfl rfl (x_not (b := (fewB l)) rfl rfl) ?_)
    refine l_of (s_val (v := .bool (!((fewB l)))) (wt0 rfl) rfl rfl (x_pick_f rfl rfl rfl rfl) ?_)
    refine g_nil ?_
    refine g_then ?_
    refine g_weak [(0, .string s), (1, .slice p m c), (2, .int .i64 n), (3, .int .i64 level), (39, .bool (!((fewB l))))] ⟨rfl, rfl, rfl, rfl, rfl, trivial⟩ ?_
    rcases Bool.eq_false_or_eq_true ((fewB l)) with hb54 | hb54
    · skip
      have hm2 : m ≤ 1099511627776 := by have := few_len hb54; omega
      have hs1 := leavesS_len s
      have hs2 := layerS_len l level
      refine g_cond_f rfl (neg_of hb54) ?_
      refine g_skip ?_
      refine g_then ?_
      refine g_seq ?_
      refine g_region ?_
      refine l_of (s_val (v := .string s) (wt0 rfl) rfl rfl (x_move rfl rfl) ?_)
      refine l_of (s_call (wt0 rfl) (x_call' rfl rfl cl13) (leaves_s s _) ?_)
      rintro _ wq57 ⟨p55, c56, rfl, H58⟩
      replace H58 : S wq57 [Rw 9 1 p55 (leavesS s).1.length c56 (stV (leavesS s).1), Old w no] := H53.absorb (new := [Rw 9 1 p55 (leavesS s).1.length c56 (stV (leavesS s).1)]) H58
      refine b_ret rfl rfl ?_
      refine l_of (s_val (v := .tuple #[.slice p55 (leavesS s).1.length c56, .int .i64 ((leavesS s).2)]) (wt0 rfl) rfl rfl (x_move rfl rfl) ?_)
      refine l_of (s_val (v := .slice p55 (leavesS s).1.length c56) (wt0 rfl) rfl rfl (x_extract rfl rfl rfl) ?_)
      refine l_of (s_val (v := .int .i64 ((leavesS s).2)) (wt0 rfl) rfl rfl (x_extract rfl rfl rfl) ?_)
      refine l_of (s_val (v := .slice p55 (leavesS s).1.length c56) (wt0 rfl) rfl rfl (x_assign rfl rfl) ?_)
      refine l_of (s_val (v := .int .i64 ((leavesS s).2)) (wt0 rfl) rfl rfl (x_assign rfl rfl) ?_)
      refine g_nil ?_
      refine g_then ?_
      refine g_seq ?_
      refine g_region ?_
      refine l_of (s_val (v := .string s) (wt0 rfl) rfl rfl (x_move rfl rfl) ?_)
      refine l_of (s_call (wt0 rfl) (x_call' rfl rfl cl14) (leaves_r s _) ?_)
      rintro _ wq61 ⟨p59, c60, rfl, H62⟩
      replace H62 : S wq61 [Rw 9 1 p59 (leavesS s).1.length c60 (stV (leavesS s).1), Rw 9 1 p55 (leavesS s).1.length c56 (stV (leavesS s).1), Old w no] := H58.absorb (new := [Rw 9 1 p59 (leavesS s).1.length c60 (stV (leavesS s).1)]) H62
      refine b_ret rfl rfl ?_
      refine l_of (s_val (v := .tuple #[.slice p59 (leavesS s).1.length c60, .int .i64 ((leavesS s).2)]) (wt0 rfl) rfl rfl (x_move rfl rfl) ?_)
      refine l_of (s_val (v := .slice p59 (leavesS s).1.length c60) (wt0 rfl) rfl rfl (x_extract rfl rfl rfl) ?_)
      refine l_of (s_val (v := .int .i64 ((leavesS s).2)) (wt0 rfl) rfl rfl (x_extract rfl rfl rfl) ?_)
      refine l_of (s_val (v := .slice p59 (leavesS s).1.length c60) (wt0 rfl) rfl rfl (x_assign rfl rfl) ?_)
      refine l_of (s_val (v := .int .i64 ((leavesS s).2)) (wt0 rfl) rfl rfl (x_assign rfl rfl) ?_)
      refine g_nil ?_
      refine g_then ?_
      refine g_weak [(1, .slice p m c), (2, .int .i64 n), (3, .int .i64 level), (9, .slice p55 (leavesS s).1.length c56), (10, .int .i64 ((leavesS s).2)), (11, .slice p59 (leavesS s).1.length c60), (12, .int .i64 ((leavesS s).2))] ⟨rfl, rfl, rfl, rfl, rfl, rfl, rfl, trivial⟩ ?_
      refine g_seq ?_
      refine g_region ?_
      refine l_of (s_val (v := .int .i64 n) (wt0 rfl) rfl rfl (x_move rfl rfl) ?_)
      refine l_of (s_call (wt0 rfl) (x_call' rfl rfl cl15) (hgt_s _ _) ?_)
      rintro _ wq63 ⟨rfl, H64⟩
      replace H64 : S wq63 [Rw 9 1 p59 (leavesS s).1.length c60 (stV (leavesS s).1), Rw 9 1 p55 (leavesS s).1.length c56 (stV (leavesS s).1), Old w no] := H62.absorb (new := []) H64
      refine b_ret rfl rfl ?_
      refine l_of (s_val (v := .tuple #[.int .i64 ((hgt n).1), .int .i64 ((hgt n).2)]) (wt0 rfl) rfl rfl (x_move rfl rfl) ?_)
      refine l_of (s_val (v := .int .i64 ((hgt n).1)) (wt0 rfl) rfl rfl (x_extract rfl rfl rfl) ?_)
      refine l_of (s_val (v := .int .i64 ((hgt n).2)) (wt0 rfl) rfl rfl (x_extract rfl rfl rfl) ?_)
      refine l_of (s_val (v := .int .i64 ((hgt n).1)) (wt0 rfl) rfl rfl (x_assign rfl rfl) ?_)
      refine l_of (s_val (v := .int .i64 ((hgt n).2)) (wt0 rfl) rfl rfl (x_assign rfl rfl) ?_)
      refine g_nil ?_
      refine g_then ?_
      refine g_seq ?_
      refine g_region ?_
      refine l_of (s_val (v := .int .i64 n) (wt0 rfl) rfl rfl (x_move rfl rfl) ?_)
      refine l_of (s_call (wt0 rfl) (x_call' rfl rfl cl16) (hgt_r _ _) ?_)
      rintro _ wq65 ⟨rfl, H66⟩
      replace H66 : S wq65 [Rw 9 1 p59 (leavesS s).1.length c60 (stV (leavesS s).1), Rw 9 1 p55 (leavesS s).1.length c56 (stV (leavesS s).1), Old w no] := H64.absorb (new := []) H66
      refine b_ret rfl rfl ?_
      refine l_of (s_val (v := .tuple #[.int .i64 ((hgt n).1), .int .i64 ((hgt n).2)]) (wt0 rfl) rfl rfl (x_move rfl rfl) ?_)
      refine l_of (s_val (v := .int .i64 ((hgt n).1)) (wt0 rfl) rfl rfl (x_extract rfl rfl rfl) ?_)
      refine l_of (s_val (v := .int .i64 ((hgt n).2)) (wt0 rfl) rfl rfl (x_extract rfl rfl rfl) ?_)
      refine l_of (s_val (v := .int .i64 ((hgt n).1)) (wt0 rfl) rfl rfl (x_assign rfl rfl) ?_)
      refine l_of (s_val (v := .int .i64 ((hgt n).2)) (wt0 rfl) rfl rfl (x_assign rfl rfl) ?_)
      refine g_nil ?_
      refine g_then ?_
      refine g_seq ?_
      refine g_seq ?_
      refine g_region ?_
      refine l_of (s_val (v := .slice p55 (leavesS s).1.length c56) (wt0 rfl) rfl rfl (x_move rfl rfl) ?_)
      refine l_of (s_val (v := .slice p59 (leavesS s).1.length c60) (wt0 rfl) rfl rfl (x_move rfl rfl) ?_)
      refine l_of (s_call (wt0 rfl) (x_call' rfl rfl cl17) (texts_same (leavesS s).1 p55 p59 c56 c60 (by omega) _ (H66.rwReads (k := 1) rfl) (H66.rwReads (k := 0) rfl)) ?_)
      rintro _ wq67 ⟨rfl, H68⟩
      replace H68 : S wq67 [Rw 9 1 p59 (leavesS s).1.length c60 (stV (leavesS s).1), Rw 9 1 p55 (leavesS s).1.length c56 (stV (leavesS s).1), Old w no] := H66.absorb (new := []) H68
      refine b_ret rfl rfl ?_
      refine l_of (s_val (v := .bool false) (wt0 rfl) rfl rfl (x_not (b := true) rfl rfl) ?_)
      refine l_of (s_val (v := .bool false) (wt0 rfl) rfl rfl (x_move rfl rfl) ?_)
      refine l_of (s_val (v := .int .i64 ((leavesS s).2)) (wt1 rfl rfl rfl rfl rfl) rfl rfl (x_move rfl rfl) ?_)
      refine l_of (s_val (v := .int .i64 ((leavesS s).2)) (wt1 rfl rfl rfl rfl rfl) rfl rfl (x_move rfl rfl) ?_)
      refine l_of (s_val (v := .bool (!decide (((leavesS s).2 : Int) = (leavesS s).2))) (wt1 rfl rfl rfl rfl rfl) rfl rfl (x_bin rfl rfl rfl b_neq) ?_)
      refine l_of (s_val (v := .bool (!decide (((leavesS s).2 : Int) = (leavesS s).2))) (wt0 rfl) rfl rfl (x_pick_f rfl rfl rfl rfl) ?_)
      refine l_of (s_val (v := .bool (!decide (((leavesS s).2 : Int) = (leavesS s).2))) (wt0 rfl) rfl rfl (x_move rfl rfl) ?_)
      refine l_of (s_val (v := .int .i64 ((hgt n).1)) (wt1 rfl rfl rfl rfl (nf rfl)) rfl rfl (x_move rfl rfl) ?_)
      refine l_of (s_val (v := .int .i64 ((hgt n).1)) (wt1 rfl rfl rfl rfl (nf rfl)) rfl rfl (x_move rfl rfl) ?_)
      refine l_of (s_val (v := .bool (!decide (((hgt n).1 : Int) = (hgt n).1))) (wt1 rfl rfl rfl rfl (nf rfl)) rfl rfl (x_bin rfl rfl rfl b_neq) ?_)
      refine l_of (s_val (v := .bool (!decide (((hgt n).1 : Int) = (hgt n).1))) (wt0 rfl) rfl rfl (x_pick_f rfl rfl (nf rfl) rfl) ?_)
      refine l_of (s_val (v := .bool (!decide (((hgt n).1 : Int) = (hgt n).1))) (wt0 rfl) rfl rfl (x_move rfl rfl) ?_)
      refine l_of (s_val (v := .int .i64 ((hgt n).2)) (wt1 rfl rfl rfl rfl (nf rfl)) rfl rfl (x_move rfl rfl) ?_)
      refine l_of (s_val (v := .int .i64 ((hgt n).2)) (wt1 rfl rfl rfl rfl (nf rfl)) rfl rfl (x_move rfl rfl) ?_)
      refine l_of (s_val (v := .bool (!decide (((hgt n).2 : Int) = (hgt n).2))) (wt1 rfl rfl rfl rfl (nf rfl)) rfl rfl (x_bin rfl rfl rfl b_neq) ?_)
      refine l_of (s_val (v := .bool (!decide (((hgt n).2 : Int) = (hgt n).2))) (wt0 rfl) rfl rfl (x_pick_f rfl rfl (nf rfl) rfl) ?_)
      refine g_nil ?_
      refine g_then ?_
      refine g_weak [(1, .slice p m c), (3, .int .i64 level), (79, .bool (!decide (((hgt n).2 : Int) = (hgt n).2)))] ⟨rfl, rfl, rfl, trivial⟩ ?_
      refine g_cond_f rfl (nf rfl) ?_
      refine g_skip ?_
      refine g_then ?_
      refine g_seq ?_
      refine g_region ?_
      refine l_of (s_val (v := .int .i64 level) (wt0 rfl) rfl rfl (x_move rfl rfl) ?_)
      refine l_of (s_call (wt0 rfl) (x_call' rfl rfl cl18) (zeroV_s _ _) ?_)
      rintro _ wq69 ⟨rfl, H70⟩
      replace H70 : S wq69 [Rw 9 1 p59 (leavesS s).1.length c60 (stV (leavesS s).1), Rw 9 1 p55 (leavesS s).1.length c56 (stV (leavesS s).1), Old w no] := H68.absorb (new := []) H70
      refine b_ret rfl rfl ?_
      refine l_of (s_val (v := .tuple #[.string ((zeroV level).1), .int .i64 ((zeroV level).2)]) (wt0 rfl) rfl rfl (x_move rfl rfl) ?_)
      refine l_of (s_val (v := .string ((zeroV level).1)) (wt0 rfl) rfl rfl (x_extract rfl rfl rfl) ?_)
      refine l_of (s_val (v := .int .i64 ((zeroV level).2)) (wt0 rfl) rfl rfl (x_extract rfl rfl rfl) ?_)
      refine l_of (s_val (v := .string ((zeroV level).1)) (wt0 rfl) rfl rfl (x_assign rfl rfl) ?_)
      refine l_of (s_val (v := .int .i64 ((zeroV level).2)) (wt0 rfl) rfl rfl (x_assign rfl rfl) ?_)
      refine g_nil ?_
      refine g_then ?_
      refine g_seq ?_
      refine g_region ?_
      refine l_of (s_val (v := .int .i64 level) (wt0 rfl) rfl rfl (x_move rfl rfl) ?_)
      refine l_of (s_call (wt0 rfl) (x_call' rfl rfl cl19) (zeroV_r _ _) ?_)
      rintro _ wq71 ⟨rfl, H72⟩
      replace H72 : S wq71 [Rw 9 1 p59 (leavesS s).1.length c60 (stV (leavesS s).1), Rw 9 1 p55 (leavesS s).1.length c56 (stV (leavesS s).1), Old w no] := H70.absorb (new := []) H72
      refine b_ret rfl rfl ?_
      refine l_of (s_val (v := .tuple #[.string ((zeroV level).1), .int .i64 ((zeroV level).2)]) (wt0 rfl) rfl rfl (x_move rfl rfl) ?_)
      refine l_of (s_val (v := .string ((zeroV level).1)) (wt0 rfl) rfl rfl (x_extract rfl rfl rfl) ?_)
      refine l_of (s_val (v := .int .i64 ((zeroV level).2)) (wt0 rfl) rfl rfl (x_extract rfl rfl rfl) ?_)
      refine l_of (s_val (v := .string ((zeroV level).1)) (wt0 rfl) rfl rfl (x_assign rfl rfl) ?_)
      refine l_of (s_val (v := .int .i64 ((zeroV level).2)) (wt0 rfl) rfl rfl (x_assign rfl rfl) ?_)
      refine g_nil ?_
      refine g_then ?_
      refine g_seq ?_
      refine g_region ?_
      refine l_of (s_val (v := .slice p m c) (wt0 rfl) rfl rfl (x_move rfl rfl) ?_)
      refine l_of (s_call (wt0 rfl) (x_call' rfl rfl cl20) (root_s l p m c hn hm2 _ (H72.oldReads (k := 2) rfl hr)) ?_)
      rintro _ wq73 ⟨rfl, H74⟩
      replace H74 : S wq73 [Rw 9 1 p59 (leavesS s).1.length c60 (stV (leavesS s).1), Rw 9 1 p55 (leavesS s).1.length c56 (stV (leavesS s).1), Old w no] := H72.absorb (new := []) H74
      refine b_ret rfl rfl ?_
      refine l_of (s_val (v := .tuple #[.string ((rootS l).1), .int .i64 ((rootS l).2)]) (wt0 rfl) rfl rfl (x_move rfl rfl) ?_)
      refine l_of (s_val (v := .string ((rootS l).1)) (wt0 rfl) rfl rfl (x_extract rfl rfl rfl) ?_)
      refine l_of (s_val (v := .int .i64 ((rootS l).2)) (wt0 rfl) rfl rfl (x_extract rfl rfl rfl) ?_)
      refine l_of (s_val (v := .string ((rootS l).1)) (wt0 rfl) rfl rfl (x_assign rfl rfl) ?_)
      refine l_of (s_val (v := .int .i64 ((rootS l).2)) (wt0 rfl) rfl rfl (x_assign rfl rfl) ?_)
      refine g_nil ?_
      refine g_then ?_
      refine g_weak [(1, .slice p m c), (3, .int .i64 level), (10, .int .i64 ((zeroV level).2)), (12, .int .i64 ((zeroV level).2)), (14, .int .i64 ((rootS l).2)), (17, .string ((zeroV level).1)), (18, .string ((zeroV level).1)), (19, .string ((rootS l).1))] ⟨rfl, rfl, rfl, rfl, rfl, rfl, rfl, rfl, trivial⟩ ?_
      refine g_seq ?_
      refine g_region ?_
      refine l_of (s_val (v := .slice p m c) (wt0 rfl) rfl rfl (x_move rfl rfl) ?_)
      refine l_of (s_call (wt0 rfl) (x_call' rfl rfl cl21) (root_r l p m c hn hm2 _ (H74.oldReads (k := 2) rfl hr)) ?_)
      rintro _ wq75 ⟨rfl, H76⟩
      replace H76 : S wq75 [Rw 9 1 p59 (leavesS s).1.length c60 (stV (leavesS s).1), Rw 9 1 p55 (leavesS s).1.length c56 (stV (leavesS s).1), Old w no] := H74.absorb (new := []) H76
      refine b_ret rfl rfl ?_
      refine l_of (s_val (v := .tuple #[.string ((rootS l).1), .int .i64 ((rootS l).2)]) (wt0 rfl) rfl rfl (x_move rfl rfl) ?_)
      refine l_of (s_val (v := .string ((rootS l).1)) (wt0 rfl) rfl rfl (x_extract rfl rfl rfl) ?_)
      refine l_of (s_val (v := .int .i64 ((rootS l).2)) (wt0 rfl) rfl rfl (x_extract rfl rfl rfl) ?_)
      refine l_of (s_val (v := .string ((rootS l).1)) (wt0 rfl) rfl rfl (x_assign rfl rfl) ?_)
      refine l_of (s_val (v := .int .i64 ((rootS l).2)) (wt0 rfl) rfl rfl (x_assign rfl rfl) ?_)
      refine g_nil ?_
      refine g_then ?_
      refine g_seq ?_
      refine g_region ?_
      refine l_of (s_val (v := .slice p m c) (wt0 rfl) rfl rfl (x_move rfl rfl) ?_)
      refine l_of (s_val (v := .int .i64 level) (wt0 rfl) rfl rfl (x_move rfl rfl) ?_)
      refine l_of (s_call (wt0 rfl) (x_call' rfl rfl cl22) (layerL_s l p m c hn hm2 level _ (H76.oldReads (k := 2) rfl hr)) ?_)
      rintro _ wq79 ⟨p77, c78, rfl, H80⟩
      replace H80 : S wq79 [Rw 9 1 p77 (layerS l level).1.length c78 (stV (layerS l level).1), Rw 9 1 p59 (leavesS s).1.length c60 (stV (leavesS s).1), Rw 9 1 p55 (leavesS s).1.length c56 (stV (leavesS s).1), Old w no] := H76.absorb (new := [Rw 9 1 p77 (layerS l level).1.length c78 (stV (layerS l level).1)]) H80
      refine b_ret rfl rfl ?_
      refine l_of (s_val (v := .tuple #[.slice p77 (layerS l level).1.length c78, .int .i64 ((layerS l level).2)]) (wt0 rfl) rfl rfl (x_move rfl rfl) ?_)
      refine l_of (s_val (v := .slice p77 (layerS l level).1.length c78) (wt0 rfl) rfl rfl (x_extract rfl rfl rfl) ?_)
      refine l_of (s_val (v := .int .i64 ((layerS l level).2)) (wt0 rfl) rfl rfl (x_extract rfl rfl rfl) ?_)
      refine l_of (s_val (v := .slice p77 (layerS l level).1.length c78) (wt0 rfl) rfl rfl (x_assign rfl rfl) ?_)
      refine l_of (s_val (v := .int .i64 ((layerS l level).2)) (wt0 rfl) rfl rfl (x_assign rfl rfl) ?_)
      refine g_nil ?_
      refine g_then ?_
      refine g_seq ?_
      refine g_region ?_
      refine l_of (s_val (v := .slice p m c) (wt0 rfl) rfl rfl (x_move rfl rfl) ?_)
      refine l_of (s_val (v := .int .i64 level) (wt0 rfl) rfl rfl (x_move rfl rfl) ?_)
      refine l_of (s_call (wt0 rfl) (x_call' rfl rfl cl23) (layer_r l p m c hn hm2 level _ (H80.oldReads (k := 3) rfl hr)) ?_)
      rintro _ wq85 ⟨p81, c82, X83, rfl, hX84, H86⟩
      replace H86 : S wq85 [X83, Rw 9 1 p77 (layerS l level).1.length c78 (stV (layerS l level).1), Rw 9 1 p59 (leavesS s).1.length c60 (stV (leavesS s).1), Rw 9 1 p55 (leavesS s).1.length c56 (stV (leavesS s).1), Old w no] := H80.absorb (new := [X83]) H86
      refine b_ret rfl rfl ?_
      refine l_of (s_val (v := .tuple #[.slice p81 (layerS l level).1.length c82, .int .i64 ((layerS l level).2)]) (wt0 rfl) rfl rfl (x_move rfl rfl) ?_)
      refine l_of (s_val (v := .slice p81 (layerS l level).1.length c82) (wt0 rfl) rfl rfl (x_extract rfl rfl rfl) ?_)
      refine l_of (s_val (v := .int .i64 ((layerS l level).2)) (wt0 rfl) rfl rfl (x_extract rfl rfl rfl) ?_)
      refine l_of (s_val (v := .slice p81 (layerS l level).1.length c82) (wt0 rfl) rfl rfl (x_assign rfl rfl) ?_)
      refine l_of (s_val (v := .int .i64 ((layerS l level).2)) (wt0 rfl) rfl rfl (x_assign rfl rfl) ?_)
      refine g_nil ?_
      refine g_then ?_
      refine g_weak [(1, .slice p m c), (3, .int .i64 level), (10, .int .i64 ((zeroV level).2)), (12, .int .i64 ((zeroV level).2)), (14, .int .i64 ((rootS l).2)), (16, .int .i64 ((rootS l).2)), (17, .string ((zeroV level).1)), (18, .string ((zeroV level).1)), (19, .string ((rootS l).1)), (20, .string ((rootS l).1)), (21, .slice p77 (layerS l level).1.length c78), (22, .int .i64 ((layerS l level).2)), (23, .slice p81 (layerS l level).1.length c82), (24, .int .i64 ((layerS l level).2))] ⟨rfl, rfl, rfl, rfl, rfl, rfl, rfl, rfl, rfl, rfl, rfl, rfl, rfl, rfl, trivial⟩ ?_
      refine g_seq ?_
      refine g_seq ?_
      refine g_region ?_
      refine l_of (s_val (v := .string ((zeroV level).1)) (wt0 rfl) rfl rfl (x_move rfl rfl) ?_)
      refine l_of (s_val (v := .string ((zeroV level).1)) (wt0 rfl) rfl rfl (x_move rfl rfl) ?_)
      refine l_of (s_val (v := .bool (!decide ((zeroV level).1 = (zeroV level).1))) (wt0 rfl) rfl rfl (x_bin rfl rfl rfl b_nes) ?_)
      refine l_of (s_val (v := .bool (!decide ((zeroV level).1 = (zeroV level).1))) (wt0 rfl) rfl rfl (x_move rfl rfl) ?_)
      refine l_of (s_val (v := .int .i64 ((zeroV level).2)) (wt1 rfl rfl rfl rfl (nf rfl)) rfl rfl (x_move rfl rfl) ?_)
      refine l_of (s_val (v := .int .i64 ((zeroV level).2)) (wt1 rfl rfl rfl rfl (nf rfl)) rfl rfl (x_move rfl rfl) ?_)
      refine l_of (s_val (v := .bool (!decide (((zeroV level).2 : Int) = (zeroV level).2))) (wt1 rfl rfl rfl rfl (nf rfl)) rfl rfl (x_bin rfl rfl rfl b_neq) ?_)
      refine l_of (s_val (v := .bool (!decide (((zeroV level).2 : Int) = (zeroV level).2))) (wt0 rfl) rfl rfl (x_pick_f rfl rfl (nf rfl) rfl) ?_)
      refine l_of (s_val (v := .bool (!decide (((zeroV level).2 : Int) = (zeroV level).2))) (wt0 rfl) rfl rfl (x_move rfl rfl) ?_)
      refine l_of (s_val (v := .string ((rootS l).1)) (wt1 rfl rfl rfl rfl (nf rfl)) rfl rfl (x_move rfl rfl) ?_)
      refine l_of (s_val (v := .string ((rootS l).1)) (wt1 rfl rfl rfl rfl (nf rfl)) rfl rfl (x_move rfl rfl) ?_)
      refine l_of (s_val (v := .bool (!decide ((rootS l).1 = (rootS l).1))) (wt1 rfl rfl rfl rfl (nf rfl)) rfl rfl (x_bin rfl rfl rfl b_nes) ?_)
      refine l_of (s_val (v := .bool (!decide ((rootS l).1 = (rootS l).1))) (wt0 rfl) rfl rfl (x_pick_f rfl rfl (nf rfl) rfl) ?_)
      refine l_of (s_val (v := .bool (!decide ((rootS l).1 = (rootS l).1))) (wt0 rfl) rfl rfl (x_move rfl rfl) ?_)
      refine l_of (s_val (v := .int .i64 ((rootS l).2)) (wt1 rfl rfl rfl rfl (nf rfl)) rfl rfl (x_move rfl rfl) ?_)
      refine l_of (s_val (v := .int .i64 ((rootS l).2)) (wt1 rfl rfl rfl rfl (nf rfl)) rfl rfl (x_move rfl rfl) ?_)
      refine l_of (s_val (v := .bool (!decide (((rootS l).2 : Int) = (rootS l).2))) (wt1 rfl rfl rfl rfl (nf rfl)) rfl rfl (x_bin rfl rfl rfl b_neq) ?_)
      refine l_of (s_val (v := .bool (!decide (((rootS l).2 : Int) = (rootS l).2))) (wt0 rfl) rfl rfl (x_pick_f rfl rfl (nf rfl) rfl) ?_)
      refine l_of (s_val (v := .bool (!decide (((rootS l).2 : Int) = (rootS l).2))) (wt0 rfl) rfl rfl (x_move rfl rfl) ?_)
      refine l_of (s_val (v := .slice p77 (layerS l level).1.length c78) (wt1 rfl rfl rfl rfl (nf rfl)) rfl rfl (x_move rfl rfl) ?_)
      refine l_of (s_val (v := .slice p81 (layerS l level).1.length c82) (wt1 rfl rfl rfl rfl (nf rfl)) rfl rfl (x_move rfl rfl) ?_)
      refine l_of (s_call (wt1 rfl rfl rfl rfl (nf rfl)) (x_call' rfl rfl cl17) (texts_same (layerS l level).1 p77 p81 c78 c82 (by omega) _ (H86.rwReads (k := 1) rfl) (hX84 _ (H86.at (k := 0) rfl))) ?_)
      rintro _ wq87 ⟨rfl, H88⟩
      replace H88 : S wq87 [X83, Rw 9 1 p77 (layerS l level).1.length c78 (stV (layerS l level).1), Rw 9 1 p59 (leavesS s).1.length c60 (stV (leavesS s).1), Rw 9 1 p55 (leavesS s).1.length c56 (stV (leavesS s).1), Old w no] := H86.absorb (new := []) H88
      refine b_ret rfl rfl ?_
      refine l_of (s_val (v := .bool false) (wt1 rfl rfl rfl rfl (nf rfl)) rfl rfl (x_not (b := true) rfl rfl) ?_)
      refine l_of (s_val (v := .bool false) (wt0 rfl) rfl rfl (x_pick_f rfl rfl (nf rfl) rfl) ?_)
      refine l_of (s_val (v := .bool false) (wt0 rfl) rfl rfl (x_move rfl rfl) ?_)
      refine l_of (s_val (v := .int .i64 ((layerS l level).2)) (wt1 rfl rfl rfl rfl rfl) rfl rfl (x_move rfl rfl) ?_)
      refine l_of (s_val (v := .int .i64 ((layerS l level).2)) (wt1 rfl rfl rfl rfl rfl) rfl rfl (x_move rfl rfl) ?_)
      refine l_of (s_val (v := .bool (!decide (((layerS l level).2 : Int) = (layerS l level).2))) (wt1 rfl rfl rfl rfl rfl) rfl rfl (x_bin rfl rfl rfl b_neq) ?_)
      refine l_of (s_val (v := .bool (!decide (((layerS l level).2 : Int) = (layerS l level).2))) (wt0 rfl) rfl rfl (x_pick_f rfl rfl rfl rfl) ?_)
      refine g_nil ?_
      refine g_then ?_
      refine g_weak [(1, .slice p m c), (3, .int .i64 level), (19, .string ((rootS l).1)), (21, .slice p77 (layerS l level).1.length c78), (22, .int .i64 ((layerS l level).2)), (140, .bool (!decide (((layerS l level).2 : Int) = (layerS l level).2)))] ⟨rfl, rfl, rfl, rfl, rfl, rfl, trivial⟩ ?_
      refine g_cond_f rfl (nf rfl) ?_
      refine g_skip ?_
      refine g_then ?_
      refine g_seq ?_
      refine g_seq ?_
      refine g_region ?_
      refine l_of (s_val (v := .int .i64 ((layerS l level).2)) (wt0 rfl) rfl rfl (x_move rfl rfl) ?_)
      refine l_of (s_val (v := .bool (decide (((layerS l level).2 : Int) = 0))) (wt0 rfl) rfl rfl (x_bin rfl rfl rfl b_eql) ?_)
      refine g_nil ?_
      refine g_then ?_
      by_cases hb89 : ((layerS l level).2 : Int) = 0
      · skip
        refine g_cond_t rfl (decide_eq_true hb89) ?_
        refine g_seq ?_
        refine g_region ?_
        refine l_of (s_val (v := .slice p m c) (wt0 rfl) rfl rfl (x_move rfl rfl) ?_)
        refine l_of (s_val (v := .int .i64 ((m : Int))) (wt0 rfl) rfl rfl (x_lenl rfl rfl Try.underlying22) ?_)
        refine l_of (s_val (v := .int .i64 level) (wt0 rfl) rfl rfl (x_move rfl rfl) ?_)
        refine l_of (s_val (v := .slice p77 (layerS l level).1.length c78) (wt0 rfl) rfl rfl (x_move rfl rfl) ?_)
        obtain ⟨hrf, hr0⟩ := roots_from hb89
        have hfl90 := fromL_s (l.length : Int) level (layerS l level).1 p77 _ c78 rfl (by omega) wq87 (H88.rwReads (k := 1) rfl)
        rw [hrf, ← hn] at hfl90
        refine l_of (s_call (wt0 rfl) (x_call' rfl rfl cl11) (hfl90) ?_)
        rintro _ wq91 ⟨rfl, H92⟩
        replace H92 : S wq91 [X83, Rw 9 1 p77 (layerS l level).1.length c78 (stV (layerS l level).1), Rw 9 1 p59 (leavesS s).1.length c60 (stV (leavesS s).1), Rw 9 1 p55 (leavesS s).1.length c56 (stV (leavesS s).1), Old w no] := H88.absorb (new := []) H92
        refine b_ret rfl rfl ?_
        refine l_of (s_val (v := .tuple #[.string ((rootS l).1), .int .i64 0]) (wt0 rfl) rfl rfl (x_move rfl rfl) ?_)
        refine l_of (s_val (v := .string ((rootS l).1)) (wt0 rfl) rfl rfl (x_extract rfl rfl rfl) ?_)
        refine l_of (s_val (v := .int .i64 0) (wt0 rfl) rfl rfl (x_extract rfl rfl rfl) ?_)
        refine l_of (s_val (v := .string ((rootS l).1)) (wt0 rfl) rfl rfl (x_assign rfl rfl) ?_)
        refine l_of (s_val (v := .int .i64 0) (wt0 rfl) rfl rfl (x_assign rfl rfl) ?_)
        refine g_nil ?_
        refine g_then ?_
        refine g_weak [(19, .string ((rootS l).1)), (25, .string ((rootS l).1)), (26, .int .i64 0)] ⟨rfl, rfl, rfl, trivial⟩ ?_
        refine g_seq ?_
        refine g_region ?_
        refine l_of (s_val (v := .string ((rootS l).1)) (wt0 rfl) rfl rfl (x_move rfl rfl) ?_)
        refine l_of (s_val (v := .string ((rootS l).1)) (wt0 rfl) rfl rfl (x_move rfl rfl) ?_)
        refine l_of (s_val (v := .bool (!decide ((rootS l).1 = (rootS l).1))) (wt0 rfl) rfl rfl (x_bin rfl rfl rfl b_nes) ?_)
        refine l_of (s_val (v := .bool (!decide ((rootS l).1 = (rootS l).1))) (wt0 rfl) rfl rfl (x_move rfl rfl) ?_)
        refine l_of (s_val (v := .int .i64 0) (wt1 rfl rfl rfl rfl (nf rfl)) rfl rfl (x_move rfl rfl) ?_)
        refine l_of (s_val (v := .bool (!decide ((0 : Int) = 0))) (wt1 rfl rfl rfl rfl (nf rfl)) rfl rfl (x_bin rfl rfl rfl b_neq) ?_)
        refine l_of (s_val (v := .bool (!decide ((0 : Int) = 0))) (wt0 rfl) rfl rfl (x_pick_f rfl rfl (nf rfl) rfl) ?_)
        refine g_nil ?_
        refine g_then ?_
        refine g_cond_f rfl (nf rfl) ?_
        refine g_skip ?_
        refine g_then ?_
        refine g_seq ?_
        refine g_region ?_
        refine l_of (s_call (wt0 rfl) (x_call' rfl rfl cl10) (awake_s _) ?_)
        rintro _ wq93 ⟨rfl, H94⟩
        replace H94 : S wq93 [X83, Rw 9 1 p77 (layerS l level).1.length c78 (stV (layerS l level).1), Rw 9 1 p59 (leavesS s).1.length c60 (stV (leavesS s).1), Rw 9 1 p55 (leavesS s).1.length c56 (stV (leavesS s).1), Old w no] := H92.absorb (new := []) H94
        refine b_ret rfl rfl ?_
        refine l_of (s_val (v := .bool true) (wt0 rfl) rfl rfl (x_assign rfl rfl) ?_)
        refine g_nil ?_
        refine g_then ?_
        refine g_ret ?_
        refine fin_ret [.tmp 8] [.bool true] rfl ⟨rfl, trivial⟩ ?_
        exact ⟨rfl, H94.mask [false, false, false, false, true]⟩
      · skip
        refine g_cond_f rfl (decide_eq_false hb89) ?_
        refine g_skip ?_
        refine g_then ?_
        refine g_seq ?_
        refine g_region ?_
        refine l_of (s_call (wt0 rfl) (x_call' rfl rfl cl10) (awake_s _) ?_)
        rintro _ wq95 ⟨rfl, H96⟩
        replace H96 : S wq95 [X83, Rw 9 1 p77 (layerS l level).1.length c78 (stV (layerS l level).1), Rw 9 1 p59 (leavesS s).1.length c60 (stV (leavesS s).1), Rw 9 1 p55 (leavesS s).1.length c56 (stV (leavesS s).1), Old w no] := H88.absorb (new := []) H96
        refine b_ret rfl rfl ?_
        refine l_of (s_val (v := .bool true) (wt0 rfl) rfl rfl (x_assign rfl rfl) ?_)
        refine g_nil ?_
        refine g_then ?_
        refine g_ret ?_
        refine fin_ret [.tmp 8] [.bool true] rfl ⟨rfl, trivial⟩ ?_
        exact ⟨rfl, H96.mask [false, false, false, false, true]⟩
    · skip
      refine g_cond_t rfl (neg_of hb54) ?_
      refine g_seq ?_
      refine g_region ?_
      refine l_of (s_call (wt0 rfl) (x_call' rfl rfl cl10) (awake_s _) ?_)
      rintro _ wq97 ⟨rfl, H98⟩
      replace H98 : S wq97 [Old w no] := H53.absorb (new := []) H98
      refine b_ret rfl rfl ?_
      refine l_of (s_val (v := .bool true) (wt0 rfl) rfl rfl (x_assign rfl rfl) ?_)
      refine g_nil ?_
      refine g_then ?_
      refine g_ret ?_
      refine g_then_ret ?_
      refine fin_ret [.tmp 8] [.bool true] rfl ⟨rfl, trivial⟩ ?_
      exact ⟨rfl, H98.mask [true]⟩
end Go.Proofs.Ytlajgickimgigaa
