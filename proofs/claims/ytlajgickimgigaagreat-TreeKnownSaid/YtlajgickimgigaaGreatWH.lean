import Derived.Test.YtlajgickimgigaaGreatWG
import Derived.Test.YtlajgickimgigaaGreatVJ
set_option linter.unusedSimpArgs false
set_option linter.unusedVariables false
namespace Go.Proofs.YtlajgickimgigaaGreat
open Go.RowKit

theorem cl11 : callable Tryz.prog 11 = true := by kernel_rfl
theorem cl12 : callable Tryz.prog 12 = true := by kernel_rfl
theorem cl13 : callable Tryz.prog 13 = true := by kernel_rfl
theorem cl14 : callable Tryz.prog 14 = true := by kernel_rfl
theorem cl15 : callable Tryz.prog 15 = true := by kernel_rfl
theorem cl16 : callable Tryz.prog 16 = true := by kernel_rfl
theorem cl17 : callable Tryz.prog 17 = true := by kernel_rfl
theorem cl19 : callable Tryz.prog 19 = true := by kernel_rfl
theorem cl20 : callable Tryz.prog 20 = true := by kernel_rfl
theorem cl23 : callable Tryz.prog 23 = true := by kernel_rfl
theorem cl24 : callable Tryz.prog 24 = true := by kernel_rfl
theorem cl7 : callable Tryz.prog 7 = true := by kernel_rfl
theorem cl8 : callable Tryz.prog 8 = true := by kernel_rfl
theorem cl9 : callable Tryz.prog 9 = true := by kernel_rfl
theorem fo40_0 : foO Tryz.prog 40 0 = some 0 := by kernel_rfl
theorem fo40_1 : foO Tryz.prog 40 1 = some 1 := by kernel_rfl
theorem fo40_2 : foO Tryz.prog 40 2 = some 2 := by kernel_rfl
theorem fo40_3 : foO Tryz.prog 40 3 = some 3 := by kernel_rfl
theorem fo40_4 : foO Tryz.prog 40 4 = some 4 := by kernel_rfl
theorem fo40_5 : foO Tryz.prog 40 5 = some 5 := by kernel_rfl
theorem fo40_6 : foO Tryz.prog 40 6 = some 6 := by kernel_rfl
theorem sz40 : szO Tryz.prog 40 = some 7 := by kernel_rfl
theorem ze40 : zeO Tryz.prog 40 = some (.agg #[.int .i64 0, .int .i64 0, .int .i64 0, .int .i64 0, .bool false, .slice none 0 0, .slice none 0 0]) := by kernel_rfl
theorem new_n (root : ByteArray) (n : Nat) (hs : root.size = 32) (h1 : 1 ≤ n) (hn : n ≤ 4096) (w : World) : Calls Tryz.prog 9 #[.string root, .int .i64 (n : Int)] w fun e w' =>
    ∃ tg mg, e = .returned (.tuple #[.pointer (some ⟨tg, 0, none⟩), .int .i64 0]) ∧ S w' ([Ob tg (.cells #[.int .i64 ((n : Int)), .int .i64 (((tallN n) : Int)), .string root, .map (some mg)] 75 (0, 0)), Mp placeV Value.string placeOk mg (newT (tallN n) root)] ++ [Old w no]) := by
  have := new_s root (n : Int) hs (by omega) (by omega) w
  simp only [Int.toNat_natCast] at this
  exact this
theorem of_s_no {l : List ByteArray} {p : Option Addr} {c : Nat} (hce : ¬ checkE l = 0) (hm : l.length ≤ 1099511627776) (w : World) (hr : Reads w p l.length c 1 (stV l)) : Calls Tryz.prog 7 #[.slice p l.length c] w fun e w' => e = .returned (.tuple #[.pointer none, .int .i64 (checkE l)]) ∧ S w' [Old w no] :=
  (of_s l p c hm w hr).mono fun e w' h => by
    rcases h with ⟨h, _⟩ | ⟨_, h⟩
    · exact absurd h hce
    · exact h
theorem of_r_no {l : List ByteArray} {p : Option Addr} {c : Nat} (hce : ¬ checkE l = 0) (hm : l.length ≤ 1099511627776) (w : World) (hr : Reads w p l.length c 1 (stV l)) : Calls Tryz.prog 8 #[.slice p l.length c] w fun e w' => e = .returned (.tuple #[.pointer none, .int .i64 (checkE l)]) ∧ S w' [Old w no] :=
  (of_r l p c hm w hr).mono fun e w' h => by
    rcases h with ⟨h, _⟩ | ⟨_, h⟩
    · exact absurd h hce
    · exact h
theorem alike_step {n h : Nat} {root : ByteArray} {v i : Int} {ls us : List ByteArray} {M R R' M' : PM} (hM' : M' = addM h root v i ls us M) (hA : Alike n h M R) (h1 : addE h root v i ls us = 0 → Rel n R (provM v.toNat i.toNat ls us) R') (h2 : ¬ addE h root v i ls us = 0 → R' = R) : Alike n h M' R' := by
  rw [hM']
  unfold addM
  by_cases he : addE h root v i ls us = 0
  · rw [if_pos he]; exact alike_add hA (h1 he)
  · rw [if_neg he, h2 he]; exact hA
theorem root_step {h : Nat} {root : ByteArray} {v i : Int} {ls us : List ByteArray} {M M' : PM} (hh : h ≤ 12) (hM' : M' = addM h root v i ls us M) (hM : M (h, 0) = some root) : M' (h, 0) = some root := by
  rw [hM']
  unfold addM
  by_cases he : addE h root v i ls us = 0
  · rw [if_pos he]; exact add_root hh hM he
  · rw [if_neg he]; exact hM
theorem known_snd (n h : Nat) (M : PM) (v : Int) : (knownT n h M v).2 = (missT n h M v).2 := by
  unfold knownT missT
  by_cases hv : 0 ≤ v ∧ v ≤ (h : Int)
  · rw [if_pos hv, if_pos hv]
  · rw [if_neg hv, if_neg hv]
theorem known_fst {n h : Nat} {M : PM} {v : Int} (hq : (missT n h M v).2 = 0) : 0 ≤ v ∧ v ≤ (h : Int) ∧ (knownT n h M v).1 = (countN n v.toNat : Int) - ((missT n h M v).1.length : Int) := by
  unfold knownT missT at *
  by_cases hv : 0 ≤ v ∧ v ≤ (h : Int)
  · rw [if_pos hv, if_pos hv]; exact ⟨hv.1, hv.2, rfl⟩
  · rw [if_neg hv] at hq; exact absurd hq (by decide)
theorem miss_len2 {n h : Nat} {M : PM} {v : Int} (h1 : 1 ≤ n) (hn : n ≤ 4096) : (missT n h M v).1.length ≤ 4096 := by
  unfold missT
  split
  · have := miss_len M v.toNat (countN n v.toNat)
    have h3 : countN n v.toNat ≤ n := by unfold countN; have := Nat.div_le_self (n - 1) (2 ^ v.toNat); omega
    exact Nat.le_trans this (by omega)
  · exact Nat.zero_le _
theorem count_n1 {n v : Nat} (h1 : 1 ≤ n) : countN n v ≤ n := by unfold countN; have := Nat.div_le_self (n - 1) (2 ^ v); omega
theorem dd_get {ds : List Dd} {j : Nat} (h : j < ds.length) {d : Dd} (hd : d = ds.getD j Dd.none) : ∀ i u, d.cellsL[i]? = some u → (ddV ds)[j * 7 + i]? = some u := fun i u hu => by
  have hi : i < 7 := (List.getElem?_eq_some_iff.1 hu).1
  rw [ddV_at h hi, ← hd]; exact hu
set_option maxRecDepth 20000 in
set_option maxHeartbeats 4000000 in
set_option maxRecDepth 20000 in
set_option maxHeartbeats 4000000 in
theorem known_law (l : List ByteArray) (p : Option Addr) (c : Nat) (hm : l.length ≤ 9223372036854775807) (ds : List Dd) (pd : Option Addr) (nd cd : Nat) (hnd : nd = ds.length) (hmd : nd ≤ 9223372036854775807) (w : World) (hr : Reads w p l.length c 1 (stV l)) (hrd : Reads w pd nd cd 7 (ddV ds)) (hall : ∀ d ∈ ds, d.Good w) : Calls Tryz.prog 3 #[.slice p l.length c, .slice pd nd cd] w fun e w' => e = .returned (.bool true) ∧ S w' [Old w no] := by
  have H0 := S.old w
  refine enter 312 Tryz.func3 rfl rfl rfl ?_
  refine g_weak [(0, .slice p l.length c), (1, .slice pd nd cd)] ⟨rfl, rfl, trivial⟩ ?_
  refine g_seq ?_
  refine g_region ?_
  refine l_of (s_val (v := .bool false) (wt0 rfl) rfl rfl (x_assign rfl rfl) ?_)
  refine g_nil ?_
  refine g_then ?_
  refine g_seq ?_
  refine g_seq ?_
  refine g_region ?_
  refine l_of (s_val (v := .slice p l.length c) (wt0 rfl) rfl rfl (x_move rfl rfl) ?_)
  refine l_of (s_call (wt0 rfl) (x_call' rfl rfl cl4) (few_l l p l.length c rfl hm _ (H0.oldReads (k := 0) rfl hr)) ?_)
  rintro _ wq1 ⟨rfl, H2⟩
  replace H2 : S wq1 [Old w no] := H0.absorb (new := []) H2
  refine b_ret rfl rfl ?_
  refine l_of (s_val (v := .bool (!((fewB l)))) (wt0 rfl) rfl rfl (x_not (b := (fewB l)) rfl rfl) ?_)
  refine l_of (s_val (v := .bool (!((fewB l)))) (wt0 rfl) rfl rfl (x_move rfl rfl) ?_)
  rcases Bool.eq_false_or_eq_true ((fewB l)) with hb3 | hb3
  · skip
    have hm2 : l.length ≤ 1099511627776 := by have := few_len hb3; omega
    refine l_of (s_val (v := .slice pd nd cd) (wt1 rfl rfl rfl rfl (neg_of hb3)) rfl rfl (x_move rfl rfl) ?_)
    refine l_of (s_val (v := .int .i64 ((nd : Int))) (wt1 rfl rfl rfl rfl (neg_of hb3)) rfl rfl (x_lenl rfl rfl Tryz.underlying23) ?_)
    refine l_of (s_val (v := .bool (decide ((20 : Int) < (nd : Int)))) (wt1 rfl rfl rfl rfl (neg_of hb3)) rfl rfl (x_bin rfl rfl rfl b_gtr) ?_)
    refine l_of (s_val (v := .bool (decide ((20 : Int) < (nd : Int)))) (wt0 rfl) rfl rfl (x_pick_f rfl rfl (neg_of hb3) rfl) ?_)
    refine g_nil ?_
    refine g_then ?_
    by_cases hb4 : (20 : Int) < (nd : Int)
    · skip
      refine g_cond_t rfl (decide_eq_true hb4) ?_
      refine g_seq ?_
      refine g_region ?_
      refine l_of (s_call (wt0 rfl) (x_call' rfl rfl cl5) (awake_s _) ?_)
      rintro _ wq5 ⟨rfl, H6⟩
      replace H6 : S wq5 [Old w no] := H2.absorb (new := []) H6
      refine b_ret rfl rfl ?_
      refine l_of (s_val (v := .bool true) (wt0 rfl) rfl rfl (x_assign rfl rfl) ?_)
      refine g_nil ?_
      refine g_then ?_
      refine g_ret ?_
      refine g_then_ret ?_
      refine fin_ret [.tmp 4] [.bool true] rfl ⟨rfl, trivial⟩ ?_
      exact ⟨rfl, H6.mask [true]⟩
    · skip
      refine g_cond_f rfl (decide_eq_false hb4) ?_
      refine g_skip ?_
      refine g_then ?_
      refine g_seq ?_
      refine g_region ?_
      refine l_of (s_val (v := .slice p l.length c) (wt0 rfl) rfl rfl (x_move rfl rfl) ?_)
      refine l_of (s_call (wt0 rfl) (x_call' rfl rfl cl6) (root_s l p l.length c rfl hm2 _ (H2.oldReads (k := 0) rfl hr)) ?_)
      rintro _ wq7 ⟨rfl, H8⟩
      replace H8 : S wq7 [Old w no] := H2.absorb (new := []) H8
      refine b_ret rfl rfl ?_
      refine l_of (s_val (v := .tuple #[.string ((rootS l).1), .int .i64 ((rootS l).2)]) (wt0 rfl) rfl rfl (x_move rfl rfl) ?_)
      refine l_of (s_val (v := .string ((rootS l).1)) (wt0 rfl) rfl rfl (x_extract rfl rfl rfl) ?_)
      refine l_of (s_val (v := .int .i64 ((rootS l).2)) (wt0 rfl) rfl rfl (x_extract rfl rfl rfl) ?_)
      refine l_of (s_val (v := .string ((rootS l).1)) (wt0 rfl) rfl rfl (x_assign rfl rfl) ?_)
      refine l_of (s_val (v := .int .i64 ((rootS l).2)) (wt0 rfl) rfl rfl (x_assign rfl rfl) ?_)
      refine g_nil ?_
      refine g_then ?_
      refine g_weak [(0, .slice p l.length c), (1, .slice pd nd cd), (5, .string ((rootS l).1)), (6, .int .i64 ((rootS l).2))] ⟨rfl, rfl, rfl, rfl, trivial⟩ ?_
      refine g_seq ?_
      refine g_seq ?_
      refine g_region ?_
      refine l_of (s_val (v := .int .i64 ((rootS l).2)) (wt0 rfl) rfl rfl (x_move rfl rfl) ?_)
      refine l_of (s_val (v := .bool (!decide (((rootS l).2 : Int) = 0))) (wt0 rfl) rfl rfl (x_bin rfl rfl rfl b_neq) ?_)
      refine g_nil ?_
      refine g_then ?_
      by_cases hb9 : ((rootS l).2 : Int) = 0
      · skip
        have hce : checkE l = 0 := by have := root_err l; omega
        obtain ⟨hc1, hc2, hc3⟩ := check_spec hce
        have ht12 := tall_le12 hc2
        refine g_cond_f rfl (nf hb9) ?_
        refine g_skip ?_
        refine g_then ?_
        refine g_seq ?_
        refine g_region ?_
        refine l_of (s_val (v := .string ((rootS l).1)) (wt0 rfl) rfl rfl (x_move rfl rfl) ?_)
        refine l_of (s_val (v := .slice p l.length c) (wt0 rfl) rfl rfl (x_move rfl rfl) ?_)
        refine l_of (s_val (v := .int .i64 ((l.length : Int))) (wt0 rfl) rfl rfl (x_lenl rfl rfl Tryz.underlying22) ?_)
        refine l_of (s_call (wt0 rfl) (x_call' rfl rfl cl9) (new_n (rootS l).1 l.length (root_size hce) hc1 hc2 _) ?_)
        rintro _ wq12 ⟨tg10, mg11, rfl, H13⟩
        replace H13 : S wq12 [Ob tg10 (.cells #[.int .i64 ((l.length : Int)), .int .i64 (((tallN l.length) : Int)), .string ((rootS l).1), .map (some mg11)] 75 (0, 0)), Mp placeV Value.string placeOk mg11 (newT (tallN l.length) (rootS l).1), Old w no] := H8.absorb (new := [Ob tg10 (.cells #[.int .i64 ((l.length : Int)), .int .i64 (((tallN l.length) : Int)), .string ((rootS l).1), .map (some mg11)] 75 (0, 0)), Mp placeV Value.string placeOk mg11 (newT (tallN l.length) (rootS l).1)]) H13
        refine b_ret rfl rfl ?_
        refine l_of (s_val (v := .tuple #[.pointer (some ⟨tg10, 0, none⟩), .int .i64 0]) (wt0 rfl) rfl rfl (x_move rfl rfl) ?_)
        refine l_of (s_val (v := .pointer (some ⟨tg10, 0, none⟩)) (wt0 rfl) rfl rfl (x_extract rfl rfl rfl) ?_)
        refine l_of (s_val (v := .int .i64 0) (wt0 rfl) rfl rfl (x_extract rfl rfl rfl) ?_)
        refine l_of (s_val (v := .pointer (some ⟨tg10, 0, none⟩)) (wt0 rfl) rfl rfl (x_assign rfl rfl) ?_)
        refine l_of (s_val (v := .int .i64 0) (wt0 rfl) rfl rfl (x_assign rfl rfl) ?_)
        refine g_nil ?_
        refine g_then ?_
        refine g_seq ?_
        refine g_region ?_
        refine l_of (s_val (v := .string ((rootS l).1)) (wt0 rfl) rfl rfl (x_move rfl rfl) ?_)
        refine l_of (s_val (v := .slice p l.length c) (wt0 rfl) rfl rfl (x_move rfl rfl) ?_)
        refine l_of (s_val (v := .int .i64 ((l.length : Int))) (wt0 rfl) rfl rfl (x_lenl rfl rfl Tryz.underlying22) ?_)
        refine l_of (s_call (wt0 rfl) (x_call' rfl rfl cl10) (new_r (rootS l).1 l.length (root_size hce) hc1 hc2 _) ?_)
        rintro _ wq16 ⟨wg14, wm15, rfl, H17⟩
        replace H17 : S wq16 [Ob wg14 (.cells #[.int .i64 ((l.length : Int)), .int .i64 (((tallN l.length) : Int)), .map (some wm15)] 50 (0, 0)), Mp placeV Value.string placeOk wm15 (newR l.length (tallN l.length) (rootS l).1), Ob tg10 (.cells #[.int .i64 ((l.length : Int)), .int .i64 (((tallN l.length) : Int)), .string ((rootS l).1), .map (some mg11)] 75 (0, 0)), Mp placeV Value.string placeOk mg11 (newT (tallN l.length) (rootS l).1), Old w no] := H13.absorb (new := [Ob wg14 (.cells #[.int .i64 ((l.length : Int)), .int .i64 (((tallN l.length) : Int)), .map (some wm15)] 50 (0, 0)), Mp placeV Value.string placeOk wm15 (newR l.length (tallN l.length) (rootS l).1)]) H17
        refine b_ret rfl rfl ?_
        refine l_of (s_val (v := .tuple #[.pointer (some ⟨wg14, 0, none⟩), .int .i64 0]) (wt0 rfl) rfl rfl (x_move rfl rfl) ?_)
        refine l_of (s_val (v := .pointer (some ⟨wg14, 0, none⟩)) (wt0 rfl) rfl rfl (x_extract rfl rfl rfl) ?_)
        refine l_of (s_val (v := .int .i64 0) (wt0 rfl) rfl rfl (x_extract rfl rfl rfl) ?_)
        refine l_of (s_val (v := .pointer (some ⟨wg14, 0, none⟩)) (wt0 rfl) rfl rfl (x_assign rfl rfl) ?_)
        refine l_of (s_val (v := .int .i64 0) (wt0 rfl) rfl rfl (x_assign rfl rfl) ?_)
        refine g_nil ?_
        refine g_then ?_
        refine g_weak [(0, .slice p l.length c), (1, .slice pd nd cd), (5, .string ((rootS l).1)), (6, .int .i64 0), (11, .pointer (some ⟨tg10, 0, none⟩)), (12, .pointer (some ⟨wg14, 0, none⟩)), (13, .int .i64 0)] ⟨rfl, rfl, rfl, rfl, rfl, rfl, rfl, trivial⟩ ?_
        refine g_seq ?_
        refine g_seq ?_
        refine g_region ?_
        refine l_of (s_val (v := .int .i64 0) (wt0 rfl) rfl rfl (x_move rfl rfl) ?_)
        refine l_of (s_val (v := .bool (!decide ((0 : Int) = 0))) (wt0 rfl) rfl rfl (x_bin rfl rfl rfl b_neq) ?_)
        refine l_of (s_val (v := .bool (!decide ((0 : Int) = 0))) (wt0 rfl) rfl rfl (x_move rfl rfl) ?_)
        refine l_of (s_val (v := .int .i64 0) (wt1 rfl rfl rfl rfl (nf rfl)) rfl rfl (x_move rfl rfl) ?_)
        refine l_of (s_val (v := .bool (!decide ((0 : Int) = 0))) (wt1 rfl rfl rfl rfl (nf rfl)) rfl rfl (x_bin rfl rfl rfl b_neq) ?_)
        refine l_of (s_val (v := .bool (!decide ((0 : Int) = 0))) (wt0 rfl) rfl rfl (x_pick_f rfl rfl (nf rfl) rfl) ?_)
        refine l_of (s_val (v := .bool (!decide ((0 : Int) = 0))) (wt0 rfl) rfl rfl (x_move rfl rfl) ?_)
        refine l_of (s_val (v := .pointer (some ⟨tg10, 0, none⟩)) (wt1 rfl rfl rfl rfl (nf rfl)) rfl rfl (x_move rfl rfl) ?_)
        refine l_of (s_val (v := .bool false) (wt1 rfl rfl rfl rfl (nf rfl)) rfl rfl (x_bin rfl rfl rfl (b_eqN (r := false) Tryz.underlying29 rfl)) ?_)
        refine l_of (s_val (v := .bool false) (wt0 rfl) rfl rfl (x_pick_f rfl rfl (nf rfl) rfl) ?_)
        refine l_of (s_val (v := .bool false) (wt0 rfl) rfl rfl (x_move rfl rfl) ?_)
        refine l_of (s_val (v := .pointer (some ⟨tg10, 0, none⟩)) (wt1 rfl rfl rfl rfl rfl) rfl rfl (x_move rfl rfl) ?_)
        refine l_of (s_call (wt1 rfl rfl rfl rfl rfl) (x_call' rfl rfl cl11) (rootOf_s tg10 mg11 l.length (tallN l.length) (rootS l).1 (newT (tallN l.length) (rootS l).1) _ (H17.takes [2, 3] (by decide))) ?_)
        rintro _ wq18 ⟨rfl, H19⟩
        replace H19 : S wq18 [Ob tg10 (.cells #[.int .i64 ((l.length : Int)), .int .i64 (((tallN l.length) : Int)), .string ((rootS l).1), .map (some mg11)] 75 (0, 0)), Mp placeV Value.string placeOk mg11 (newT (tallN l.length) (rootS l).1), Ob wg14 (.cells #[.int .i64 ((l.length : Int)), .int .i64 (((tallN l.length) : Int)), .map (some wm15)] 50 (0, 0)), Mp placeV Value.string placeOk wm15 (newR l.length (tallN l.length) (rootS l).1), Old w no] := H17.absorbI (new := [Ob tg10 (.cells #[.int .i64 ((l.length : Int)), .int .i64 (((tallN l.length) : Int)), .string ((rootS l).1), .map (some mg11)] 75 (0, 0)), Mp placeV Value.string placeOk mg11 (newT (tallN l.length) (rootS l).1)]) [2, 3] H19
        refine b_ret rfl rfl ?_
        refine l_of (s_val (v := .string ((rootS l).1)) (wt1 rfl rfl rfl rfl rfl) rfl rfl (x_move rfl rfl) ?_)
        refine l_of (s_val (v := .bool (!decide ((rootS l).1 = (rootS l).1))) (wt1 rfl rfl rfl rfl rfl) rfl rfl (x_bin rfl rfl rfl b_nes) ?_)
        refine l_of (s_val (v := .bool (!decide ((rootS l).1 = (rootS l).1))) (wt0 rfl) rfl rfl (x_pick_f rfl rfl rfl rfl) ?_)
        refine l_of (s_val (v := .bool (!decide ((rootS l).1 = (rootS l).1))) (wt0 rfl) rfl rfl (x_move rfl rfl) ?_)
        refine l_of (s_val (v := .pointer (some ⟨tg10, 0, none⟩)) (wt1 rfl rfl rfl rfl (nf rfl)) rfl rfl (x_move rfl rfl) ?_)
        refine l_of (s_call (wt1 rfl rfl rfl rfl (nf rfl)) (x_call' rfl rfl cl12) (leavesOf_s tg10 mg11 l.length (tallN l.length) (rootS l).1 (newT (tallN l.length) (rootS l).1) _ (H19.takes [0, 1] (by decide))) ?_)
        rintro _ wq20 ⟨rfl, H21⟩
        replace H21 : S wq20 [Ob tg10 (.cells #[.int .i64 ((l.length : Int)), .int .i64 (((tallN l.length) : Int)), .string ((rootS l).1), .map (some mg11)] 75 (0, 0)), Mp placeV Value.string placeOk mg11 (newT (tallN l.length) (rootS l).1), Ob wg14 (.cells #[.int .i64 ((l.length : Int)), .int .i64 (((tallN l.length) : Int)), .map (some wm15)] 50 (0, 0)), Mp placeV Value.string placeOk wm15 (newR l.length (tallN l.length) (rootS l).1), Old w no] := H19.absorbI (new := [Ob tg10 (.cells #[.int .i64 ((l.length : Int)), .int .i64 (((tallN l.length) : Int)), .string ((rootS l).1), .map (some mg11)] 75 (0, 0)), Mp placeV Value.string placeOk mg11 (newT (tallN l.length) (rootS l).1)]) [0, 1] H21
        refine b_ret rfl rfl ?_
        refine l_of (s_val (v := .slice p l.length c) (wt1 rfl rfl rfl rfl (nf rfl)) rfl rfl (x_move rfl rfl) ?_)
        refine l_of (s_val (v := .int .i64 ((l.length : Int))) (wt1 rfl rfl rfl rfl (nf rfl)) rfl rfl (x_lenl rfl rfl Tryz.underlying22) ?_)
        refine l_of (s_val (v := .bool (!decide (((l.length : Int) : Int) = (l.length : Int)))) (wt1 rfl rfl rfl rfl (nf rfl)) rfl rfl (x_bin rfl rfl rfl b_neq) ?_)
        refine l_of (s_val (v := .bool (!decide (((l.length : Int) : Int) = (l.length : Int)))) (wt0 rfl) rfl rfl (x_pick_f rfl rfl (nf rfl) rfl) ?_)
        refine g_nil ?_
        refine g_then ?_
        refine g_weak [(0, .slice p l.length c), (1, .slice pd nd cd), (11, .pointer (some ⟨tg10, 0, none⟩)), (12, .pointer (some ⟨wg14, 0, none⟩)), (105, .bool (!decide (((l.length : Int) : Int) = (l.length : Int))))] ⟨rfl, rfl, rfl, rfl, rfl, trivial⟩ ?_
        refine g_cond_f rfl (nf rfl) ?_
        refine g_skip ?_
        refine g_then ?_
        refine g_seq ?_
        refine g_seq ?_
        refine g_region ?_
        refine l_of (s_val (v := .slice pd nd cd) (wt0 rfl) rfl rfl (x_move rfl rfl) ?_)
        refine l_of (s_val (v := .int .i64 ((nd : Int))) (wt0 rfl) rfl rfl (x_lenl rfl rfl Tryz.underlying23) ?_)
        refine l_of (s_val (v := .int .i64 0) (wt0 rfl) rfl rfl (x_move rfl rfl) ?_)
        refine g_nil ?_
        refine g_then ?_
        refine g_block ?_
        refine g_loop (ι := Nat × PM × PM) (fun (k, M, R) => [(0, .slice p l.length c), (11, .pointer (some ⟨tg10, 0, none⟩)), (12, .pointer (some ⟨wg14, 0, none⟩)), (106, .slice pd nd cd), (107, .int .i64 ((nd : Int))), (108, .int .i64 ((k : Int)))]) (fun (k, M, R) wx => (k ≤ nd) ∧ (Alike l.length (tallN l.length) M R) ∧ (M ((tallN l.length), 0) = some (rootS l).1) ∧ S wx [Ob tg10 (.cells #[.int .i64 ((l.length : Int)), .int .i64 (((tallN l.length) : Int)), .string ((rootS l).1), .map (some mg11)] 75 (0, 0)), Mp placeV Value.string placeOk mg11 (M), Ob wg14 (.cells #[.int .i64 ((l.length : Int)), .int .i64 (((tallN l.length) : Int)), .map (some wm15)] 50 (0, 0)), Mp placeV Value.string placeOk wm15 (R), Old w no]) (fun (k, M, R) => nd - k) (0, (newT (tallN l.length) (rootS l).1), (newR l.length (tallN l.length) (rootS l).1)) ⟨rfl, rfl, rfl, rfl, rfl, rfl, trivial⟩ ⟨Nat.zero_le _, alike_new, (if_pos rfl), (H21.takes [0, 1, 2, 3, 4] (by decide))⟩ ?_
        rintro ⟨k, M, R⟩ wq22 ⟨hk, hA, hMr, H23⟩
        replace H23 : S wq22 [Ob tg10 (.cells #[.int .i64 ((l.length : Int)), .int .i64 (((tallN l.length) : Int)), .string ((rootS l).1), .map (some mg11)] 75 (0, 0)), Mp placeV Value.string placeOk mg11 (M), Ob wg14 (.cells #[.int .i64 ((l.length : Int)), .int .i64 (((tallN l.length) : Int)), .map (some wm15)] 50 (0, 0)), Mp placeV Value.string placeOk wm15 (R), Old w no] := H23
        refine g_weak [(0, .slice p l.length c), (11, .pointer (some ⟨tg10, 0, none⟩)), (12, .pointer (some ⟨wg14, 0, none⟩)), (106, .slice pd nd cd), (107, .int .i64 ((nd : Int))), (108, .int .i64 ((k : Int)))] ⟨rfl, rfl, rfl, rfl, rfl, rfl, trivial⟩ ?_
        have hRr : R ((tallN l.length), 0) = some (rootS l).1 := by rw [alike_at hA (Nat.le_refl _) (by rw [Nat.sub_self]; exact Nat.one_pos) (countN_pos _ _)]; exact hMr
        refine g_seq ?_
        refine g_region ?_
        refine l_of (s_val (v := .bool (decide (((k : Int) : Int) < (nd : Int)))) (wt0 rfl) rfl rfl (x_bin rfl rfl rfl b_lss) ?_)
        refine g_nil ?_
        refine g_then ?_
        refine g_seq ?_
        by_cases hb24 : ((k : Int) : Int) < (nd : Int)
        · skip
          refine g_cond_t rfl (decide_eq_true hb24) ?_
          refine g_skip ?_
          refine g_then ?_
          refine g_seq ?_
          refine g_block ?_
          refine g_seq ?_
          refine g_region ?_
          refine l_of (s_val (v := .pointer ((pd).map fun q => q.add (k * 7))) (wt0 rfl) rfl rfl (x_idxR k (H23.oldReads (k := 4) rfl hrd) rfl rfl rfl Tryz.underlying23 sz40 (by omega)) ?_)
          obtain ⟨dd, hdd⟩ : ∃ dd, dd = ds.getD k Dd.none := ⟨_, rfl⟩
          obtain ⟨gd1, gd2, gd3, gd4, gd5⟩ : dd.Good w := by rw [hdd]; exact hall _ (getD_mem_dd (by omega))
          refine l_of (s_val (v := .agg #[.int .i64 (dd.lv), .int .i64 (dd.ix), .int .i64 (dd.ct), .int .i64 (dd.mr), .bool dd.own, .slice dd.p1 dd.ls.length dd.c1, .slice dd.p2 dd.us.length dd.c2]) (wt0 rfl) rfl rfl (x_loadRA (vs := dd.cellsL) k (H23.oldReads (k := 4) rfl hrd) (by omega) rfl rfl Tryz.underlying40 rfl sz40 rfl (dd_get (by omega) hdd)) ?_)
          refine l_of (s_alloc H23 (wt0 rfl) rfl rfl rfl ze40 ?_)
          intro g25 wq26 H27
          refine l_of (s_store H27 0 (wt0 rfl) rfl rfl rfl rfl rfl sz40 rfl rfl (cs' := #[.int .i64 (dd.lv), .int .i64 (dd.ix), .int .i64 (dd.ct), .int .i64 (dd.mr), .bool dd.own, .slice dd.p1 dd.ls.length dd.c1, .slice dd.p2 dd.us.length dd.c2]) rfl ?_)
          intro wq28 H29
          refine g_nil ?_
          refine g_then ?_
          refine g_seq ?_
          refine g_seq ?_
          refine g_region ?_
          refine l_of (s_val (v := .pointer (some ⟨g25, 5, none⟩)) (wt0 rfl) rfl rfl (x_fieldAddr rfl rfl fo40_5 rfl) ?_)
          refine l_of (s_val (v := .slice dd.p1 dd.ls.length dd.c1) (wt0 rfl) rfl rfl (x_load1 H29 0 rfl rfl Tryz.underlying22 rfl rfl rfl) ?_)
          refine l_of (s_call (wt0 rfl) (x_call' rfl rfl cl4) (few_l dd.ls dd.p1 dd.ls.length dd.c1 rfl gd1 _ (H29.oldReads (k := 5) rfl gd4)) ?_)
          rintro _ wq30 ⟨rfl, H31⟩
          replace H31 : S wq30 [Ob g25 (.cells #[.int .i64 (dd.lv), .int .i64 (dd.ix), .int .i64 (dd.ct), .int .i64 (dd.mr), .bool dd.own, .slice dd.p1 dd.ls.length dd.c1, .slice dd.p2 dd.us.length dd.c2] 40 (0, 0)), Ob tg10 (.cells #[.int .i64 ((l.length : Int)), .int .i64 (((tallN l.length) : Int)), .string ((rootS l).1), .map (some mg11)] 75 (0, 0)), Mp placeV Value.string placeOk mg11 (M), Ob wg14 (.cells #[.int .i64 ((l.length : Int)), .int .i64 (((tallN l.length) : Int)), .map (some wm15)] 50 (0, 0)), Mp placeV Value.string placeOk wm15 (R), Old w no] := H29.absorb (new := []) H31
          refine b_ret rfl rfl ?_
          refine l_of (s_val (v := .bool (!((fewB dd.ls)))) (wt0 rfl) rfl rfl (x_not (b := (fewB dd.ls)) rfl rfl) ?_)
          refine l_of (s_val (v := .bool (!((fewB dd.ls)))) (wt0 rfl) rfl rfl (x_move rfl rfl) ?_)
          rcases Bool.eq_false_or_eq_true ((fewB dd.ls)) with hb32 | hb32
          · skip
            have gdl1 : dd.ls.length ≤ 1099511627776 := by have := few_len hb32; omega
            refine l_of (s_val (v := .pointer (some ⟨g25, 6, none⟩)) (wt1 rfl rfl rfl rfl (neg_of hb32)) rfl rfl (x_fieldAddr rfl rfl fo40_6 rfl) ?_)
            refine l_of (s_val (v := .slice dd.p2 dd.us.length dd.c2) (wt1 rfl rfl rfl rfl (neg_of hb32)) rfl rfl (x_load1 H31 0 rfl rfl Tryz.underlying22 rfl rfl rfl) ?_)
            refine l_of (s_call (wt1 rfl rfl rfl rfl (neg_of hb32)) (x_call' rfl rfl cl4) (few_l dd.us dd.p2 dd.us.length dd.c2 rfl gd2 _ (H31.oldReads (k := 5) rfl gd5)) ?_)
            rintro _ wq33 ⟨rfl, H34⟩
            replace H34 : S wq33 [Ob g25 (.cells #[.int .i64 (dd.lv), .int .i64 (dd.ix), .int .i64 (dd.ct), .int .i64 (dd.mr), .bool dd.own, .slice dd.p1 dd.ls.length dd.c1, .slice dd.p2 dd.us.length dd.c2] 40 (0, 0)), Ob tg10 (.cells #[.int .i64 ((l.length : Int)), .int .i64 (((tallN l.length) : Int)), .string ((rootS l).1), .map (some mg11)] 75 (0, 0)), Mp placeV Value.string placeOk mg11 (M), Ob wg14 (.cells #[.int .i64 ((l.length : Int)), .int .i64 (((tallN l.length) : Int)), .map (some wm15)] 50 (0, 0)), Mp placeV Value.string placeOk wm15 (R), Old w no] := H31.absorb (new := []) H34
            refine b_ret rfl rfl ?_
            refine l_of (s_val (v := .bool (!((fewB dd.us)))) (wt1 rfl rfl rfl rfl (neg_of hb32)) rfl rfl (x_not (b := (fewB dd.us)) rfl rfl) ?_)
            refine l_of (s_val (v := .bool (!((fewB dd.us)))) (wt0 rfl) rfl rfl (x_pick_f rfl rfl (neg_of hb32) rfl) ?_)
            refine g_nil ?_
            refine g_then ?_
            refine g_weak [(0, .slice p l.length c), (11, .pointer (some ⟨tg10, 0, none⟩)), (12, .pointer (some ⟨wg14, 0, none⟩)), (15, .pointer (some ⟨g25, 0, none⟩)), (106, .slice pd nd cd), (107, .int .i64 ((nd : Int))), (108, .int .i64 ((k : Int))), (121, .bool (!((fewB dd.us))))] ⟨rfl, rfl, rfl, rfl, rfl, rfl, rfl, rfl, trivial⟩ ?_
            rcases Bool.eq_false_or_eq_true ((fewB dd.us)) with hb35 | hb35
            · skip
              have gdl2 : dd.us.length ≤ 1099511627776 := by have := few_len hb35; omega
              refine g_cond_f rfl (neg_of hb35) ?_
              refine g_skip ?_
              refine g_then ?_
              refine g_seq ?_
              refine g_quiet (by kernel_rfl) (by kernel_rfl) H34 ?_
              refine q_val (v := .pointer (some ⟨g25, 5, none⟩)) (wt0 rfl) rfl rfl (fun wx H => x_fieldAddr rfl rfl fo40_5 rfl) ?_
              refine q_val (v := .slice dd.p1 dd.ls.length dd.c1) (wt0 rfl) rfl rfl (fun wx H => x_load1 H 0 rfl rfl Tryz.underlying22 rfl rfl rfl) ?_
              refine q_val (v := .pointer (some ⟨g25, 6, none⟩)) (wt0 rfl) rfl rfl (fun wx H => x_fieldAddr rfl rfl fo40_6 rfl) ?_
              refine q_val (v := .slice dd.p2 dd.us.length dd.c2) (wt0 rfl) rfl rfl (fun wx H => x_load1 H 0 rfl rfl Tryz.underlying22 rfl rfl rfl) ?_
              refine q_val (v := .slice dd.p1 dd.ls.length dd.c1) (wt0 rfl) rfl rfl (fun wx H => x_assign rfl rfl) ?_
              refine q_val (v := .slice dd.p2 dd.us.length dd.c2) (wt0 rfl) rfl rfl (fun wx H => x_assign rfl rfl) ?_
              refine q_nil (fun wq36 H37 => ?_)
              refine g_then ?_
              refine g_seq ?_
              refine g_seq ?_
              refine g_region ?_
              refine l_of (s_val (v := .pointer (some ⟨g25, 4, none⟩)) (wt0 rfl) rfl rfl (x_fieldAddr rfl rfl fo40_4 rfl) ?_)
              refine l_of (s_val (v := .bool dd.own) (wt0 rfl) rfl rfl (x_load1 H37 0 rfl rfl Tryz.underlying4 rfl rfl rfl) ?_)
              refine l_of (s_val (v := .bool !(dd.own)) (wt0 rfl) rfl rfl (x_not (b := dd.own) rfl rfl) ?_)
              refine g_nil ?_
              refine g_then ?_
              rcases Bool.eq_false_or_eq_true (dd.own) with hb38 | hb38
              · skip
                refine g_cond_f rfl (neg_of hb38) ?_
                refine g_skip ?_
                refine g_then ?_
                refine g_seq ?_
                refine g_region ?_
                refine l_of (s_val (v := .pointer (some ⟨tg10, 0, none⟩)) (wt0 rfl) rfl rfl (x_move rfl rfl) ?_)
                have H39 : S wq36 [Big [], Ob g25 (.cells #[.int .i64 (dd.lv), .int .i64 (dd.ix), .int .i64 (dd.ct), .int .i64 (dd.mr), .bool dd.own, .slice dd.p1 dd.ls.length dd.c1, .slice dd.p2 dd.us.length dd.c2] 40 (0, 0)), Ob tg10 (.cells #[.int .i64 ((l.length : Int)), .int .i64 (((tallN l.length) : Int)), .string ((rootS l).1), .map (some mg11)] 75 (0, 0)), Mp placeV Value.string placeOk mg11 (M), Ob wg14 (.cells #[.int .i64 ((l.length : Int)), .int .i64 (((tallN l.length) : Int)), .map (some wm15)] 50 (0, 0)), Mp placeV Value.string placeOk wm15 (R), Old w no] := H37.nilBig
                refine l_of (s_call (wt0 rfl) (x_call' rfl rfl cl14) (copy_s tg10 mg11 l.length (tallN l.length) (rootS l).1 (M) _ (H39.takes [2, 3] (by decide))) ?_)
                rintro _ wq41 ⟨tc40, rfl, H42⟩
                replace H42 : S wq41 [Ob tg10 (.cells #[.int .i64 ((l.length : Int)), .int .i64 (((tallN l.length) : Int)), .string ((rootS l).1), .map (some mg11)] 75 (0, 0)), Mp placeV Value.string placeOk mg11 (M), Big [], Ob g25 (.cells #[.int .i64 (dd.lv), .int .i64 (dd.ix), .int .i64 (dd.ct), .int .i64 (dd.mr), .bool dd.own, .slice dd.p1 dd.ls.length dd.c1, .slice dd.p2 dd.us.length dd.c2] 40 (0, 0)), Ob wg14 (.cells #[.int .i64 ((l.length : Int)), .int .i64 (((tallN l.length) : Int)), .map (some wm15)] 50 (0, 0)), Mp placeV Value.string placeOk wm15 (R), Old w no] := H39.absorbI (new := [Ob tg10 (.cells #[.int .i64 ((l.length : Int)), .int .i64 (((tallN l.length) : Int)), .string ((rootS l).1), .map (some mg11)] 75 (0, 0)), Mp placeV Value.string placeOk mg11 (M)]) [2, 3] H42
                refine b_ret rfl rfl ?_
                refine l_of (s_val (v := .pointer (some ⟨tc40, 0, none⟩)) (wt0 rfl) rfl rfl (x_assign rfl rfl) ?_)
                refine g_nil ?_
                refine g_then ?_
                refine g_seq ?_
                refine g_seq ?_
                refine g_any [] (fun wx => S wx [Ob g25 (.cells #[.int .i64 (dd.lv), .int .i64 (dd.ix), .int .i64 (dd.ct), .int .i64 (dd.mr), .bool dd.own, .slice dd.p1 dd.ls.length dd.c1, .slice dd.p2 dd.us.length dd.c2] 40 (0, 0))]) [] (by kernel_rfl) H42 (fun wq43 H44 => ?_)
                refine a_take (v := .pointer (some ⟨tg10, 0, none⟩)) 0 rfl (wt0 rfl) rfl rfl rfl (by kernel_rfl) (by kernel_rfl) (by kernel_rfl) (by kernel_rfl) (H44.mask [false, false, false, true, false, false, false]) (fun wx H => x_move rfl rfl) ?_
                refine a_take (v := .pointer (some ⟨g25, 0, none⟩)) 1 rfl (wt0 rfl) rfl rfl rfl (by kernel_rfl) (by kernel_rfl) (by kernel_rfl) (by kernel_rfl) (H44.mask [false, false, false, true, false, false, false]) (fun wx H => x_fieldAddr rfl rfl fo40_0 rfl) ?_
                refine a_take (v := .int .i64 (dd.lv)) 2 rfl (wt0 rfl) rfl rfl rfl (by kernel_rfl) (by kernel_rfl) (by kernel_rfl) (by kernel_rfl) (H44.mask [false, false, false, true, false, false, false]) (fun wx H => x_load1 H 0 rfl rfl Tryz.underlying3 rfl rfl rfl) ?_
                refine a_take (v := .pointer (some ⟨g25, 1, none⟩)) 3 rfl (wt0 rfl) rfl rfl rfl (by kernel_rfl) (by kernel_rfl) (by kernel_rfl) (by kernel_rfl) (H44.mask [false, false, false, true, false, false, false]) (fun wx H => x_fieldAddr rfl rfl fo40_1 rfl) ?_
                refine a_take (v := .int .i64 (dd.ix)) 4 rfl (wt0 rfl) rfl rfl rfl (by kernel_rfl) (by kernel_rfl) (by kernel_rfl) (by kernel_rfl) (H44.mask [false, false, false, true, false, false, false]) (fun wx H => x_load1 H 0 rfl rfl Tryz.underlying3 rfl rfl rfl) ?_
                refine a_take (v := .slice dd.p1 dd.ls.length dd.c1) 5 rfl (wt0 rfl) rfl rfl rfl (by kernel_rfl) (by kernel_rfl) (by kernel_rfl) (by kernel_rfl) (H44.mask [false, false, false, true, false, false, false]) (fun wx H => x_move rfl rfl) ?_
                refine a_take (v := .slice dd.p2 dd.us.length dd.c2) 6 rfl (wt0 rfl) rfl rfl rfl (by kernel_rfl) (by kernel_rfl) (by kernel_rfl) (by kernel_rfl) (H44.mask [false, false, false, true, false, false, false]) (fun wx H => x_move rfl rfl) ?_
                refine a_take (v := .pointer (some ⟨wg14, 0, none⟩)) 8 rfl (wt0 rfl) rfl rfl rfl (by kernel_rfl) (by kernel_rfl) (by kernel_rfl) (by kernel_rfl) (H44.mask [false, false, false, true, false, false, false]) (fun wx H => x_move rfl rfl) ?_
                refine a_take (v := .pointer (some ⟨g25, 0, none⟩)) 9 rfl (wt0 rfl) rfl rfl rfl (by kernel_rfl) (by kernel_rfl) (by kernel_rfl) (by kernel_rfl) (H44.mask [false, false, false, true, false, false, false]) (fun wx H => x_fieldAddr rfl rfl fo40_0 rfl) ?_
                refine a_take (v := .int .i64 (dd.lv)) 10 rfl (wt0 rfl) rfl rfl rfl (by kernel_rfl) (by kernel_rfl) (by kernel_rfl) (by kernel_rfl) (H44.mask [false, false, false, true, false, false, false]) (fun wx H => x_load1 H 0 rfl rfl Tryz.underlying3 rfl rfl rfl) ?_
                refine a_take (v := .pointer (some ⟨g25, 1, none⟩)) 11 rfl (wt0 rfl) rfl rfl rfl (by kernel_rfl) (by kernel_rfl) (by kernel_rfl) (by kernel_rfl) (H44.mask [false, false, false, true, false, false, false]) (fun wx H => x_fieldAddr rfl rfl fo40_1 rfl) ?_
                refine a_take (v := .int .i64 (dd.ix)) 12 rfl (wt0 rfl) rfl rfl rfl (by kernel_rfl) (by kernel_rfl) (by kernel_rfl) (by kernel_rfl) (H44.mask [false, false, false, true, false, false, false]) (fun wx H => x_load1 H 0 rfl rfl Tryz.underlying3 rfl rfl rfl) ?_
                refine a_take (v := .slice dd.p1 dd.ls.length dd.c1) 13 rfl (wt0 rfl) rfl rfl rfl (by kernel_rfl) (by kernel_rfl) (by kernel_rfl) (by kernel_rfl) (H44.mask [false, false, false, true, false, false, false]) (fun wx H => x_move rfl rfl) ?_
                refine a_take (v := .slice dd.p2 dd.us.length dd.c2) 14 rfl (wt0 rfl) rfl rfl rfl (by kernel_rfl) (by kernel_rfl) (by kernel_rfl) (by kernel_rfl) (H44.mask [false, false, false, true, false, false, false]) (fun wx H => x_move rfl rfl) ?_
                refine a_one (i := 7) (by kernel_rfl) rfl ?_
                have had45 := add_s tg10 mg11 l.length (tallN l.length) (rootS l).1 (M) (Old w no) (Big []) dd.lv dd.ix dd.ls dd.us dd.p1 dd.p2 dd.c1 dd.c2 ht12 gdl1 gdl2 wq43 (H44.takes [0, 1, 6, 2] (by decide)) (fun W h _ => reads_old h gd4) (fun W h _ => reads_old h gd5)
                obtain ⟨M2, hM2⟩ : ∃ M2, M2 = addM (tallN l.length) (rootS l).1 dd.lv dd.ix dd.ls dd.us (M) := ⟨_, rfl⟩
                rw [← hM2] at had45
                refine s_call (wt0 rfl) (x_call' rfl rfl cl15) (had45) ?_
                rintro _ wq46 ⟨rfl, H47⟩
                replace H47 : S wq46 [Ob tg10 (.cells #[.int .i64 ((l.length : Int)), .int .i64 (((tallN l.length) : Int)), .string ((rootS l).1), .map (some mg11)] 75 (0, 0)), Mp placeV Value.string placeOk mg11 (M2), Old w no, Big [], Ob g25 (.cells #[.int .i64 (dd.lv), .int .i64 (dd.ix), .int .i64 (dd.ct), .int .i64 (dd.mr), .bool dd.own, .slice dd.p1 dd.ls.length dd.c1, .slice dd.p2 dd.us.length dd.c2] 40 (0, 0)), Ob wg14 (.cells #[.int .i64 ((l.length : Int)), .int .i64 (((tallN l.length) : Int)), .map (some wm15)] 50 (0, 0)), Mp placeV Value.string placeOk wm15 (R)] := H44.absorbI (new := [Ob tg10 (.cells #[.int .i64 ((l.length : Int)), .int .i64 (((tallN l.length) : Int)), .string ((rootS l).1), .map (some mg11)] 75 (0, 0)), Mp placeV Value.string placeOk mg11 (M2), Old w no, Big []]) [0, 1, 6, 2] H47
                refine b_ret rfl rfl ?_
                refine a_k (H47.mask [false, false, false, false, true, false, false]) ?_
                refine a_one (i := 15) (by kernel_rfl) rfl ?_
                refine s_call (wt0 rfl) (x_call' rfl rfl cl16) (add_r wg14 wm15 l.length (rootS l).1 (R) (Old w no) (Big []) dd.lv dd.ix dd.ls dd.us dd.p1 dd.p2 dd.c1 dd.c2 hc1 hc2 hRr (root_size hce) gdl1 gdl2 _ (H47.takes [5, 6, 2, 3] (by decide)) (fun W h _ => reads_old h gd4) (fun W h _ => reads_old h gd5)) ?_
                rintro _ wq48 ⟨R2, hp1, hp2, rfl, H49⟩
                replace H49 : S wq48 [Ob wg14 (.cells #[.int .i64 ((l.length : Int)), .int .i64 (((tallN l.length) : Int)), .map (some wm15)] 50 (0, 0)), Mp placeV Value.string placeOk wm15 (R2), Old w no, Big [], Ob tg10 (.cells #[.int .i64 ((l.length : Int)), .int .i64 (((tallN l.length) : Int)), .string ((rootS l).1), .map (some mg11)] 75 (0, 0)), Mp placeV Value.string placeOk mg11 (M2), Ob g25 (.cells #[.int .i64 (dd.lv), .int .i64 (dd.ix), .int .i64 (dd.ct), .int .i64 (dd.mr), .bool dd.own, .slice dd.p1 dd.ls.length dd.c1, .slice dd.p2 dd.us.length dd.c2] 40 (0, 0))] := H47.absorbI (new := [Ob wg14 (.cells #[.int .i64 ((l.length : Int)), .int .i64 (((tallN l.length) : Int)), .map (some wm15)] 50 (0, 0)), Mp placeV Value.string placeOk wm15 (R2), Old w no, Big []]) [5, 6, 2, 3] H49
                refine b_ret rfl rfl ?_
                refine a_k (H49.mask [false, false, false, false, false, false, true]) ?_
                refine a_take (v := .bool (!decide (((addE (tallN l.length) (rootS l).1 dd.lv dd.ix dd.ls dd.us) : Int) = (addE (tallN l.length) (rootS l).1 dd.lv dd.ix dd.ls dd.us)))) 16 rfl (wt0 rfl) rfl rfl rfl (by kernel_rfl) (by kernel_rfl) (by kernel_rfl) (by kernel_rfl) (H49.mask [false, false, false, false, false, false, true]) (fun wx H => x_bin rfl rfl rfl b_neq) ?_
                refine a_take (v := .bool (!decide (((addE (tallN l.length) (rootS l).1 dd.lv dd.ix dd.ls dd.us) : Int) = (addE (tallN l.length) (rootS l).1 dd.lv dd.ix dd.ls dd.us)))) 17 rfl (wt0 rfl) rfl rfl rfl (by kernel_rfl) (by kernel_rfl) (by kernel_rfl) (by kernel_rfl) (H49.mask [false, false, false, false, false, false, true]) (fun wx H => x_move rfl rfl) ?_
                refine a_take (v := .pointer (some ⟨tc40, 0, none⟩)) 18 rfl (wt1 rfl rfl rfl rfl (nf rfl)) rfl rfl rfl (by kernel_rfl) (by kernel_rfl) (by kernel_rfl) (by kernel_rfl) (H49.mask [false, false, false, false, false, false, true]) (fun wx H => x_move rfl rfl) ?_
                refine a_take (v := .bool false) 19 rfl (wt1 rfl rfl rfl rfl (nf rfl)) rfl rfl rfl (by kernel_rfl) (by kernel_rfl) (by kernel_rfl) (by kernel_rfl) (H49.mask [false, false, false, false, false, false, true]) (fun wx H => x_bin rfl rfl rfl (b_eqN (r := false) Tryz.underlying29 rfl)) ?_
                refine a_take (v := .bool false) 20 rfl (wt0 rfl) rfl rfl rfl (by kernel_rfl) (by kernel_rfl) (by kernel_rfl) (by kernel_rfl) (H49.mask [false, false, false, false, false, false, true]) (fun wx H => x_pick_f rfl rfl (nf rfl) rfl) ?_
                refine a_done (by kernel_rfl) ?_
                refine g_then ?_
                refine g_weak [(0, .slice p l.length c), (11, .pointer (some ⟨tg10, 0, none⟩)), (12, .pointer (some ⟨wg14, 0, none⟩)), (15, .pointer (some ⟨g25, 0, none⟩)), (106, .slice pd nd cd), (107, .int .i64 ((nd : Int))), (108, .int .i64 ((k : Int))), (162, .pointer (some ⟨tc40, 0, none⟩)), (163, .bool false), (164, .bool false)] ⟨rfl, rfl, rfl, rfl, rfl, rfl, rfl, rfl, rfl, rfl, trivial⟩ ?_
                refine g_cond_f rfl rfl ?_
                refine g_skip ?_
                refine g_then ?_
                refine g_seq ?_
                refine g_region ?_
                refine l_of (s_val (v := .pointer (some ⟨tg10, 0, none⟩)) (wt0 rfl) rfl rfl (x_move rfl rfl) ?_)
                refine l_of (s_val (v := .pointer (some ⟨g25, 0, none⟩)) (wt0 rfl) rfl rfl (x_fieldAddr rfl rfl fo40_0 rfl) ?_)
                refine l_of (s_val (v := .int .i64 (dd.lv)) (wt0 rfl) rfl rfl (x_load1 H49 6 rfl rfl Tryz.underlying3 rfl rfl rfl) ?_)
                refine l_of (s_val (v := .pointer (some ⟨g25, 1, none⟩)) (wt0 rfl) rfl rfl (x_fieldAddr rfl rfl fo40_1 rfl) ?_)
                refine l_of (s_val (v := .int .i64 (dd.ix)) (wt0 rfl) rfl rfl (x_load1 H49 6 rfl rfl Tryz.underlying3 rfl rfl rfl) ?_)
                have hA2 := alike_step hM2 hA hp1 hp2
                have hMr2 := root_step ht12 hM2 hMr
                skip
                refine l_of (s_call (wt0 rfl) (x_call' rfl rfl cl17) (getG_s tg10 mg11 l.length (tallN l.length) (rootS l).1 (M2) dd.lv dd.ix hc1 hc2 ht12 _ (H49.takes [4, 5] (by decide))) ?_)
                rintro _ wq50 ⟨rfl, H51⟩
                replace H51 : S wq50 [Ob tg10 (.cells #[.int .i64 ((l.length : Int)), .int .i64 (((tallN l.length) : Int)), .string ((rootS l).1), .map (some mg11)] 75 (0, 0)), Mp placeV Value.string placeOk mg11 (M2), Ob wg14 (.cells #[.int .i64 ((l.length : Int)), .int .i64 (((tallN l.length) : Int)), .map (some wm15)] 50 (0, 0)), Mp placeV Value.string placeOk wm15 (R2), Old w no, Big [], Ob g25 (.cells #[.int .i64 (dd.lv), .int .i64 (dd.ix), .int .i64 (dd.ct), .int .i64 (dd.mr), .bool dd.own, .slice dd.p1 dd.ls.length dd.c1, .slice dd.p2 dd.us.length dd.c2] 40 (0, 0))] := H49.absorbI (new := [Ob tg10 (.cells #[.int .i64 ((l.length : Int)), .int .i64 (((tallN l.length) : Int)), .string ((rootS l).1), .map (some mg11)] 75 (0, 0)), Mp placeV Value.string placeOk mg11 (M2)]) [4, 5] H51
                refine b_ret rfl rfl ?_
                refine l_of (s_val (v := .tuple #[.string ((getG l.length (tallN l.length) M2 dd.lv dd.ix).1), .int .i64 ((getG l.length (tallN l.length) M2 dd.lv dd.ix).2)]) (wt0 rfl) rfl rfl (x_move rfl rfl) ?_)
                refine l_of (s_val (v := .string ((getG l.length (tallN l.length) M2 dd.lv dd.ix).1)) (wt0 rfl) rfl rfl (x_extract rfl rfl rfl) ?_)
                refine l_of (s_val (v := .int .i64 ((getG l.length (tallN l.length) M2 dd.lv dd.ix).2)) (wt0 rfl) rfl rfl (x_extract rfl rfl rfl) ?_)
                refine l_of (s_val (v := .string ((getG l.length (tallN l.length) M2 dd.lv dd.ix).1)) (wt0 rfl) rfl rfl (x_assign rfl rfl) ?_)
                refine l_of (s_val (v := .int .i64 ((getG l.length (tallN l.length) M2 dd.lv dd.ix).2)) (wt0 rfl) rfl rfl (x_assign rfl rfl) ?_)
                refine g_nil ?_
                refine g_then ?_
                refine g_seq ?_
                refine g_region ?_
                refine l_of (s_val (v := .pointer (some ⟨wg14, 0, none⟩)) (wt0 rfl) rfl rfl (x_move rfl rfl) ?_)
                refine l_of (s_val (v := .pointer (some ⟨g25, 0, none⟩)) (wt0 rfl) rfl rfl (x_fieldAddr rfl rfl fo40_0 rfl) ?_)
                refine l_of (s_val (v := .int .i64 (dd.lv)) (wt0 rfl) rfl rfl (x_load1 H51 6 rfl rfl Tryz.underlying3 rfl rfl rfl) ?_)
                refine l_of (s_val (v := .pointer (some ⟨g25, 1, none⟩)) (wt0 rfl) rfl rfl (x_fieldAddr rfl rfl fo40_1 rfl) ?_)
                refine l_of (s_val (v := .int .i64 (dd.ix)) (wt0 rfl) rfl rfl (x_load1 H51 6 rfl rfl Tryz.underlying3 rfl rfl rfl) ?_)
                have hgr52 := get_r wg14 wm15 l.length (tallN l.length) R2 dd.lv dd.ix ht12 wq50 (H51.takes [2, 3] (by decide))
                rw [alike_get hA2] at hgr52
                refine l_of (s_call (wt0 rfl) (x_call' rfl rfl cl18) (hgr52) ?_)
                rintro _ wq53 ⟨rfl, H54⟩
                replace H54 : S wq53 [Ob wg14 (.cells #[.int .i64 ((l.length : Int)), .int .i64 (((tallN l.length) : Int)), .map (some wm15)] 50 (0, 0)), Mp placeV Value.string placeOk wm15 (R2), Ob tg10 (.cells #[.int .i64 ((l.length : Int)), .int .i64 (((tallN l.length) : Int)), .string ((rootS l).1), .map (some mg11)] 75 (0, 0)), Mp placeV Value.string placeOk mg11 (M2), Old w no, Big [], Ob g25 (.cells #[.int .i64 (dd.lv), .int .i64 (dd.ix), .int .i64 (dd.ct), .int .i64 (dd.mr), .bool dd.own, .slice dd.p1 dd.ls.length dd.c1, .slice dd.p2 dd.us.length dd.c2] 40 (0, 0))] := H51.absorbI (new := [Ob wg14 (.cells #[.int .i64 ((l.length : Int)), .int .i64 (((tallN l.length) : Int)), .map (some wm15)] 50 (0, 0)), Mp placeV Value.string placeOk wm15 (R2)]) [2, 3] H54
                refine b_ret rfl rfl ?_
                refine l_of (s_val (v := .tuple #[.string ((getG l.length (tallN l.length) M2 dd.lv dd.ix).1), .int .i64 ((getG l.length (tallN l.length) M2 dd.lv dd.ix).2)]) (wt0 rfl) rfl rfl (x_move rfl rfl) ?_)
                refine l_of (s_val (v := .string ((getG l.length (tallN l.length) M2 dd.lv dd.ix).1)) (wt0 rfl) rfl rfl (x_extract rfl rfl rfl) ?_)
                refine l_of (s_val (v := .int .i64 ((getG l.length (tallN l.length) M2 dd.lv dd.ix).2)) (wt0 rfl) rfl rfl (x_extract rfl rfl rfl) ?_)
                refine l_of (s_val (v := .string ((getG l.length (tallN l.length) M2 dd.lv dd.ix).1)) (wt0 rfl) rfl rfl (x_assign rfl rfl) ?_)
                refine l_of (s_val (v := .int .i64 ((getG l.length (tallN l.length) M2 dd.lv dd.ix).2)) (wt0 rfl) rfl rfl (x_assign rfl rfl) ?_)
                refine g_nil ?_
                refine g_then ?_
                refine g_weak [(0, .slice p l.length c), (11, .pointer (some ⟨tg10, 0, none⟩)), (12, .pointer (some ⟨wg14, 0, none⟩)), (15, .pointer (some ⟨g25, 0, none⟩)), (19, .string ((getG l.length (tallN l.length) M2 dd.lv dd.ix).1)), (20, .int .i64 ((getG l.length (tallN l.length) M2 dd.lv dd.ix).2)), (21, .string ((getG l.length (tallN l.length) M2 dd.lv dd.ix).1)), (22, .int .i64 ((getG l.length (tallN l.length) M2 dd.lv dd.ix).2)), (106, .slice pd nd cd), (107, .int .i64 ((nd : Int))), (108, .int .i64 ((k : Int))), (162, .pointer (some ⟨tc40, 0, none⟩)), (163, .bool false)] ⟨rfl, rfl, rfl, rfl, rfl, rfl, rfl, rfl, rfl, rfl, rfl, rfl, rfl, trivial⟩ ?_
                refine g_seq ?_
                refine g_region ?_
                refine l_of (s_val (v := .pointer (some ⟨tg10, 0, none⟩)) (wt0 rfl) rfl rfl (x_move rfl rfl) ?_)
                refine l_of (s_val (v := .pointer (some ⟨g25, 0, none⟩)) (wt0 rfl) rfl rfl (x_fieldAddr rfl rfl fo40_0 rfl) ?_)
                refine l_of (s_val (v := .int .i64 (dd.lv)) (wt0 rfl) rfl rfl (x_load1 H54 6 rfl rfl Tryz.underlying3 rfl rfl rfl) ?_)
                refine l_of (s_val (v := .pointer (some ⟨g25, 1, none⟩)) (wt0 rfl) rfl rfl (x_fieldAddr rfl rfl fo40_1 rfl) ?_)
                refine l_of (s_val (v := .int .i64 (dd.ix)) (wt0 rfl) rfl rfl (x_load1 H54 6 rfl rfl Tryz.underlying3 rfl rfl rfl) ?_)
                refine l_of (s_val (v := .pointer (some ⟨g25, 2, none⟩)) (wt0 rfl) rfl rfl (x_fieldAddr rfl rfl fo40_2 rfl) ?_)
                refine l_of (s_val (v := .int .i64 (dd.ct)) (wt0 rfl) rfl rfl (x_load1 H54 6 rfl rfl Tryz.underlying3 rfl rfl rfl) ?_)
                refine l_of (s_val (v := .pointer (some ⟨g25, 3, none⟩)) (wt0 rfl) rfl rfl (x_fieldAddr rfl rfl fo40_3 rfl) ?_)
                refine l_of (s_val (v := .int .i64 (dd.mr)) (wt0 rfl) rfl rfl (x_load1 H54 6 rfl rfl Tryz.underlying3 rfl rfl rfl) ?_)
                have hgl := give_len (h := (tallN l.length)) (G := getT l.length M2) (v := dd.lv) (i := dd.ix) (c := dd.ct) (u := dd.mr) ht12
                refine l_of (s_call (wt0 rfl) (x_call' rfl rfl cl19) (give_s tg10 mg11 l.length (tallN l.length) (rootS l).1 (M2) dd.lv dd.ix dd.ct dd.mr hc1 hc2 ht12 gd3 _ (H54.takes [2, 3] (by decide))) ?_)
                rintro _ wq59 ⟨p55, c56, p57, c58, rfl, H60⟩
                replace H60 : S wq59 [Rw 9 1 p55 (giveS (tallN l.length) (getT l.length M2) dd.lv dd.ix dd.ct dd.mr).1.length c56 (stV (giveS (tallN l.length) (getT l.length M2) dd.lv dd.ix dd.ct dd.mr).1), Rw 9 1 p57 (giveS (tallN l.length) (getT l.length M2) dd.lv dd.ix dd.ct dd.mr).2.1.length c58 (stV (giveS (tallN l.length) (getT l.length M2) dd.lv dd.ix dd.ct dd.mr).2.1), Ob tg10 (.cells #[.int .i64 ((l.length : Int)), .int .i64 (((tallN l.length) : Int)), .string ((rootS l).1), .map (some mg11)] 75 (0, 0)), Mp placeV Value.string placeOk mg11 (M2), Ob wg14 (.cells #[.int .i64 ((l.length : Int)), .int .i64 (((tallN l.length) : Int)), .map (some wm15)] 50 (0, 0)), Mp placeV Value.string placeOk wm15 (R2), Old w no, Big [], Ob g25 (.cells #[.int .i64 (dd.lv), .int .i64 (dd.ix), .int .i64 (dd.ct), .int .i64 (dd.mr), .bool dd.own, .slice dd.p1 dd.ls.length dd.c1, .slice dd.p2 dd.us.length dd.c2] 40 (0, 0))] := H54.absorbI (new := [Rw 9 1 p55 (giveS (tallN l.length) (getT l.length M2) dd.lv dd.ix dd.ct dd.mr).1.length c56 (stV (giveS (tallN l.length) (getT l.length M2) dd.lv dd.ix dd.ct dd.mr).1), Rw 9 1 p57 (giveS (tallN l.length) (getT l.length M2) dd.lv dd.ix dd.ct dd.mr).2.1.length c58 (stV (giveS (tallN l.length) (getT l.length M2) dd.lv dd.ix dd.ct dd.mr).2.1), Ob tg10 (.cells #[.int .i64 ((l.length : Int)), .int .i64 (((tallN l.length) : Int)), .string ((rootS l).1), .map (some mg11)] 75 (0, 0)), Mp placeV Value.string placeOk mg11 (M2)]) [2, 3] H60
                refine b_ret rfl rfl ?_
                refine l_of (s_val (v := .tuple #[.slice p55 (giveS (tallN l.length) (getT l.length M2) dd.lv dd.ix dd.ct dd.mr).1.length c56, .slice p57 (giveS (tallN l.length) (getT l.length M2) dd.lv dd.ix dd.ct dd.mr).2.1.length c58, .int .i64 ((giveS (tallN l.length) (getT l.length M2) dd.lv dd.ix dd.ct dd.mr).2.2)]) (wt0 rfl) rfl rfl (x_move rfl rfl) ?_)
                refine l_of (s_val (v := .slice p55 (giveS (tallN l.length) (getT l.length M2) dd.lv dd.ix dd.ct dd.mr).1.length c56) (wt0 rfl) rfl rfl (x_extract rfl rfl rfl) ?_)
                refine l_of (s_val (v := .slice p57 (giveS (tallN l.length) (getT l.length M2) dd.lv dd.ix dd.ct dd.mr).2.1.length c58) (wt0 rfl) rfl rfl (x_extract rfl rfl rfl) ?_)
                refine l_of (s_val (v := .int .i64 ((giveS (tallN l.length) (getT l.length M2) dd.lv dd.ix dd.ct dd.mr).2.2)) (wt0 rfl) rfl rfl (x_extract rfl rfl rfl) ?_)
                refine l_of (s_val (v := .slice p55 (giveS (tallN l.length) (getT l.length M2) dd.lv dd.ix dd.ct dd.mr).1.length c56) (wt0 rfl) rfl rfl (x_assign rfl rfl) ?_)
                refine l_of (s_val (v := .slice p57 (giveS (tallN l.length) (getT l.length M2) dd.lv dd.ix dd.ct dd.mr).2.1.length c58) (wt0 rfl) rfl rfl (x_assign rfl rfl) ?_)
                refine l_of (s_val (v := .int .i64 ((giveS (tallN l.length) (getT l.length M2) dd.lv dd.ix dd.ct dd.mr).2.2)) (wt0 rfl) rfl rfl (x_assign rfl rfl) ?_)
                refine g_nil ?_
                refine g_then ?_
                refine g_weak [(0, .slice p l.length c), (11, .pointer (some ⟨tg10, 0, none⟩)), (12, .pointer (some ⟨wg14, 0, none⟩)), (15, .pointer (some ⟨g25, 0, none⟩)), (19, .string ((getG l.length (tallN l.length) M2 dd.lv dd.ix).1)), (20, .int .i64 ((getG l.length (tallN l.length) M2 dd.lv dd.ix).2)), (21, .string ((getG l.length (tallN l.length) M2 dd.lv dd.ix).1)), (22, .int .i64 ((getG l.length (tallN l.length) M2 dd.lv dd.ix).2)), (23, .slice p55 (giveS (tallN l.length) (getT l.length M2) dd.lv dd.ix dd.ct dd.mr).1.length c56), (24, .slice p57 (giveS (tallN l.length) (getT l.length M2) dd.lv dd.ix dd.ct dd.mr).2.1.length c58), (25, .int .i64 ((giveS (tallN l.length) (getT l.length M2) dd.lv dd.ix dd.ct dd.mr).2.2)), (106, .slice pd nd cd), (107, .int .i64 ((nd : Int))), (108, .int .i64 ((k : Int))), (162, .pointer (some ⟨tc40, 0, none⟩)), (163, .bool false)] ⟨rfl, rfl, rfl, rfl, rfl, rfl, rfl, rfl, rfl, rfl, rfl, rfl, rfl, rfl, rfl, rfl, trivial⟩ ?_
                refine g_seq ?_
                refine g_region ?_
                refine l_of (s_val (v := .pointer (some ⟨wg14, 0, none⟩)) (wt0 rfl) rfl rfl (x_move rfl rfl) ?_)
                refine l_of (s_val (v := .pointer (some ⟨g25, 0, none⟩)) (wt0 rfl) rfl rfl (x_fieldAddr rfl rfl fo40_0 rfl) ?_)
                refine l_of (s_val (v := .int .i64 (dd.lv)) (wt0 rfl) rfl rfl (x_load1 H60 8 rfl rfl Tryz.underlying3 rfl rfl rfl) ?_)
                refine l_of (s_val (v := .pointer (some ⟨g25, 1, none⟩)) (wt0 rfl) rfl rfl (x_fieldAddr rfl rfl fo40_1 rfl) ?_)
                refine l_of (s_val (v := .int .i64 (dd.ix)) (wt0 rfl) rfl rfl (x_load1 H60 8 rfl rfl Tryz.underlying3 rfl rfl rfl) ?_)
                refine l_of (s_val (v := .pointer (some ⟨g25, 2, none⟩)) (wt0 rfl) rfl rfl (x_fieldAddr rfl rfl fo40_2 rfl) ?_)
                refine l_of (s_val (v := .int .i64 (dd.ct)) (wt0 rfl) rfl rfl (x_load1 H60 8 rfl rfl Tryz.underlying3 rfl rfl rfl) ?_)
                refine l_of (s_val (v := .pointer (some ⟨g25, 3, none⟩)) (wt0 rfl) rfl rfl (x_fieldAddr rfl rfl fo40_3 rfl) ?_)
                refine l_of (s_val (v := .int .i64 (dd.mr)) (wt0 rfl) rfl rfl (x_load1 H60 8 rfl rfl Tryz.underlying3 rfl rfl rfl) ?_)
                have hgv61 := give_r wg14 wm15 l.length (tallN l.length) R2 dd.lv dd.ix dd.ct dd.mr hc1 hc2 ht12 wq59 (H60.takes [4, 5] (by decide))
                rw [alike_give ht12 hA2] at hgv61
                refine l_of (s_call (wt0 rfl) (x_call' rfl rfl cl20) (hgv61) ?_)
                rintro _ wq66 ⟨p62, c63, p64, c65, rfl, H67⟩
                replace H67 : S wq66 [Rw 9 1 p62 (giveS (tallN l.length) (getT l.length M2) dd.lv dd.ix dd.ct dd.mr).1.length c63 (stV (giveS (tallN l.length) (getT l.length M2) dd.lv dd.ix dd.ct dd.mr).1), Rw 9 1 p64 (giveS (tallN l.length) (getT l.length M2) dd.lv dd.ix dd.ct dd.mr).2.1.length c65 (stV (giveS (tallN l.length) (getT l.length M2) dd.lv dd.ix dd.ct dd.mr).2.1), Ob wg14 (.cells #[.int .i64 ((l.length : Int)), .int .i64 (((tallN l.length) : Int)), .map (some wm15)] 50 (0, 0)), Mp placeV Value.string placeOk wm15 (R2), Rw 9 1 p55 (giveS (tallN l.length) (getT l.length M2) dd.lv dd.ix dd.ct dd.mr).1.length c56 (stV (giveS (tallN l.length) (getT l.length M2) dd.lv dd.ix dd.ct dd.mr).1), Rw 9 1 p57 (giveS (tallN l.length) (getT l.length M2) dd.lv dd.ix dd.ct dd.mr).2.1.length c58 (stV (giveS (tallN l.length) (getT l.length M2) dd.lv dd.ix dd.ct dd.mr).2.1), Ob tg10 (.cells #[.int .i64 ((l.length : Int)), .int .i64 (((tallN l.length) : Int)), .string ((rootS l).1), .map (some mg11)] 75 (0, 0)), Mp placeV Value.string placeOk mg11 (M2), Old w no, Big [], Ob g25 (.cells #[.int .i64 (dd.lv), .int .i64 (dd.ix), .int .i64 (dd.ct), .int .i64 (dd.mr), .bool dd.own, .slice dd.p1 dd.ls.length dd.c1, .slice dd.p2 dd.us.length dd.c2] 40 (0, 0))] := H60.absorbI (new := [Rw 9 1 p62 (giveS (tallN l.length) (getT l.length M2) dd.lv dd.ix dd.ct dd.mr).1.length c63 (stV (giveS (tallN l.length) (getT l.length M2) dd.lv dd.ix dd.ct dd.mr).1), Rw 9 1 p64 (giveS (tallN l.length) (getT l.length M2) dd.lv dd.ix dd.ct dd.mr).2.1.length c65 (stV (giveS (tallN l.length) (getT l.length M2) dd.lv dd.ix dd.ct dd.mr).2.1), Ob wg14 (.cells #[.int .i64 ((l.length : Int)), .int .i64 (((tallN l.length) : Int)), .map (some wm15)] 50 (0, 0)), Mp placeV Value.string placeOk wm15 (R2)]) [4, 5] H67
                refine b_ret rfl rfl ?_
                refine l_of (s_val (v := .tuple #[.slice p62 (giveS (tallN l.length) (getT l.length M2) dd.lv dd.ix dd.ct dd.mr).1.length c63, .slice p64 (giveS (tallN l.length) (getT l.length M2) dd.lv dd.ix dd.ct dd.mr).2.1.length c65, .int .i64 ((giveS (tallN l.length) (getT l.length M2) dd.lv dd.ix dd.ct dd.mr).2.2)]) (wt0 rfl) rfl rfl (x_move rfl rfl) ?_)
                refine l_of (s_val (v := .slice p62 (giveS (tallN l.length) (getT l.length M2) dd.lv dd.ix dd.ct dd.mr).1.length c63) (wt0 rfl) rfl rfl (x_extract rfl rfl rfl) ?_)
                refine l_of (s_val (v := .slice p64 (giveS (tallN l.length) (getT l.length M2) dd.lv dd.ix dd.ct dd.mr).2.1.length c65) (wt0 rfl) rfl rfl (x_extract rfl rfl rfl) ?_)
                refine l_of (s_val (v := .int .i64 ((giveS (tallN l.length) (getT l.length M2) dd.lv dd.ix dd.ct dd.mr).2.2)) (wt0 rfl) rfl rfl (x_extract rfl rfl rfl) ?_)
                refine l_of (s_val (v := .slice p62 (giveS (tallN l.length) (getT l.length M2) dd.lv dd.ix dd.ct dd.mr).1.length c63) (wt0 rfl) rfl rfl (x_assign rfl rfl) ?_)
                refine l_of (s_val (v := .slice p64 (giveS (tallN l.length) (getT l.length M2) dd.lv dd.ix dd.ct dd.mr).2.1.length c65) (wt0 rfl) rfl rfl (x_assign rfl rfl) ?_)
                refine l_of (s_val (v := .int .i64 ((giveS (tallN l.length) (getT l.length M2) dd.lv dd.ix dd.ct dd.mr).2.2)) (wt0 rfl) rfl rfl (x_assign rfl rfl) ?_)
                refine g_nil ?_
                refine g_then ?_
                refine g_weak [(0, .slice p l.length c), (11, .pointer (some ⟨tg10, 0, none⟩)), (12, .pointer (some ⟨wg14, 0, none⟩)), (19, .string ((getG l.length (tallN l.length) M2 dd.lv dd.ix).1)), (20, .int .i64 ((getG l.length (tallN l.length) M2 dd.lv dd.ix).2)), (21, .string ((getG l.length (tallN l.length) M2 dd.lv dd.ix).1)), (22, .int .i64 ((getG l.length (tallN l.length) M2 dd.lv dd.ix).2)), (23, .slice p55 (giveS (tallN l.length) (getT l.length M2) dd.lv dd.ix dd.ct dd.mr).1.length c56), (24, .slice p57 (giveS (tallN l.length) (getT l.length M2) dd.lv dd.ix dd.ct dd.mr).2.1.length c58), (25, .int .i64 ((giveS (tallN l.length) (getT l.length M2) dd.lv dd.ix dd.ct dd.mr).2.2)), (26, .slice p62 (giveS (tallN l.length) (getT l.length M2) dd.lv dd.ix dd.ct dd.mr).1.length c63), (27, .slice p64 (giveS (tallN l.length) (getT l.length M2) dd.lv dd.ix dd.ct dd.mr).2.1.length c65), (28, .int .i64 ((giveS (tallN l.length) (getT l.length M2) dd.lv dd.ix dd.ct dd.mr).2.2)), (106, .slice pd nd cd), (107, .int .i64 ((nd : Int))), (108, .int .i64 ((k : Int))), (162, .pointer (some ⟨tc40, 0, none⟩)), (163, .bool false)] ⟨rfl, rfl, rfl, rfl, rfl, rfl, rfl, rfl, rfl, rfl, rfl, rfl, rfl, rfl, rfl, rfl, rfl, rfl, trivial⟩ ?_
                refine g_seq ?_
                refine g_seq ?_
                refine g_region ?_
                refine l_of (s_val (v := .string ((getG l.length (tallN l.length) M2 dd.lv dd.ix).1)) (wt0 rfl) rfl rfl (x_move rfl rfl) ?_)
                refine l_of (s_val (v := .string ((getG l.length (tallN l.length) M2 dd.lv dd.ix).1)) (wt0 rfl) rfl rfl (x_move rfl rfl) ?_)
                refine l_of (s_val (v := .bool (!decide ((getG l.length (tallN l.length) M2 dd.lv dd.ix).1 = (getG l.length (tallN l.length) M2 dd.lv dd.ix).1))) (wt0 rfl) rfl rfl (x_bin rfl rfl rfl b_nes) ?_)
                refine l_of (s_val (v := .bool (!decide ((getG l.length (tallN l.length) M2 dd.lv dd.ix).1 = (getG l.length (tallN l.length) M2 dd.lv dd.ix).1))) (wt0 rfl) rfl rfl (x_move rfl rfl) ?_)
                refine l_of (s_val (v := .int .i64 ((getG l.length (tallN l.length) M2 dd.lv dd.ix).2)) (wt1 rfl rfl rfl rfl (nf rfl)) rfl rfl (x_move rfl rfl) ?_)
                refine l_of (s_val (v := .int .i64 ((getG l.length (tallN l.length) M2 dd.lv dd.ix).2)) (wt1 rfl rfl rfl rfl (nf rfl)) rfl rfl (x_move rfl rfl) ?_)
                refine l_of (s_val (v := .bool (!decide (((getG l.length (tallN l.length) M2 dd.lv dd.ix).2 : Int) = (getG l.length (tallN l.length) M2 dd.lv dd.ix).2))) (wt1 rfl rfl rfl rfl (nf rfl)) rfl rfl (x_bin rfl rfl rfl b_neq) ?_)
                refine l_of (s_val (v := .bool (!decide (((getG l.length (tallN l.length) M2 dd.lv dd.ix).2 : Int) = (getG l.length (tallN l.length) M2 dd.lv dd.ix).2))) (wt0 rfl) rfl rfl (x_pick_f rfl rfl (nf rfl) rfl) ?_)
                refine l_of (s_val (v := .bool (!decide (((getG l.length (tallN l.length) M2 dd.lv dd.ix).2 : Int) = (getG l.length (tallN l.length) M2 dd.lv dd.ix).2))) (wt0 rfl) rfl rfl (x_move rfl rfl) ?_)
                refine l_of (s_val (v := .slice p55 (giveS (tallN l.length) (getT l.length M2) dd.lv dd.ix dd.ct dd.mr).1.length c56) (wt1 rfl rfl rfl rfl (nf rfl)) rfl rfl (x_move rfl rfl) ?_)
                refine l_of (s_val (v := .slice p62 (giveS (tallN l.length) (getT l.length M2) dd.lv dd.ix dd.ct dd.mr).1.length c63) (wt1 rfl rfl rfl rfl (nf rfl)) rfl rfl (x_move rfl rfl) ?_)
                refine l_of (s_call (wt1 rfl rfl rfl rfl (nf rfl)) (x_call' rfl rfl cl21) (texts_same (giveS (tallN l.length) (getT l.length M2) dd.lv dd.ix dd.ct dd.mr).1 p55 p62 c56 c63 (by omega) _ (H67.rwReads (k := 4) rfl) (H67.rwReads (k := 0) rfl)) ?_)
                rintro _ wq68 ⟨rfl, H69⟩
                replace H69 : S wq68 [Rw 9 1 p62 (giveS (tallN l.length) (getT l.length M2) dd.lv dd.ix dd.ct dd.mr).1.length c63 (stV (giveS (tallN l.length) (getT l.length M2) dd.lv dd.ix dd.ct dd.mr).1), Rw 9 1 p64 (giveS (tallN l.length) (getT l.length M2) dd.lv dd.ix dd.ct dd.mr).2.1.length c65 (stV (giveS (tallN l.length) (getT l.length M2) dd.lv dd.ix dd.ct dd.mr).2.1), Ob wg14 (.cells #[.int .i64 ((l.length : Int)), .int .i64 (((tallN l.length) : Int)), .map (some wm15)] 50 (0, 0)), Mp placeV Value.string placeOk wm15 (R2), Rw 9 1 p55 (giveS (tallN l.length) (getT l.length M2) dd.lv dd.ix dd.ct dd.mr).1.length c56 (stV (giveS (tallN l.length) (getT l.length M2) dd.lv dd.ix dd.ct dd.mr).1), Rw 9 1 p57 (giveS (tallN l.length) (getT l.length M2) dd.lv dd.ix dd.ct dd.mr).2.1.length c58 (stV (giveS (tallN l.length) (getT l.length M2) dd.lv dd.ix dd.ct dd.mr).2.1), Ob tg10 (.cells #[.int .i64 ((l.length : Int)), .int .i64 (((tallN l.length) : Int)), .string ((rootS l).1), .map (some mg11)] 75 (0, 0)), Mp placeV Value.string placeOk mg11 (M2), Old w no, Big [], Ob g25 (.cells #[.int .i64 (dd.lv), .int .i64 (dd.ix), .int .i64 (dd.ct), .int .i64 (dd.mr), .bool dd.own, .slice dd.p1 dd.ls.length dd.c1, .slice dd.p2 dd.us.length dd.c2] 40 (0, 0))] := H67.absorb (new := []) H69
                refine b_ret rfl rfl ?_
                refine l_of (s_val (v := .bool false) (wt1 rfl rfl rfl rfl (nf rfl)) rfl rfl (x_not (b := true) rfl rfl) ?_)
                refine l_of (s_val (v := .bool false) (wt0 rfl) rfl rfl (x_pick_f rfl rfl (nf rfl) rfl) ?_)
                refine l_of (s_val (v := .bool false) (wt0 rfl) rfl rfl (x_move rfl rfl) ?_)
                refine l_of (s_val (v := .slice p57 (giveS (tallN l.length) (getT l.length M2) dd.lv dd.ix dd.ct dd.mr).2.1.length c58) (wt1 rfl rfl rfl rfl rfl) rfl rfl (x_move rfl rfl) ?_)
                refine l_of (s_val (v := .slice p64 (giveS (tallN l.length) (getT l.length M2) dd.lv dd.ix dd.ct dd.mr).2.1.length c65) (wt1 rfl rfl rfl rfl rfl) rfl rfl (x_move rfl rfl) ?_)
                refine l_of (s_call (wt1 rfl rfl rfl rfl rfl) (x_call' rfl rfl cl21) (texts_same (giveS (tallN l.length) (getT l.length M2) dd.lv dd.ix dd.ct dd.mr).2.1 p57 p64 c58 c65 (by omega) _ (H69.rwReads (k := 5) rfl) (H69.rwReads (k := 1) rfl)) ?_)
                rintro _ wq70 ⟨rfl, H71⟩
                replace H71 : S wq70 [Rw 9 1 p62 (giveS (tallN l.length) (getT l.length M2) dd.lv dd.ix dd.ct dd.mr).1.length c63 (stV (giveS (tallN l.length) (getT l.length M2) dd.lv dd.ix dd.ct dd.mr).1), Rw 9 1 p64 (giveS (tallN l.length) (getT l.length M2) dd.lv dd.ix dd.ct dd.mr).2.1.length c65 (stV (giveS (tallN l.length) (getT l.length M2) dd.lv dd.ix dd.ct dd.mr).2.1), Ob wg14 (.cells #[.int .i64 ((l.length : Int)), .int .i64 (((tallN l.length) : Int)), .map (some wm15)] 50 (0, 0)), Mp placeV Value.string placeOk wm15 (R2), Rw 9 1 p55 (giveS (tallN l.length) (getT l.length M2) dd.lv dd.ix dd.ct dd.mr).1.length c56 (stV (giveS (tallN l.length) (getT l.length M2) dd.lv dd.ix dd.ct dd.mr).1), Rw 9 1 p57 (giveS (tallN l.length) (getT l.length M2) dd.lv dd.ix dd.ct dd.mr).2.1.length c58 (stV (giveS (tallN l.length) (getT l.length M2) dd.lv dd.ix dd.ct dd.mr).2.1), Ob tg10 (.cells #[.int .i64 ((l.length : Int)), .int .i64 (((tallN l.length) : Int)), .string ((rootS l).1), .map (some mg11)] 75 (0, 0)), Mp placeV Value.string placeOk mg11 (M2), Old w no, Big [], Ob g25 (.cells #[.int .i64 (dd.lv), .int .i64 (dd.ix), .int .i64 (dd.ct), .int .i64 (dd.mr), .bool dd.own, .slice dd.p1 dd.ls.length dd.c1, .slice dd.p2 dd.us.length dd.c2] 40 (0, 0))] := H69.absorb (new := []) H71
                refine b_ret rfl rfl ?_
                refine l_of (s_val (v := .bool false) (wt1 rfl rfl rfl rfl rfl) rfl rfl (x_not (b := true) rfl rfl) ?_)
                refine l_of (s_val (v := .bool false) (wt0 rfl) rfl rfl (x_pick_f rfl rfl rfl rfl) ?_)
                refine l_of (s_val (v := .bool false) (wt0 rfl) rfl rfl (x_move rfl rfl) ?_)
                refine l_of (s_val (v := .int .i64 ((giveS (tallN l.length) (getT l.length M2) dd.lv dd.ix dd.ct dd.mr).2.2)) (wt1 rfl rfl rfl rfl rfl) rfl rfl (x_move rfl rfl) ?_)
                refine l_of (s_val (v := .int .i64 ((giveS (tallN l.length) (getT l.length M2) dd.lv dd.ix dd.ct dd.mr).2.2)) (wt1 rfl rfl rfl rfl rfl) rfl rfl (x_move rfl rfl) ?_)
                refine l_of (s_val (v := .bool (!decide (((giveS (tallN l.length) (getT l.length M2) dd.lv dd.ix dd.ct dd.mr).2.2 : Int) = (giveS (tallN l.length) (getT l.length M2) dd.lv dd.ix dd.ct dd.mr).2.2))) (wt1 rfl rfl rfl rfl rfl) rfl rfl (x_bin rfl rfl rfl b_neq) ?_)
                refine l_of (s_val (v := .bool (!decide (((giveS (tallN l.length) (getT l.length M2) dd.lv dd.ix dd.ct dd.mr).2.2 : Int) = (giveS (tallN l.length) (getT l.length M2) dd.lv dd.ix dd.ct dd.mr).2.2))) (wt0 rfl) rfl rfl (x_pick_f rfl rfl rfl rfl) ?_)
                refine g_nil ?_
                refine g_then ?_
                refine g_weak [(0, .slice p l.length c), (11, .pointer (some ⟨tg10, 0, none⟩)), (12, .pointer (some ⟨wg14, 0, none⟩)), (106, .slice pd nd cd), (107, .int .i64 ((nd : Int))), (108, .int .i64 ((k : Int))), (162, .pointer (some ⟨tc40, 0, none⟩)), (163, .bool false), (235, .bool (!decide (((giveS (tallN l.length) (getT l.length M2) dd.lv dd.ix dd.ct dd.mr).2.2 : Int) = (giveS (tallN l.length) (getT l.length M2) dd.lv dd.ix dd.ct dd.mr).2.2)))] ⟨rfl, rfl, rfl, rfl, rfl, rfl, rfl, rfl, rfl, trivial⟩ ?_
                refine g_cond_f rfl (nf rfl) ?_
                refine g_skip ?_
                refine g_then ?_
                refine g_seq ?_
                refine g_region ?_
                refine l_of (s_val (v := .int .i64 (-1)) (wt0 rfl) rfl rfl (x_assign rfl rfl) ?_)
                refine g_nil ?_
                refine g_then ?_
                refine g_block ?_
                refine g_loop (ι := Int) (fun x => [(0, .slice p l.length c), (11, .pointer (some ⟨tg10, 0, none⟩)), (12, .pointer (some ⟨wg14, 0, none⟩)), (29, .int .i64 x), (106, .slice pd nd cd), (107, .int .i64 ((nd : Int))), (108, .int .i64 ((k : Int))), (162, .pointer (some ⟨tc40, 0, none⟩)), (163, .bool false)]) (fun x wx => (-1 ≤ x ∧ x ≤ ((tallN l.length) : Int) + 2) ∧ S wx [Ob tg10 (.cells #[.int .i64 ((l.length : Int)), .int .i64 (((tallN l.length) : Int)), .string ((rootS l).1), .map (some mg11)] 75 (0, 0)), Mp placeV Value.string placeOk mg11 (M2), Ob wg14 (.cells #[.int .i64 ((l.length : Int)), .int .i64 (((tallN l.length) : Int)), .map (some wm15)] 50 (0, 0)), Mp placeV Value.string placeOk wm15 (R2), Old w no]) (fun x => (((tallN l.length) : Int) + 2 - x).toNat) ((-1)) ⟨rfl, rfl, rfl, rfl, rfl, rfl, rfl, rfl, rfl, trivial⟩ ⟨(by omega), (H71.takes [6, 7, 2, 3, 8] (by decide))⟩ ?_
                rintro x wq72 ⟨hx, H73⟩
                replace H73 : S wq72 [Ob tg10 (.cells #[.int .i64 ((l.length : Int)), .int .i64 (((tallN l.length) : Int)), .string ((rootS l).1), .map (some mg11)] 75 (0, 0)), Mp placeV Value.string placeOk mg11 (M2), Ob wg14 (.cells #[.int .i64 ((l.length : Int)), .int .i64 (((tallN l.length) : Int)), .map (some wm15)] 50 (0, 0)), Mp placeV Value.string placeOk wm15 (R2), Old w no] := H73
                refine g_weak [(0, .slice p l.length c), (11, .pointer (some ⟨tg10, 0, none⟩)), (12, .pointer (some ⟨wg14, 0, none⟩)), (29, .int .i64 x), (106, .slice pd nd cd), (107, .int .i64 ((nd : Int))), (108, .int .i64 ((k : Int))), (162, .pointer (some ⟨tc40, 0, none⟩)), (163, .bool false)] ⟨rfl, rfl, rfl, rfl, rfl, rfl, rfl, rfl, rfl, trivial⟩ ?_
                refine g_seq ?_
                refine g_seq ?_
                refine g_region ?_
                refine l_of (s_val (v := .int .i64 x) (wt0 rfl) rfl rfl (x_move rfl rfl) ?_)
                refine l_of (s_val (v := .pointer (some ⟨wg14, 0, none⟩)) (wt0 rfl) rfl rfl (x_move rfl rfl) ?_)
                refine l_of (s_val (v := .pointer (some ⟨wg14, 0, none⟩)) (wt0 rfl) rfl rfl (x_nilCheck rfl rfl) ?_)
                refine l_of (s_val (v := .pointer (some ⟨wg14, 1, none⟩)) (wt0 rfl) rfl rfl (x_fieldAddr rfl rfl fo50_1 rfl) ?_)
                refine l_of (s_val (v := .int .i64 (((tallN l.length) : Int))) (wt0 rfl) rfl rfl (x_load1 H73 2 rfl rfl Tryz.underlying3 rfl rfl rfl) ?_)
                refine l_of (s_val (v := .int .i64 (((tallN l.length) : Int) + 1)) (wt0 rfl) rfl rfl (x_bin rfl rfl rfl (b_add (w64 (by omega)))) ?_)
                refine l_of (s_val (v := .bool (decide ((x : Int) ≤ ((tallN l.length) : Int) + 1))) (wt0 rfl) rfl rfl (x_bin rfl rfl rfl b_leq) ?_)
                refine g_nil ?_
                refine g_then ?_
                by_cases hb74 : (x : Int) ≤ ((tallN l.length) : Int) + 1
                · skip
                  refine g_cond_t rfl (decide_eq_true hb74) ?_
                  refine g_skip ?_
                  refine g_then ?_
                  refine g_seq ?_
                  refine g_block ?_
                  refine g_seq ?_
                  refine g_region ?_
                  refine l_of (s_val (v := .pointer (some ⟨tg10, 0, none⟩)) (wt0 rfl) rfl rfl (x_move rfl rfl) ?_)
                  refine l_of (s_val (v := .int .i64 x) (wt0 rfl) rfl rfl (x_move rfl rfl) ?_)
                  have hml := miss_len2 (n := l.length) (h := (tallN l.length)) (M := M2) (v := x) hc1 hc2
                  refine l_of (s_call (wt0 rfl) (x_call' rfl rfl cl22) (missing_s tg10 mg11 l.length (tallN l.length) (rootS l).1 (M2) x hc1 hc2 ht12 _ (H73.takes [0, 1] (by decide))) ?_)
                  rintro _ wq77 ⟨p75, c76, rfl, H78⟩
                  replace H78 : S wq77 [Rw 3 1 p75 (missT l.length (tallN l.length) M2 x).1.length c76 (intV (missT l.length (tallN l.length) M2 x).1), Ob tg10 (.cells #[.int .i64 ((l.length : Int)), .int .i64 (((tallN l.length) : Int)), .string ((rootS l).1), .map (some mg11)] 75 (0, 0)), Mp placeV Value.string placeOk mg11 (M2), Ob wg14 (.cells #[.int .i64 ((l.length : Int)), .int .i64 (((tallN l.length) : Int)), .map (some wm15)] 50 (0, 0)), Mp placeV Value.string placeOk wm15 (R2), Old w no] := H73.absorbI (new := [Rw 3 1 p75 (missT l.length (tallN l.length) M2 x).1.length c76 (intV (missT l.length (tallN l.length) M2 x).1), Ob tg10 (.cells #[.int .i64 ((l.length : Int)), .int .i64 (((tallN l.length) : Int)), .string ((rootS l).1), .map (some mg11)] 75 (0, 0)), Mp placeV Value.string placeOk mg11 (M2)]) [0, 1] H78
                  refine b_ret rfl rfl ?_
                  refine l_of (s_val (v := .tuple #[.slice p75 (missT l.length (tallN l.length) M2 x).1.length c76, .int .i64 ((missT l.length (tallN l.length) M2 x).2)]) (wt0 rfl) rfl rfl (x_move rfl rfl) ?_)
                  refine l_of (s_val (v := .slice p75 (missT l.length (tallN l.length) M2 x).1.length c76) (wt0 rfl) rfl rfl (x_extract rfl rfl rfl) ?_)
                  refine l_of (s_val (v := .int .i64 ((missT l.length (tallN l.length) M2 x).2)) (wt0 rfl) rfl rfl (x_extract rfl rfl rfl) ?_)
                  refine l_of (s_val (v := .slice p75 (missT l.length (tallN l.length) M2 x).1.length c76) (wt0 rfl) rfl rfl (x_assign rfl rfl) ?_)
                  refine l_of (s_val (v := .int .i64 ((missT l.length (tallN l.length) M2 x).2)) (wt0 rfl) rfl rfl (x_assign rfl rfl) ?_)
                  refine g_nil ?_
                  refine g_then ?_
                  refine g_weak [(0, .slice p l.length c), (11, .pointer (some ⟨tg10, 0, none⟩)), (12, .pointer (some ⟨wg14, 0, none⟩)), (29, .int .i64 x), (30, .slice p75 (missT l.length (tallN l.length) M2 x).1.length c76), (31, .int .i64 ((missT l.length (tallN l.length) M2 x).2)), (106, .slice pd nd cd), (107, .int .i64 ((nd : Int))), (108, .int .i64 ((k : Int))), (162, .pointer (some ⟨tc40, 0, none⟩)), (163, .bool false)] ⟨rfl, rfl, rfl, rfl, rfl, rfl, rfl, rfl, rfl, rfl, rfl, trivial⟩ ?_
                  refine g_seq ?_
                  refine g_region ?_
                  refine l_of (s_val (v := .pointer (some ⟨wg14, 0, none⟩)) (wt0 rfl) rfl rfl (x_move rfl rfl) ?_)
                  refine l_of (s_val (v := .int .i64 x) (wt0 rfl) rfl rfl (x_move rfl rfl) ?_)
                  have hmr79 := missing_r wg14 wm15 l.length (tallN l.length) R2 x hc1 hc2 ht12 wq77 (H78.takes [3, 4] (by decide))
                  rw [alike_miss hce hA2] at hmr79
                  refine l_of (s_call (wt0 rfl) (x_call' rfl rfl cl23) (hmr79) ?_)
                  rintro _ wq82 ⟨p80, c81, rfl, H83⟩
                  replace H83 : S wq82 [Rw 3 1 p80 (missT l.length (tallN l.length) M2 x).1.length c81 (intV (missT l.length (tallN l.length) M2 x).1), Ob wg14 (.cells #[.int .i64 ((l.length : Int)), .int .i64 (((tallN l.length) : Int)), .map (some wm15)] 50 (0, 0)), Mp placeV Value.string placeOk wm15 (R2), Rw 3 1 p75 (missT l.length (tallN l.length) M2 x).1.length c76 (intV (missT l.length (tallN l.length) M2 x).1), Ob tg10 (.cells #[.int .i64 ((l.length : Int)), .int .i64 (((tallN l.length) : Int)), .string ((rootS l).1), .map (some mg11)] 75 (0, 0)), Mp placeV Value.string placeOk mg11 (M2), Old w no] := H78.absorbI (new := [Rw 3 1 p80 (missT l.length (tallN l.length) M2 x).1.length c81 (intV (missT l.length (tallN l.length) M2 x).1), Ob wg14 (.cells #[.int .i64 ((l.length : Int)), .int .i64 (((tallN l.length) : Int)), .map (some wm15)] 50 (0, 0)), Mp placeV Value.string placeOk wm15 (R2)]) [3, 4] H83
                  refine b_ret rfl rfl ?_
                  refine l_of (s_val (v := .tuple #[.slice p80 (missT l.length (tallN l.length) M2 x).1.length c81, .int .i64 ((missT l.length (tallN l.length) M2 x).2)]) (wt0 rfl) rfl rfl (x_move rfl rfl) ?_)
                  refine l_of (s_val (v := .slice p80 (missT l.length (tallN l.length) M2 x).1.length c81) (wt0 rfl) rfl rfl (x_extract rfl rfl rfl) ?_)
                  refine l_of (s_val (v := .int .i64 ((missT l.length (tallN l.length) M2 x).2)) (wt0 rfl) rfl rfl (x_extract rfl rfl rfl) ?_)
                  refine l_of (s_val (v := .slice p80 (missT l.length (tallN l.length) M2 x).1.length c81) (wt0 rfl) rfl rfl (x_assign rfl rfl) ?_)
                  refine l_of (s_val (v := .int .i64 ((missT l.length (tallN l.length) M2 x).2)) (wt0 rfl) rfl rfl (x_assign rfl rfl) ?_)
                  refine g_nil ?_
                  refine g_then ?_
                  refine g_seq ?_
                  refine g_region ?_
                  refine l_of (s_val (v := .pointer (some ⟨tg10, 0, none⟩)) (wt0 rfl) rfl rfl (x_move rfl rfl) ?_)
                  refine l_of (s_val (v := .int .i64 x) (wt0 rfl) rfl rfl (x_move rfl rfl) ?_)
                  have hkn84 := known_s tg10 mg11 l.length (tallN l.length) (rootS l).1 (M2) x hc1 hc2 ht12 wq82 (H83.takes [4, 5] (by decide))
                  rw [known_snd] at hkn84
                  refine l_of (s_call (wt0 rfl) (x_call' rfl rfl cl24) (hkn84) ?_)
                  rintro _ wq85 ⟨rfl, H86⟩
                  replace H86 : S wq85 [Ob tg10 (.cells #[.int .i64 ((l.length : Int)), .int .i64 (((tallN l.length) : Int)), .string ((rootS l).1), .map (some mg11)] 75 (0, 0)), Mp placeV Value.string placeOk mg11 (M2), Rw 3 1 p80 (missT l.length (tallN l.length) M2 x).1.length c81 (intV (missT l.length (tallN l.length) M2 x).1), Ob wg14 (.cells #[.int .i64 ((l.length : Int)), .int .i64 (((tallN l.length) : Int)), .map (some wm15)] 50 (0, 0)), Mp placeV Value.string placeOk wm15 (R2), Rw 3 1 p75 (missT l.length (tallN l.length) M2 x).1.length c76 (intV (missT l.length (tallN l.length) M2 x).1), Old w no] := H83.absorbI (new := [Ob tg10 (.cells #[.int .i64 ((l.length : Int)), .int .i64 (((tallN l.length) : Int)), .string ((rootS l).1), .map (some mg11)] 75 (0, 0)), Mp placeV Value.string placeOk mg11 (M2)]) [4, 5] H86
                  refine b_ret rfl rfl ?_
                  refine l_of (s_val (v := .tuple #[.int .i64 ((knownT l.length (tallN l.length) M2 x).1), .int .i64 ((missT l.length (tallN l.length) M2 x).2)]) (wt0 rfl) rfl rfl (x_move rfl rfl) ?_)
                  refine l_of (s_val (v := .int .i64 ((knownT l.length (tallN l.length) M2 x).1)) (wt0 rfl) rfl rfl (x_extract rfl rfl rfl) ?_)
                  refine l_of (s_val (v := .int .i64 ((missT l.length (tallN l.length) M2 x).2)) (wt0 rfl) rfl rfl (x_extract rfl rfl rfl) ?_)
                  refine l_of (s_val (v := .int .i64 ((knownT l.length (tallN l.length) M2 x).1)) (wt0 rfl) rfl rfl (x_assign rfl rfl) ?_)
                  refine l_of (s_val (v := .int .i64 ((missT l.length (tallN l.length) M2 x).2)) (wt0 rfl) rfl rfl (x_assign rfl rfl) ?_)
                  refine g_nil ?_
                  refine g_then ?_
                  refine g_weak [(0, .slice p l.length c), (11, .pointer (some ⟨tg10, 0, none⟩)), (12, .pointer (some ⟨wg14, 0, none⟩)), (29, .int .i64 x), (30, .slice p75 (missT l.length (tallN l.length) M2 x).1.length c76), (31, .int .i64 ((missT l.length (tallN l.length) M2 x).2)), (32, .slice p80 (missT l.length (tallN l.length) M2 x).1.length c81), (33, .int .i64 ((missT l.length (tallN l.length) M2 x).2)), (34, .int .i64 ((knownT l.length (tallN l.length) M2 x).1)), (35, .int .i64 ((missT l.length (tallN l.length) M2 x).2)), (106, .slice pd nd cd), (107, .int .i64 ((nd : Int))), (108, .int .i64 ((k : Int))), (162, .pointer (some ⟨tc40, 0, none⟩)), (163, .bool false)] ⟨rfl, rfl, rfl, rfl, rfl, rfl, rfl, rfl, rfl, rfl, rfl, rfl, rfl, rfl, rfl, trivial⟩ ?_
                  refine g_seq ?_
                  refine g_seq ?_
                  refine g_region ?_
                  refine l_of (s_val (v := .slice p75 (missT l.length (tallN l.length) M2 x).1.length c76) (wt0 rfl) rfl rfl (x_move rfl rfl) ?_)
                  refine l_of (s_val (v := .int .i64 (((missT l.length (tallN l.length) M2 x).1.length : Int))) (wt0 rfl) rfl rfl (x_lenl rfl rfl Tryz.underlying51) ?_)
                  refine l_of (s_val (v := .slice p80 (missT l.length (tallN l.length) M2 x).1.length c81) (wt0 rfl) rfl rfl (x_move rfl rfl) ?_)
                  refine l_of (s_val (v := .int .i64 (((missT l.length (tallN l.length) M2 x).1.length : Int))) (wt0 rfl) rfl rfl (x_lenl rfl rfl Tryz.underlying51) ?_)
                  refine l_of (s_val (v := .bool (!decide ((((missT l.length (tallN l.length) M2 x).1.length : Int) : Int) = ((missT l.length (tallN l.length) M2 x).1.length : Int)))) (wt0 rfl) rfl rfl (x_bin rfl rfl rfl b_neq) ?_)
                  refine l_of (s_val (v := .bool (!decide ((((missT l.length (tallN l.length) M2 x).1.length : Int) : Int) = ((missT l.length (tallN l.length) M2 x).1.length : Int)))) (wt0 rfl) rfl rfl (x_move rfl rfl) ?_)
                  refine l_of (s_val (v := .int .i64 ((missT l.length (tallN l.length) M2 x).2)) (wt1 rfl rfl rfl rfl (nf rfl)) rfl rfl (x_move rfl rfl) ?_)
                  refine l_of (s_val (v := .int .i64 ((missT l.length (tallN l.length) M2 x).2)) (wt1 rfl rfl rfl rfl (nf rfl)) rfl rfl (x_move rfl rfl) ?_)
                  refine l_of (s_val (v := .bool (!decide (((missT l.length (tallN l.length) M2 x).2 : Int) = (missT l.length (tallN l.length) M2 x).2))) (wt1 rfl rfl rfl rfl (nf rfl)) rfl rfl (x_bin rfl rfl rfl b_neq) ?_)
                  refine l_of (s_val (v := .bool (!decide (((missT l.length (tallN l.length) M2 x).2 : Int) = (missT l.length (tallN l.length) M2 x).2))) (wt0 rfl) rfl rfl (x_pick_f rfl rfl (nf rfl) rfl) ?_)
                  refine l_of (s_val (v := .bool (!decide (((missT l.length (tallN l.length) M2 x).2 : Int) = (missT l.length (tallN l.length) M2 x).2))) (wt0 rfl) rfl rfl (x_move rfl rfl) ?_)
                  refine l_of (s_val (v := .int .i64 ((missT l.length (tallN l.length) M2 x).2)) (wt1 rfl rfl rfl rfl (nf rfl)) rfl rfl (x_move rfl rfl) ?_)
                  refine l_of (s_val (v := .int .i64 ((missT l.length (tallN l.length) M2 x).2)) (wt1 rfl rfl rfl rfl (nf rfl)) rfl rfl (x_move rfl rfl) ?_)
                  refine l_of (s_val (v := .bool (!decide (((missT l.length (tallN l.length) M2 x).2 : Int) = (missT l.length (tallN l.length) M2 x).2))) (wt1 rfl rfl rfl rfl (nf rfl)) rfl rfl (x_bin rfl rfl rfl b_neq) ?_)
                  refine l_of (s_val (v := .bool (!decide (((missT l.length (tallN l.length) M2 x).2 : Int) = (missT l.length (tallN l.length) M2 x).2))) (wt0 rfl) rfl rfl (x_pick_f rfl rfl (nf rfl) rfl) ?_)
                  refine l_of (s_val (v := .bool (!decide (((missT l.length (tallN l.length) M2 x).2 : Int) = (missT l.length (tallN l.length) M2 x).2))) (wt0 rfl) rfl rfl (x_move rfl rfl) ?_)
                  refine l_of (s_val (v := .int .i64 ((missT l.length (tallN l.length) M2 x).2)) (wt1 rfl rfl rfl rfl (nf rfl)) rfl rfl (x_move rfl rfl) ?_)
                  refine l_of (s_val (v := .bool (decide (((missT l.length (tallN l.length) M2 x).2 : Int) = 0))) (wt1 rfl rfl rfl rfl (nf rfl)) rfl rfl (x_bin rfl rfl rfl b_eql) ?_)
                  refine l_of (s_val (v := .bool (decide (((missT l.length (tallN l.length) M2 x).2 : Int) = 0))) (wt1 rfl rfl rfl rfl (nf rfl)) rfl rfl (x_move rfl rfl) ?_)
                  by_cases hb87 : ((missT l.length (tallN l.length) M2 x).2 : Int) = 0
                  · skip
                    refine l_of (s_val (v := .int .i64 ((knownT l.length (tallN l.length) M2 x).1)) (wt1 rfl rfl rfl rfl (decide_eq_true hb87)) rfl rfl (x_move rfl rfl) ?_)
                    refine l_of (s_val (v := .pointer (some ⟨wg14, 0, none⟩)) (wt1 rfl rfl rfl rfl (decide_eq_true hb87)) rfl rfl (x_move rfl rfl) ?_)
                    refine l_of (s_val (v := .pointer (some ⟨wg14, 0, none⟩)) (wt1 rfl rfl rfl rfl (decide_eq_true hb87)) rfl rfl (x_nilCheck rfl rfl) ?_)
                    refine l_of (s_val (v := .pointer (some ⟨wg14, 0, none⟩)) (wt1 rfl rfl rfl rfl (decide_eq_true hb87)) rfl rfl (x_fieldAddr rfl rfl fo50_0 rfl) ?_)
                    refine l_of (s_val (v := .int .i64 ((l.length : Int))) (wt1 rfl rfl rfl rfl (decide_eq_true hb87)) rfl rfl (x_load1 H86 3 rfl rfl Tryz.underlying3 rfl rfl rfl) ?_)
                    refine l_of (s_val (v := .int .i64 x) (wt1 rfl rfl rfl rfl (decide_eq_true hb87)) rfl rfl (x_move rfl rfl) ?_)
                    obtain ⟨kf1, kf2, kf3⟩ := known_fst hb87
                    have hcl2 := count_n1 (n := l.length) (v := x.toNat) hc1
                    have hcn88 := count_r l.length x.toNat hc1 (by omega) (by omega) wq85
                    rw [show ((x.toNat : Nat) : Int) = x from by omega] at hcn88
                    refine l_of (s_call (wt1 rfl rfl rfl rfl (decide_eq_true hb87)) (x_call' rfl rfl cl25) (hcn88) ?_)
                    rintro _ wq89 ⟨rfl, H90⟩
                    replace H90 : S wq89 [Ob tg10 (.cells #[.int .i64 ((l.length : Int)), .int .i64 (((tallN l.length) : Int)), .string ((rootS l).1), .map (some mg11)] 75 (0, 0)), Mp placeV Value.string placeOk mg11 (M2), Rw 3 1 p80 (missT l.length (tallN l.length) M2 x).1.length c81 (intV (missT l.length (tallN l.length) M2 x).1), Ob wg14 (.cells #[.int .i64 ((l.length : Int)), .int .i64 (((tallN l.length) : Int)), .map (some wm15)] 50 (0, 0)), Mp placeV Value.string placeOk wm15 (R2), Rw 3 1 p75 (missT l.length (tallN l.length) M2 x).1.length c76 (intV (missT l.length (tallN l.length) M2 x).1), Old w no] := H86.absorb (new := []) H90
                    refine b_ret rfl rfl ?_
                    refine l_of (s_val (v := .slice p80 (missT l.length (tallN l.length) M2 x).1.length c81) (wt1 rfl rfl rfl rfl (decide_eq_true hb87)) rfl rfl (x_move rfl rfl) ?_)
                    refine l_of (s_val (v := .int .i64 (((missT l.length (tallN l.length) M2 x).1.length : Int))) (wt1 rfl rfl rfl rfl (decide_eq_true hb87)) rfl rfl (x_lenl rfl rfl Tryz.underlying51) ?_)
                    refine l_of (s_val (v := .int .i64 ((countN l.length x.toNat : Int) - ((missT l.length (tallN l.length) M2 x).1.length : Int))) (wt1 rfl rfl rfl rfl (decide_eq_true hb87)) rfl rfl (x_bin rfl rfl rfl (b_sub (w64 (by omega)))) ?_)
                    refine l_of (s_val (v := .bool (!decide (((knownT l.length (tallN l.length) M2 x).1 : Int) = (countN l.length x.toNat : Int) - ((missT l.length (tallN l.length) M2 x).1.length : Int)))) (wt1 rfl rfl rfl rfl (decide_eq_true hb87)) rfl rfl (x_bin rfl rfl rfl b_neq) ?_)
                    refine l_of (s_val (v := .bool (!decide (((knownT l.length (tallN l.length) M2 x).1 : Int) = (countN l.length x.toNat : Int) - ((missT l.length (tallN l.length) M2 x).1.length : Int)))) (wt1 rfl rfl rfl rfl (nf rfl)) rfl rfl (x_pick_t rfl rfl (decide_eq_true hb87) rfl) ?_)
                    refine l_of (s_val (v := .bool (!decide (((knownT l.length (tallN l.length) M2 x).1 : Int) = (countN l.length x.toNat : Int) - ((missT l.length (tallN l.length) M2 x).1.length : Int)))) (wt0 rfl) rfl rfl (x_pick_f rfl rfl (nf rfl) rfl) ?_)
                    refine g_nil ?_
                    refine g_then ?_
                    refine g_weak [(0, .slice p l.length c), (11, .pointer (some ⟨tg10, 0, none⟩)), (12, .pointer (some ⟨wg14, 0, none⟩)), (29, .int .i64 x), (30, .slice p75 (missT l.length (tallN l.length) M2 x).1.length c76), (32, .slice p80 (missT l.length (tallN l.length) M2 x).1.length c81), (106, .slice pd nd cd), (107, .int .i64 ((nd : Int))), (108, .int .i64 ((k : Int))), (162, .pointer (some ⟨tc40, 0, none⟩)), (163, .bool false), (294, .bool (!decide (((knownT l.length (tallN l.length) M2 x).1 : Int) = (countN l.length x.toNat : Int) - ((missT l.length (tallN l.length) M2 x).1.length : Int))))] ⟨rfl, rfl, rfl, rfl, rfl, rfl, rfl, rfl, rfl, rfl, rfl, rfl, trivial⟩ ?_
                    by_cases hb91 : ((knownT l.length (tallN l.length) M2 x).1 : Int) = (countN l.length x.toNat : Int) - ((missT l.length (tallN l.length) M2 x).1.length : Int)
                    · skip
                      refine g_cond_f rfl (nf hb91) ?_
                      refine g_skip ?_
                      refine g_then ?_
                      refine g_seq ?_
                      refine g_region ?_
                      refine l_of (s_val (v := .slice p75 (missT l.length (tallN l.length) M2 x).1.length c76) (wt0 rfl) rfl rfl (x_move rfl rfl) ?_)
                      refine l_of (s_val (v := .int .i64 (((missT l.length (tallN l.length) M2 x).1.length : Int))) (wt0 rfl) rfl rfl (x_lenl rfl rfl Tryz.underlying51) ?_)
                      refine l_of (s_val (v := .int .i64 0) (wt0 rfl) rfl rfl (x_move rfl rfl) ?_)
                      refine g_nil ?_
                      refine g_then ?_
                      refine g_block ?_
                      refine g_loop (ι := Nat) (fun jj => [(0, .slice p l.length c), (11, .pointer (some ⟨tg10, 0, none⟩)), (12, .pointer (some ⟨wg14, 0, none⟩)), (29, .int .i64 x), (30, .slice p75 (missT l.length (tallN l.length) M2 x).1.length c76), (32, .slice p80 (missT l.length (tallN l.length) M2 x).1.length c81), (106, .slice pd nd cd), (107, .int .i64 ((nd : Int))), (108, .int .i64 ((k : Int))), (162, .pointer (some ⟨tc40, 0, none⟩)), (163, .bool false), (296, .int .i64 (((missT l.length (tallN l.length) M2 x).1.length : Int))), (297, .int .i64 ((jj : Int)))]) (fun jj wx => (jj ≤ (missT l.length (tallN l.length) M2 x).1.length) ∧ S wx [Ob tg10 (.cells #[.int .i64 ((l.length : Int)), .int .i64 (((tallN l.length) : Int)), .string ((rootS l).1), .map (some mg11)] 75 (0, 0)), Mp placeV Value.string placeOk mg11 (M2), Rw 3 1 p80 (missT l.length (tallN l.length) M2 x).1.length c81 (intV (missT l.length (tallN l.length) M2 x).1), Ob wg14 (.cells #[.int .i64 ((l.length : Int)), .int .i64 (((tallN l.length) : Int)), .map (some wm15)] 50 (0, 0)), Mp placeV Value.string placeOk wm15 (R2), Rw 3 1 p75 (missT l.length (tallN l.length) M2 x).1.length c76 (intV (missT l.length (tallN l.length) M2 x).1), Old w no]) (fun jj => (missT l.length (tallN l.length) M2 x).1.length - jj) (0) ⟨rfl, rfl, rfl, rfl, rfl, rfl, rfl, rfl, rfl, rfl, rfl, rfl, rfl, trivial⟩ ⟨Nat.zero_le _, H90⟩ ?_
                      rintro jj wq92 ⟨hj, H93⟩
                      replace H93 : S wq92 [Ob tg10 (.cells #[.int .i64 ((l.length : Int)), .int .i64 (((tallN l.length) : Int)), .string ((rootS l).1), .map (some mg11)] 75 (0, 0)), Mp placeV Value.string placeOk mg11 (M2), Rw 3 1 p80 (missT l.length (tallN l.length) M2 x).1.length c81 (intV (missT l.length (tallN l.length) M2 x).1), Ob wg14 (.cells #[.int .i64 ((l.length : Int)), .int .i64 (((tallN l.length) : Int)), .map (some wm15)] 50 (0, 0)), Mp placeV Value.string placeOk wm15 (R2), Rw 3 1 p75 (missT l.length (tallN l.length) M2 x).1.length c76 (intV (missT l.length (tallN l.length) M2 x).1), Old w no] := H93
                      refine g_weak [(0, .slice p l.length c), (11, .pointer (some ⟨tg10, 0, none⟩)), (12, .pointer (some ⟨wg14, 0, none⟩)), (29, .int .i64 x), (30, .slice p75 (missT l.length (tallN l.length) M2 x).1.length c76), (32, .slice p80 (missT l.length (tallN l.length) M2 x).1.length c81), (106, .slice pd nd cd), (107, .int .i64 ((nd : Int))), (108, .int .i64 ((k : Int))), (162, .pointer (some ⟨tc40, 0, none⟩)), (163, .bool false), (296, .int .i64 (((missT l.length (tallN l.length) M2 x).1.length : Int))), (297, .int .i64 ((jj : Int)))] ⟨rfl, rfl, rfl, rfl, rfl, rfl, rfl, rfl, rfl, rfl, rfl, rfl, rfl, trivial⟩ ?_
                      refine g_seq ?_
                      refine g_region ?_
                      refine l_of (s_val (v := .bool (decide (((jj : Int) : Int) < ((missT l.length (tallN l.length) M2 x).1.length : Int)))) (wt0 rfl) rfl rfl (x_bin rfl rfl rfl b_lss) ?_)
                      refine g_nil ?_
                      refine g_then ?_
                      refine g_seq ?_
                      by_cases hb94 : ((jj : Int) : Int) < ((missT l.length (tallN l.length) M2 x).1.length : Int)
                      · skip
                        have hsm95 : ∃ a, p75 = some a := ((H93.rwReads (k := 5) rfl).2.2 (by omega)).imp fun _ h => h.1
                        have hsm96 : ∃ a, p80 = some a := ((H93.rwReads (k := 2) rfl).2.2 (by omega)).imp fun _ h => h.1
                        refine g_cond_t rfl (decide_eq_true hb94) ?_
                        refine g_skip ?_
                        refine g_then ?_
                        refine g_seq ?_
                        refine g_block ?_
                        refine g_seq ?_
                        refine g_region ?_
                        refine l_of (s_val (v := .int .i64 ((jj : Int))) (wt0 rfl) rfl rfl (x_move rfl rfl) ?_)
                        refine l_of (s_val (v := .int .i64 ((jj : Int))) (wt0 rfl) rfl rfl (x_assign rfl rfl) ?_)
                        refine g_nil ?_
                        refine g_then ?_
                        refine g_seq ?_
                        refine g_quiet (by kernel_rfl) (by kernel_rfl) H93 ?_
                        refine q_val (v := .slice p75 (missT l.length (tallN l.length) M2 x).1.length c76) (wt0 rfl) rfl rfl (fun wx H => x_move rfl rfl) ?_
                        refine q_val (v := .int .i64 ((jj : Int))) (wt0 rfl) rfl rfl (fun wx H => x_move rfl rfl) ?_
                        refine q_val (v := .pointer ((p75).map fun q => q.add (jj * 1))) (wt0 rfl) rfl rfl (fun wx H => x_idxP jj (hsm95) rfl rfl rfl Tryz.underlying51 sz3 (by omega)) ?_
                        refine q_val (v := .int .i64 (((((missT l.length (tallN l.length) M2 x).1).getD (jj) 0 : Nat) : Int))) (wt0 rfl) rfl rfl (fun wx H => x_loadR1 jj (H.rwReads (k := 5) rfl) (by omega) rfl rfl Tryz.underlying3 rfl (intV_at (by omega))) ?_
                        refine q_val (v := .slice p80 (missT l.length (tallN l.length) M2 x).1.length c81) (wt0 rfl) rfl rfl (fun wx H => x_move rfl rfl) ?_
                        refine q_val (v := .int .i64 ((jj : Int))) (wt0 rfl) rfl rfl (fun wx H => x_move rfl rfl) ?_
                        refine q_val (v := .pointer ((p80).map fun q => q.add (jj * 1))) (wt0 rfl) rfl rfl (fun wx H => x_idxP jj (hsm96) rfl rfl rfl Tryz.underlying51 sz3 (by omega)) ?_
                        refine q_val (v := .int .i64 (((((missT l.length (tallN l.length) M2 x).1).getD (jj) 0 : Nat) : Int))) (wt0 rfl) rfl rfl (fun wx H => x_loadR1 jj (H.rwReads (k := 2) rfl) (by omega) rfl rfl Tryz.underlying3 rfl (intV_at (by omega))) ?_
                        refine q_val (v := .bool (!decide ((((((missT l.length (tallN l.length) M2 x).1).getD (jj) 0 : Nat) : Int) : Int) = ((((missT l.length (tallN l.length) M2 x).1).getD (jj) 0 : Nat) : Int)))) (wt0 rfl) rfl rfl (fun wx H => x_bin rfl rfl rfl b_neq) ?_
                        refine q_nil (fun wq97 H98 => ?_)
                        refine g_then ?_
                        refine g_cond_f rfl (nf rfl) ?_
                        refine g_skip ?_
                        refine g_in ?_
                        refine g_then ?_
                        refine g_weak [(0, .slice p l.length c), (11, .pointer (some ⟨tg10, 0, none⟩)), (12, .pointer (some ⟨wg14, 0, none⟩)), (29, .int .i64 x), (30, .slice p75 (missT l.length (tallN l.length) M2 x).1.length c76), (32, .slice p80 (missT l.length (tallN l.length) M2 x).1.length c81), (106, .slice pd nd cd), (107, .int .i64 ((nd : Int))), (108, .int .i64 ((k : Int))), (162, .pointer (some ⟨tc40, 0, none⟩)), (163, .bool false), (296, .int .i64 (((missT l.length (tallN l.length) M2 x).1.length : Int))), (297, .int .i64 ((jj : Int)))] ⟨rfl, rfl, rfl, rfl, rfl, rfl, rfl, rfl, rfl, rfl, rfl, rfl, rfl, trivial⟩ ?_
                        refine g_region ?_
                        refine l_of (s_val (v := .int .i64 (((jj + 1 : Nat) : Int))) (wt0 rfl) rfl rfl (x_bin rfl rfl rfl (b_addN (a := jj) (b := 1) (by omega))) ?_)
                        refine l_of (s_val (v := .int .i64 (((jj + 1 : Nat) : Int))) (wt0 rfl) rfl rfl (x_move rfl rfl) ?_)
                        refine g_nil ?_
                        refine g_then ?_
                        refine g_round (i := (jj)) (jj + 1) ?_ ?_ ?_
                        · exact ⟨rfl, rfl, rfl, rfl, rfl, rfl, rfl, rfl, rfl, rfl, rfl, rfl, rfl, trivial⟩
                        · exact ⟨by omega, (H98.takes [0, 1, 2, 3, 4, 5, 6] (by decide))⟩
                        · (try dsimp only); omega
                      · skip
                        refine g_cond_f rfl (decide_eq_false hb94) ?_
                        refine g_exit ?_
                        refine g_then_exit ?_
                        refine g_then_exit ?_
                        refine g_in_hit ?_
                        refine g_in ?_
                        refine g_then ?_
                        refine g_region ?_
                        refine l_of (s_val (v := .int .i64 x) (wt0 rfl) rfl rfl (x_move rfl rfl) ?_)
                        refine l_of (s_val (v := .int .i64 (x + 1)) (wt0 rfl) rfl rfl (x_bin rfl rfl rfl (b_add (w64 (by omega)))) ?_)
                        refine l_of (s_val (v := .int .i64 (x + 1)) (wt0 rfl) rfl rfl (x_assign rfl rfl) ?_)
                        refine g_nil ?_
                        refine g_then ?_
                        refine g_round (i := (x)) (x + 1) ?_ ?_ ?_
                        · exact ⟨rfl, rfl, rfl, rfl, rfl, rfl, rfl, rfl, rfl, trivial⟩
                        · exact ⟨(by omega), (H93.takes [0, 1, 3, 4, 6] (by decide))⟩
                        · (try dsimp only); omega
                    · skip
                      refine g_cond_t rfl (nt hb91) ?_
                      refine g_seq ?_
                      refine g_region ?_
                      refine l_of (s_val (v := .bool false) (wt0 rfl) rfl rfl (x_assign rfl rfl) ?_)
                      refine g_nil ?_
                      refine g_then ?_
                      refine g_weak [(4, .bool false)] ⟨rfl, trivial⟩ ?_
                      refine g_ret ?_
                      refine g_then_ret ?_
                      refine g_in_ret ?_
                      refine g_then_ret ?_
                      refine g_then_ret ?_
                      refine g_in_ret ?_
                      refine g_in_ret ?_
                      refine g_then_ret ?_
                      refine g_then_ret ?_
                      refine g_in_ret ?_
                      refine g_then_ret ?_
                      refine fin_ret [.tmp 4] [.bool false] rfl ⟨rfl, trivial⟩ ?_
                      exact absurd kf3 hb91
                  · skip
                    refine l_of (s_not (wn1 rfl rfl rfl rfl (decide_eq_false hb87)) rfl rfl ?_)
                    refine l_of (s_not (wn1 rfl rfl rfl rfl (decide_eq_false hb87)) rfl rfl ?_)
                    refine l_of (s_not (wn1 rfl rfl rfl rfl (decide_eq_false hb87)) rfl rfl ?_)
                    refine l_of (s_not (wn1 rfl rfl rfl rfl (decide_eq_false hb87)) rfl rfl ?_)
                    refine l_of (s_not (wn1 rfl rfl rfl rfl (decide_eq_false hb87)) rfl rfl ?_)
                    refine l_of (s_not (wn1 rfl rfl rfl rfl (decide_eq_false hb87)) rfl rfl ?_)
                    refine l_of (s_not (wn1 rfl rfl rfl rfl (decide_eq_false hb87)) rfl rfl ?_)
                    refine l_of (s_not (wn1 rfl rfl rfl rfl (decide_eq_false hb87)) rfl rfl ?_)
                    refine l_of (s_not (wn1 rfl rfl rfl rfl (decide_eq_false hb87)) rfl rfl ?_)
                    refine l_of (s_not (wn1 rfl rfl rfl rfl (decide_eq_false hb87)) rfl rfl ?_)
                    refine l_of (s_not (wn1 rfl rfl rfl rfl (decide_eq_false hb87)) rfl rfl ?_)
                    refine l_of (s_val (v := .bool false) (wt1 rfl rfl rfl rfl (nf rfl)) rfl rfl (x_pick_f rfl rfl (decide_eq_false hb87) rfl) ?_)
                    refine l_of (s_val (v := .bool false) (wt0 rfl) rfl rfl (x_pick_f rfl rfl (nf rfl) rfl) ?_)
                    refine g_nil ?_
                    refine g_then ?_
                    refine g_weak [(0, .slice p l.length c), (11, .pointer (some ⟨tg10, 0, none⟩)), (12, .pointer (some ⟨wg14, 0, none⟩)), (29, .int .i64 x), (30, .slice p75 (missT l.length (tallN l.length) M2 x).1.length c76), (32, .slice p80 (missT l.length (tallN l.length) M2 x).1.length c81), (106, .slice pd nd cd), (107, .int .i64 ((nd : Int))), (108, .int .i64 ((k : Int))), (162, .pointer (some ⟨tc40, 0, none⟩)), (163, .bool false), (294, .bool false)] ⟨rfl, rfl, rfl, rfl, rfl, rfl, rfl, rfl, rfl, rfl, rfl, rfl, trivial⟩ ?_
                    refine g_cond_f rfl rfl ?_
                    refine g_skip ?_
                    refine g_then ?_
                    refine g_seq ?_
                    refine g_region ?_
                    refine l_of (s_val (v := .slice p75 (missT l.length (tallN l.length) M2 x).1.length c76) (wt0 rfl) rfl rfl (x_move rfl rfl) ?_)
                    refine l_of (s_val (v := .int .i64 (((missT l.length (tallN l.length) M2 x).1.length : Int))) (wt0 rfl) rfl rfl (x_lenl rfl rfl Tryz.underlying51) ?_)
                    refine l_of (s_val (v := .int .i64 0) (wt0 rfl) rfl rfl (x_move rfl rfl) ?_)
                    refine g_nil ?_
                    refine g_then ?_
                    refine g_block ?_
                    refine g_loop (ι := Nat) (fun jj => [(0, .slice p l.length c), (11, .pointer (some ⟨tg10, 0, none⟩)), (12, .pointer (some ⟨wg14, 0, none⟩)), (29, .int .i64 x), (30, .slice p75 (missT l.length (tallN l.length) M2 x).1.length c76), (32, .slice p80 (missT l.length (tallN l.length) M2 x).1.length c81), (106, .slice pd nd cd), (107, .int .i64 ((nd : Int))), (108, .int .i64 ((k : Int))), (162, .pointer (some ⟨tc40, 0, none⟩)), (163, .bool false), (296, .int .i64 (((missT l.length (tallN l.length) M2 x).1.length : Int))), (297, .int .i64 ((jj : Int)))]) (fun jj wx => (jj ≤ (missT l.length (tallN l.length) M2 x).1.length) ∧ S wx [Ob tg10 (.cells #[.int .i64 ((l.length : Int)), .int .i64 (((tallN l.length) : Int)), .string ((rootS l).1), .map (some mg11)] 75 (0, 0)), Mp placeV Value.string placeOk mg11 (M2), Rw 3 1 p80 (missT l.length (tallN l.length) M2 x).1.length c81 (intV (missT l.length (tallN l.length) M2 x).1), Ob wg14 (.cells #[.int .i64 ((l.length : Int)), .int .i64 (((tallN l.length) : Int)), .map (some wm15)] 50 (0, 0)), Mp placeV Value.string placeOk wm15 (R2), Rw 3 1 p75 (missT l.length (tallN l.length) M2 x).1.length c76 (intV (missT l.length (tallN l.length) M2 x).1), Old w no]) (fun jj => (missT l.length (tallN l.length) M2 x).1.length - jj) (0) ⟨rfl, rfl, rfl, rfl, rfl, rfl, rfl, rfl, rfl, rfl, rfl, rfl, rfl, trivial⟩ ⟨Nat.zero_le _, H86⟩ ?_
                    rintro jj wq99 ⟨hj, H100⟩
                    replace H100 : S wq99 [Ob tg10 (.cells #[.int .i64 ((l.length : Int)), .int .i64 (((tallN l.length) : Int)), .string ((rootS l).1), .map (some mg11)] 75 (0, 0)), Mp placeV Value.string placeOk mg11 (M2), Rw 3 1 p80 (missT l.length (tallN l.length) M2 x).1.length c81 (intV (missT l.length (tallN l.length) M2 x).1), Ob wg14 (.cells #[.int .i64 ((l.length : Int)), .int .i64 (((tallN l.length) : Int)), .map (some wm15)] 50 (0, 0)), Mp placeV Value.string placeOk wm15 (R2), Rw 3 1 p75 (missT l.length (tallN l.length) M2 x).1.length c76 (intV (missT l.length (tallN l.length) M2 x).1), Old w no] := H100
                    refine g_weak [(0, .slice p l.length c), (11, .pointer (some ⟨tg10, 0, none⟩)), (12, .pointer (some ⟨wg14, 0, none⟩)), (29, .int .i64 x), (30, .slice p75 (missT l.length (tallN l.length) M2 x).1.length c76), (32, .slice p80 (missT l.length (tallN l.length) M2 x).1.length c81), (106, .slice pd nd cd), (107, .int .i64 ((nd : Int))), (108, .int .i64 ((k : Int))), (162, .pointer (some ⟨tc40, 0, none⟩)), (163, .bool false), (296, .int .i64 (((missT l.length (tallN l.length) M2 x).1.length : Int))), (297, .int .i64 ((jj : Int)))] ⟨rfl, rfl, rfl, rfl, rfl, rfl, rfl, rfl, rfl, rfl, rfl, rfl, rfl, trivial⟩ ?_
                    refine g_seq ?_
                    refine g_region ?_
                    refine l_of (s_val (v := .bool (decide (((jj : Int) : Int) < ((missT l.length (tallN l.length) M2 x).1.length : Int)))) (wt0 rfl) rfl rfl (x_bin rfl rfl rfl b_lss) ?_)
                    refine g_nil ?_
                    refine g_then ?_
                    refine g_seq ?_
                    by_cases hb101 : ((jj : Int) : Int) < ((missT l.length (tallN l.length) M2 x).1.length : Int)
                    · skip
                      have hsm102 : ∃ a, p75 = some a := ((H100.rwReads (k := 5) rfl).2.2 (by omega)).imp fun _ h => h.1
                      have hsm103 : ∃ a, p80 = some a := ((H100.rwReads (k := 2) rfl).2.2 (by omega)).imp fun _ h => h.1
                      refine g_cond_t rfl (decide_eq_true hb101) ?_
                      refine g_skip ?_
                      refine g_then ?_
                      refine g_seq ?_
                      refine g_block ?_
                      refine g_seq ?_
                      refine g_region ?_
                      refine l_of (s_val (v := .int .i64 ((jj : Int))) (wt0 rfl) rfl rfl (x_move rfl rfl) ?_)
                      refine l_of (s_val (v := .int .i64 ((jj : Int))) (wt0 rfl) rfl rfl (x_assign rfl rfl) ?_)
                      refine g_nil ?_
                      refine g_then ?_
                      refine g_seq ?_
                      refine g_quiet (by kernel_rfl) (by kernel_rfl) H100 ?_
                      refine q_val (v := .slice p75 (missT l.length (tallN l.length) M2 x).1.length c76) (wt0 rfl) rfl rfl (fun wx H => x_move rfl rfl) ?_
                      refine q_val (v := .int .i64 ((jj : Int))) (wt0 rfl) rfl rfl (fun wx H => x_move rfl rfl) ?_
                      refine q_val (v := .pointer ((p75).map fun q => q.add (jj * 1))) (wt0 rfl) rfl rfl (fun wx H => x_idxP jj (hsm102) rfl rfl rfl Tryz.underlying51 sz3 (by omega)) ?_
                      refine q_val (v := .int .i64 (((((missT l.length (tallN l.length) M2 x).1).getD (jj) 0 : Nat) : Int))) (wt0 rfl) rfl rfl (fun wx H => x_loadR1 jj (H.rwReads (k := 5) rfl) (by omega) rfl rfl Tryz.underlying3 rfl (intV_at (by omega))) ?_
                      refine q_val (v := .slice p80 (missT l.length (tallN l.length) M2 x).1.length c81) (wt0 rfl) rfl rfl (fun wx H => x_move rfl rfl) ?_
                      refine q_val (v := .int .i64 ((jj : Int))) (wt0 rfl) rfl rfl (fun wx H => x_move rfl rfl) ?_
                      refine q_val (v := .pointer ((p80).map fun q => q.add (jj * 1))) (wt0 rfl) rfl rfl (fun wx H => x_idxP jj (hsm103) rfl rfl rfl Tryz.underlying51 sz3 (by omega)) ?_
                      refine q_val (v := .int .i64 (((((missT l.length (tallN l.length) M2 x).1).getD (jj) 0 : Nat) : Int))) (wt0 rfl) rfl rfl (fun wx H => x_loadR1 jj (H.rwReads (k := 2) rfl) (by omega) rfl rfl Tryz.underlying3 rfl (intV_at (by omega))) ?_
                      refine q_val (v := .bool (!decide ((((((missT l.length (tallN l.length) M2 x).1).getD (jj) 0 : Nat) : Int) : Int) = ((((missT l.length (tallN l.length) M2 x).1).getD (jj) 0 : Nat) : Int)))) (wt0 rfl) rfl rfl (fun wx H => x_bin rfl rfl rfl b_neq) ?_
                      refine q_nil (fun wq104 H105 => ?_)
                      refine g_then ?_
                      refine g_cond_f rfl (nf rfl) ?_
                      refine g_skip ?_
                      refine g_in ?_
                      refine g_then ?_
                      refine g_weak [(0, .slice p l.length c), (11, .pointer (some ⟨tg10, 0, none⟩)), (12, .pointer (some ⟨wg14, 0, none⟩)), (29, .int .i64 x), (30, .slice p75 (missT l.length (tallN l.length) M2 x).1.length c76), (32, .slice p80 (missT l.length (tallN l.length) M2 x).1.length c81), (106, .slice pd nd cd), (107, .int .i64 ((nd : Int))), (108, .int .i64 ((k : Int))), (162, .pointer (some ⟨tc40, 0, none⟩)), (163, .bool false), (296, .int .i64 (((missT l.length (tallN l.length) M2 x).1.length : Int))), (297, .int .i64 ((jj : Int)))] ⟨rfl, rfl, rfl, rfl, rfl, rfl, rfl, rfl, rfl, rfl, rfl, rfl, rfl, trivial⟩ ?_
                      refine g_region ?_
                      refine l_of (s_val (v := .int .i64 (((jj + 1 : Nat) : Int))) (wt0 rfl) rfl rfl (x_bin rfl rfl rfl (b_addN (a := jj) (b := 1) (by omega))) ?_)
                      refine l_of (s_val (v := .int .i64 (((jj + 1 : Nat) : Int))) (wt0 rfl) rfl rfl (x_move rfl rfl) ?_)
                      refine g_nil ?_
                      refine g_then ?_
                      refine g_round (i := (jj)) (jj + 1) ?_ ?_ ?_
                      · exact ⟨rfl, rfl, rfl, rfl, rfl, rfl, rfl, rfl, rfl, rfl, rfl, rfl, rfl, trivial⟩
                      · exact ⟨by omega, (H105.takes [0, 1, 2, 3, 4, 5, 6] (by decide))⟩
                      · (try dsimp only); omega
                    · skip
                      refine g_cond_f rfl (decide_eq_false hb101) ?_
                      refine g_exit ?_
                      refine g_then_exit ?_
                      refine g_then_exit ?_
                      refine g_in_hit ?_
                      refine g_in ?_
                      refine g_then ?_
                      refine g_region ?_
                      refine l_of (s_val (v := .int .i64 x) (wt0 rfl) rfl rfl (x_move rfl rfl) ?_)
                      refine l_of (s_val (v := .int .i64 (x + 1)) (wt0 rfl) rfl rfl (x_bin rfl rfl rfl (b_add (w64 (by omega)))) ?_)
                      refine l_of (s_val (v := .int .i64 (x + 1)) (wt0 rfl) rfl rfl (x_assign rfl rfl) ?_)
                      refine g_nil ?_
                      refine g_then ?_
                      refine g_round (i := (x)) (x + 1) ?_ ?_ ?_
                      · exact ⟨rfl, rfl, rfl, rfl, rfl, rfl, rfl, rfl, rfl, trivial⟩
                      · exact ⟨(by omega), (H100.takes [0, 1, 3, 4, 6] (by decide))⟩
                      · (try dsimp only); omega
                · skip
                  refine g_cond_f rfl (decide_eq_false hb74) ?_
                  refine g_exit ?_
                  refine g_then_exit ?_
                  refine g_then_exit ?_
                  refine g_in_hit ?_
                  refine g_in ?_
                  refine g_then ?_
                  refine g_region ?_
                  refine l_of (s_val (v := .int .i64 ((k : Int) + 1)) (wt0 rfl) rfl rfl (x_bin rfl rfl rfl (b_add (w64 (by omega)))) ?_)
                  refine l_of (s_val (v := .int .i64 ((k : Int) + 1)) (wt0 rfl) rfl rfl (x_move rfl rfl) ?_)
                  refine g_nil ?_
                  refine g_then ?_
                  refine g_round (i := (k, M, R)) (k + 1, M2, R2) ?_ ?_ ?_
                  · exact ⟨rfl, rfl, rfl, rfl, rfl, rfl, trivial⟩
                  · exact ⟨by omega, hA2, hMr2, (H73.takes [0, 1, 2, 3, 4] (by decide))⟩
                  · (try dsimp only); omega
              · skip
                refine g_cond_t rfl (neg_of hb38) ?_
                refine g_region ?_
                refine l_of (s_val (v := .slice p l.length c) (wt0 rfl) rfl rfl (x_move rfl rfl) ?_)
                refine l_of (s_val (v := .pointer (some ⟨g25, 0, none⟩)) (wt0 rfl) rfl rfl (x_fieldAddr rfl rfl fo40_0 rfl) ?_)
                refine l_of (s_val (v := .int .i64 (dd.lv)) (wt0 rfl) rfl rfl (x_load1 H37 0 rfl rfl Tryz.underlying3 rfl rfl rfl) ?_)
                refine l_of (s_val (v := .pointer (some ⟨g25, 1, none⟩)) (wt0 rfl) rfl rfl (x_fieldAddr rfl rfl fo40_1 rfl) ?_)
                refine l_of (s_val (v := .int .i64 (dd.ix)) (wt0 rfl) rfl rfl (x_load1 H37 0 rfl rfl Tryz.underlying3 rfl rfl rfl) ?_)
                refine l_of (s_val (v := .pointer (some ⟨g25, 2, none⟩)) (wt0 rfl) rfl rfl (x_fieldAddr rfl rfl fo40_2 rfl) ?_)
                refine l_of (s_val (v := .int .i64 (dd.ct)) (wt0 rfl) rfl rfl (x_load1 H37 0 rfl rfl Tryz.underlying3 rfl rfl rfl) ?_)
                refine l_of (s_call (wt0 rfl) (x_call' rfl rfl cl13) (run_r l p l.length c rfl hm2 dd.lv dd.ix dd.ct gd3 _ (H37.oldReads (k := 5) rfl hr)) ?_)
                rintro _ wq112 ⟨p106, c107, X108, p109, c110, rfl, hX111, H113⟩
                replace H113 : S wq112 [X108, Rw 9 1 p109 (runS l dd.lv dd.ix dd.ct).2.1.length c110 (stV (runS l dd.lv dd.ix dd.ct).2.1), Ob g25 (.cells #[.int .i64 (dd.lv), .int .i64 (dd.ix), .int .i64 (dd.ct), .int .i64 (dd.mr), .bool dd.own, .slice dd.p1 dd.ls.length dd.c1, .slice dd.p2 dd.us.length dd.c2] 40 (0, 0)), Ob tg10 (.cells #[.int .i64 ((l.length : Int)), .int .i64 (((tallN l.length) : Int)), .string ((rootS l).1), .map (some mg11)] 75 (0, 0)), Mp placeV Value.string placeOk mg11 (M), Ob wg14 (.cells #[.int .i64 ((l.length : Int)), .int .i64 (((tallN l.length) : Int)), .map (some wm15)] 50 (0, 0)), Mp placeV Value.string placeOk wm15 (R), Old w no] := H37.absorb (new := [X108, Rw 9 1 p109 (runS l dd.lv dd.ix dd.ct).2.1.length c110 (stV (runS l dd.lv dd.ix dd.ct).2.1)]) H113
                refine b_ret rfl rfl ?_
                refine l_of (s_val (v := .tuple #[.slice p106 (runS l dd.lv dd.ix dd.ct).1.length c107, .slice p109 (runS l dd.lv dd.ix dd.ct).2.1.length c110, .int .i64 ((runS l dd.lv dd.ix dd.ct).2.2)]) (wt0 rfl) rfl rfl (x_move rfl rfl) ?_)
                refine l_of (s_val (v := .slice p106 (runS l dd.lv dd.ix dd.ct).1.length c107) (wt0 rfl) rfl rfl (x_extract rfl rfl rfl) ?_)
                refine l_of (s_val (v := .slice p109 (runS l dd.lv dd.ix dd.ct).2.1.length c110) (wt0 rfl) rfl rfl (x_extract rfl rfl rfl) ?_)
                refine l_of (s_val (v := .int .i64 ((runS l dd.lv dd.ix dd.ct).2.2)) (wt0 rfl) rfl rfl (x_extract rfl rfl rfl) ?_)
                refine l_of (s_val (v := .slice p106 (runS l dd.lv dd.ix dd.ct).1.length c107) (wt0 rfl) rfl rfl (x_assign rfl rfl) ?_)
                refine l_of (s_val (v := .slice p109 (runS l dd.lv dd.ix dd.ct).2.1.length c110) (wt0 rfl) rfl rfl (x_assign rfl rfl) ?_)
                refine g_nil ?_
                refine g_then ?_
                refine g_weak [(0, .slice p l.length c), (11, .pointer (some ⟨tg10, 0, none⟩)), (12, .pointer (some ⟨wg14, 0, none⟩)), (15, .pointer (some ⟨g25, 0, none⟩)), (16, .slice p106 (runS l dd.lv dd.ix dd.ct).1.length c107), (17, .slice p109 (runS l dd.lv dd.ix dd.ct).2.1.length c110), (106, .slice pd nd cd), (107, .int .i64 ((nd : Int))), (108, .int .i64 ((k : Int)))] ⟨rfl, rfl, rfl, rfl, rfl, rfl, rfl, rfl, rfl, trivial⟩ ?_
                refine g_seq ?_
                refine g_region ?_
                refine l_of (s_val (v := .pointer (some ⟨tg10, 0, none⟩)) (wt0 rfl) rfl rfl (x_move rfl rfl) ?_)
                refine l_of (s_call (wt0 rfl) (x_call' rfl rfl cl14) (copy_s tg10 mg11 l.length (tallN l.length) (rootS l).1 (M) _ (H113.takes [3, 4] (by decide))) ?_)
                rintro _ wq115 ⟨tc114, rfl, H116⟩
                replace H116 : S wq115 [Ob tg10 (.cells #[.int .i64 ((l.length : Int)), .int .i64 (((tallN l.length) : Int)), .string ((rootS l).1), .map (some mg11)] 75 (0, 0)), Mp placeV Value.string placeOk mg11 (M), X108, Rw 9 1 p109 (runS l dd.lv dd.ix dd.ct).2.1.length c110 (stV (runS l dd.lv dd.ix dd.ct).2.1), Ob g25 (.cells #[.int .i64 (dd.lv), .int .i64 (dd.ix), .int .i64 (dd.ct), .int .i64 (dd.mr), .bool dd.own, .slice dd.p1 dd.ls.length dd.c1, .slice dd.p2 dd.us.length dd.c2] 40 (0, 0)), Ob wg14 (.cells #[.int .i64 ((l.length : Int)), .int .i64 (((tallN l.length) : Int)), .map (some wm15)] 50 (0, 0)), Mp placeV Value.string placeOk wm15 (R), Old w no] := H113.absorbI (new := [Ob tg10 (.cells #[.int .i64 ((l.length : Int)), .int .i64 (((tallN l.length) : Int)), .string ((rootS l).1), .map (some mg11)] 75 (0, 0)), Mp placeV Value.string placeOk mg11 (M)]) [3, 4] H116
                refine b_ret rfl rfl ?_
                refine l_of (s_val (v := .pointer (some ⟨tc114, 0, none⟩)) (wt0 rfl) rfl rfl (x_assign rfl rfl) ?_)
                refine g_nil ?_
                refine g_then ?_
                refine g_seq ?_
                refine g_seq ?_
                refine g_any [] (fun wx => S wx [Ob g25 (.cells #[.int .i64 (dd.lv), .int .i64 (dd.ix), .int .i64 (dd.ct), .int .i64 (dd.mr), .bool dd.own, .slice dd.p1 dd.ls.length dd.c1, .slice dd.p2 dd.us.length dd.c2] 40 (0, 0))]) [] (by kernel_rfl) H116 (fun wq117 H118 => ?_)
                refine a_take (v := .pointer (some ⟨tg10, 0, none⟩)) 0 rfl (wt0 rfl) rfl rfl rfl (by kernel_rfl) (by kernel_rfl) (by kernel_rfl) (by kernel_rfl) (H118.mask [false, false, false, false, true, false, false, false]) (fun wx H => x_move rfl rfl) ?_
                refine a_take (v := .pointer (some ⟨g25, 0, none⟩)) 1 rfl (wt0 rfl) rfl rfl rfl (by kernel_rfl) (by kernel_rfl) (by kernel_rfl) (by kernel_rfl) (H118.mask [false, false, false, false, true, false, false, false]) (fun wx H => x_fieldAddr rfl rfl fo40_0 rfl) ?_
                refine a_take (v := .int .i64 (dd.lv)) 2 rfl (wt0 rfl) rfl rfl rfl (by kernel_rfl) (by kernel_rfl) (by kernel_rfl) (by kernel_rfl) (H118.mask [false, false, false, false, true, false, false, false]) (fun wx H => x_load1 H 0 rfl rfl Tryz.underlying3 rfl rfl rfl) ?_
                refine a_take (v := .pointer (some ⟨g25, 1, none⟩)) 3 rfl (wt0 rfl) rfl rfl rfl (by kernel_rfl) (by kernel_rfl) (by kernel_rfl) (by kernel_rfl) (H118.mask [false, false, false, false, true, false, false, false]) (fun wx H => x_fieldAddr rfl rfl fo40_1 rfl) ?_
                refine a_take (v := .int .i64 (dd.ix)) 4 rfl (wt0 rfl) rfl rfl rfl (by kernel_rfl) (by kernel_rfl) (by kernel_rfl) (by kernel_rfl) (H118.mask [false, false, false, false, true, false, false, false]) (fun wx H => x_load1 H 0 rfl rfl Tryz.underlying3 rfl rfl rfl) ?_
                refine a_take (v := .slice p106 (runS l dd.lv dd.ix dd.ct).1.length c107) 5 rfl (wt0 rfl) rfl rfl rfl (by kernel_rfl) (by kernel_rfl) (by kernel_rfl) (by kernel_rfl) (H118.mask [false, false, false, false, true, false, false, false]) (fun wx H => x_move rfl rfl) ?_
                refine a_take (v := .slice p109 (runS l dd.lv dd.ix dd.ct).2.1.length c110) 6 rfl (wt0 rfl) rfl rfl rfl (by kernel_rfl) (by kernel_rfl) (by kernel_rfl) (by kernel_rfl) (H118.mask [false, false, false, false, true, false, false, false]) (fun wx H => x_move rfl rfl) ?_
                refine a_take (v := .pointer (some ⟨wg14, 0, none⟩)) 8 rfl (wt0 rfl) rfl rfl rfl (by kernel_rfl) (by kernel_rfl) (by kernel_rfl) (by kernel_rfl) (H118.mask [false, false, false, false, true, false, false, false]) (fun wx H => x_move rfl rfl) ?_
                refine a_take (v := .pointer (some ⟨g25, 0, none⟩)) 9 rfl (wt0 rfl) rfl rfl rfl (by kernel_rfl) (by kernel_rfl) (by kernel_rfl) (by kernel_rfl) (H118.mask [false, false, false, false, true, false, false, false]) (fun wx H => x_fieldAddr rfl rfl fo40_0 rfl) ?_
                refine a_take (v := .int .i64 (dd.lv)) 10 rfl (wt0 rfl) rfl rfl rfl (by kernel_rfl) (by kernel_rfl) (by kernel_rfl) (by kernel_rfl) (H118.mask [false, false, false, false, true, false, false, false]) (fun wx H => x_load1 H 0 rfl rfl Tryz.underlying3 rfl rfl rfl) ?_
                refine a_take (v := .pointer (some ⟨g25, 1, none⟩)) 11 rfl (wt0 rfl) rfl rfl rfl (by kernel_rfl) (by kernel_rfl) (by kernel_rfl) (by kernel_rfl) (H118.mask [false, false, false, false, true, false, false, false]) (fun wx H => x_fieldAddr rfl rfl fo40_1 rfl) ?_
                refine a_take (v := .int .i64 (dd.ix)) 12 rfl (wt0 rfl) rfl rfl rfl (by kernel_rfl) (by kernel_rfl) (by kernel_rfl) (by kernel_rfl) (H118.mask [false, false, false, false, true, false, false, false]) (fun wx H => x_load1 H 0 rfl rfl Tryz.underlying3 rfl rfl rfl) ?_
                refine a_take (v := .slice p106 (runS l dd.lv dd.ix dd.ct).1.length c107) 13 rfl (wt0 rfl) rfl rfl rfl (by kernel_rfl) (by kernel_rfl) (by kernel_rfl) (by kernel_rfl) (H118.mask [false, false, false, false, true, false, false, false]) (fun wx H => x_move rfl rfl) ?_
                refine a_take (v := .slice p109 (runS l dd.lv dd.ix dd.ct).2.1.length c110) 14 rfl (wt0 rfl) rfl rfl rfl (by kernel_rfl) (by kernel_rfl) (by kernel_rfl) (by kernel_rfl) (H118.mask [false, false, false, false, true, false, false, false]) (fun wx H => x_move rfl rfl) ?_
                refine a_one (i := 7) (by kernel_rfl) rfl ?_
                have had119 := add_s tg10 mg11 l.length (tallN l.length) (rootS l).1 (M) X108 (Rw 9 1 p109 (runS l dd.lv dd.ix dd.ct).2.1.length c110 (stV (runS l dd.lv dd.ix dd.ct).2.1)) dd.lv dd.ix (runS l dd.lv dd.ix dd.ct).1 (runS l dd.lv dd.ix dd.ct).2.1 p106 p109 c107 c110 ht12 (by have := run_len (l := l) (v := dd.lv) (i := dd.ix) (c := dd.ct); omega) (by have := run_len2 (l := l) (v := dd.lv) (i := dd.ix) (c := dd.ct); omega) wq117 (H118.takes [0, 1, 2, 3] (by decide)) (fun W h _ => hX111 W h) (fun W _ h => reads_rw h)
                obtain ⟨M2, hM2⟩ : ∃ M2, M2 = addM (tallN l.length) (rootS l).1 dd.lv dd.ix (runS l dd.lv dd.ix dd.ct).1 (runS l dd.lv dd.ix dd.ct).2.1 (M) := ⟨_, rfl⟩
                rw [← hM2] at had119
                refine s_call (wt0 rfl) (x_call' rfl rfl cl15) (had119) ?_
                rintro _ wq120 ⟨rfl, H121⟩
                replace H121 : S wq120 [Ob tg10 (.cells #[.int .i64 ((l.length : Int)), .int .i64 (((tallN l.length) : Int)), .string ((rootS l).1), .map (some mg11)] 75 (0, 0)), Mp placeV Value.string placeOk mg11 (M2), X108, Rw 9 1 p109 (runS l dd.lv dd.ix dd.ct).2.1.length c110 (stV (runS l dd.lv dd.ix dd.ct).2.1), Ob g25 (.cells #[.int .i64 (dd.lv), .int .i64 (dd.ix), .int .i64 (dd.ct), .int .i64 (dd.mr), .bool dd.own, .slice dd.p1 dd.ls.length dd.c1, .slice dd.p2 dd.us.length dd.c2] 40 (0, 0)), Ob wg14 (.cells #[.int .i64 ((l.length : Int)), .int .i64 (((tallN l.length) : Int)), .map (some wm15)] 50 (0, 0)), Mp placeV Value.string placeOk wm15 (R), Old w no] := H118.absorbI (new := [Ob tg10 (.cells #[.int .i64 ((l.length : Int)), .int .i64 (((tallN l.length) : Int)), .string ((rootS l).1), .map (some mg11)] 75 (0, 0)), Mp placeV Value.string placeOk mg11 (M2), X108, Rw 9 1 p109 (runS l dd.lv dd.ix dd.ct).2.1.length c110 (stV (runS l dd.lv dd.ix dd.ct).2.1)]) [0, 1, 2, 3] H121
                refine b_ret rfl rfl ?_
                refine a_k (H121.mask [false, false, false, false, true, false, false, false]) ?_
                refine a_one (i := 15) (by kernel_rfl) rfl ?_
                refine s_call (wt0 rfl) (x_call' rfl rfl cl16) (add_r wg14 wm15 l.length (rootS l).1 (R) X108 (Rw 9 1 p109 (runS l dd.lv dd.ix dd.ct).2.1.length c110 (stV (runS l dd.lv dd.ix dd.ct).2.1)) dd.lv dd.ix (runS l dd.lv dd.ix dd.ct).1 (runS l dd.lv dd.ix dd.ct).2.1 p106 p109 c107 c110 hc1 hc2 hRr (root_size hce) (by have := run_len (l := l) (v := dd.lv) (i := dd.ix) (c := dd.ct); omega) (by have := run_len2 (l := l) (v := dd.lv) (i := dd.ix) (c := dd.ct); omega) _ (H121.takes [5, 6, 2, 3] (by decide)) (fun W h _ => hX111 W h) (fun W _ h => reads_rw h)) ?_
                rintro _ wq122 ⟨R2, hp1, hp2, rfl, H123⟩
                replace H123 : S wq122 [Ob wg14 (.cells #[.int .i64 ((l.length : Int)), .int .i64 (((tallN l.length) : Int)), .map (some wm15)] 50 (0, 0)), Mp placeV Value.string placeOk wm15 (R2), X108, Rw 9 1 p109 (runS l dd.lv dd.ix dd.ct).2.1.length c110 (stV (runS l dd.lv dd.ix dd.ct).2.1), Ob tg10 (.cells #[.int .i64 ((l.length : Int)), .int .i64 (((tallN l.length) : Int)), .string ((rootS l).1), .map (some mg11)] 75 (0, 0)), Mp placeV Value.string placeOk mg11 (M2), Ob g25 (.cells #[.int .i64 (dd.lv), .int .i64 (dd.ix), .int .i64 (dd.ct), .int .i64 (dd.mr), .bool dd.own, .slice dd.p1 dd.ls.length dd.c1, .slice dd.p2 dd.us.length dd.c2] 40 (0, 0)), Old w no] := H121.absorbI (new := [Ob wg14 (.cells #[.int .i64 ((l.length : Int)), .int .i64 (((tallN l.length) : Int)), .map (some wm15)] 50 (0, 0)), Mp placeV Value.string placeOk wm15 (R2), X108, Rw 9 1 p109 (runS l dd.lv dd.ix dd.ct).2.1.length c110 (stV (runS l dd.lv dd.ix dd.ct).2.1)]) [5, 6, 2, 3] H123
                refine b_ret rfl rfl ?_
                refine a_k (H123.mask [false, false, false, false, false, false, true, false]) ?_
                refine a_take (v := .bool (!decide (((addE (tallN l.length) (rootS l).1 dd.lv dd.ix (runS l dd.lv dd.ix dd.ct).1 (runS l dd.lv dd.ix dd.ct).2.1) : Int) = (addE (tallN l.length) (rootS l).1 dd.lv dd.ix (runS l dd.lv dd.ix dd.ct).1 (runS l dd.lv dd.ix dd.ct).2.1)))) 16 rfl (wt0 rfl) rfl rfl rfl (by kernel_rfl) (by kernel_rfl) (by kernel_rfl) (by kernel_rfl) (H123.mask [false, false, false, false, false, false, true, false]) (fun wx H => x_bin rfl rfl rfl b_neq) ?_
                refine a_take (v := .bool (!decide (((addE (tallN l.length) (rootS l).1 dd.lv dd.ix (runS l dd.lv dd.ix dd.ct).1 (runS l dd.lv dd.ix dd.ct).2.1) : Int) = (addE (tallN l.length) (rootS l).1 dd.lv dd.ix (runS l dd.lv dd.ix dd.ct).1 (runS l dd.lv dd.ix dd.ct).2.1)))) 17 rfl (wt0 rfl) rfl rfl rfl (by kernel_rfl) (by kernel_rfl) (by kernel_rfl) (by kernel_rfl) (H123.mask [false, false, false, false, false, false, true, false]) (fun wx H => x_move rfl rfl) ?_
                refine a_take (v := .pointer (some ⟨tc114, 0, none⟩)) 18 rfl (wt1 rfl rfl rfl rfl (nf rfl)) rfl rfl rfl (by kernel_rfl) (by kernel_rfl) (by kernel_rfl) (by kernel_rfl) (H123.mask [false, false, false, false, false, false, true, false]) (fun wx H => x_move rfl rfl) ?_
                refine a_take (v := .bool false) 19 rfl (wt1 rfl rfl rfl rfl (nf rfl)) rfl rfl rfl (by kernel_rfl) (by kernel_rfl) (by kernel_rfl) (by kernel_rfl) (H123.mask [false, false, false, false, false, false, true, false]) (fun wx H => x_bin rfl rfl rfl (b_eqN (r := false) Tryz.underlying29 rfl)) ?_
                refine a_take (v := .bool false) 20 rfl (wt0 rfl) rfl rfl rfl (by kernel_rfl) (by kernel_rfl) (by kernel_rfl) (by kernel_rfl) (H123.mask [false, false, false, false, false, false, true, false]) (fun wx H => x_pick_f rfl rfl (nf rfl) rfl) ?_
                refine a_done (by kernel_rfl) ?_
                refine g_then ?_
                refine g_weak [(0, .slice p l.length c), (11, .pointer (some ⟨tg10, 0, none⟩)), (12, .pointer (some ⟨wg14, 0, none⟩)), (15, .pointer (some ⟨g25, 0, none⟩)), (106, .slice pd nd cd), (107, .int .i64 ((nd : Int))), (108, .int .i64 ((k : Int))), (162, .pointer (some ⟨tc114, 0, none⟩)), (163, .bool false), (164, .bool false)] ⟨rfl, rfl, rfl, rfl, rfl, rfl, rfl, rfl, rfl, rfl, trivial⟩ ?_
                refine g_cond_f rfl rfl ?_
                refine g_skip ?_
                refine g_then ?_
                refine g_seq ?_
                refine g_region ?_
                refine l_of (s_val (v := .pointer (some ⟨tg10, 0, none⟩)) (wt0 rfl) rfl rfl (x_move rfl rfl) ?_)
                refine l_of (s_val (v := .pointer (some ⟨g25, 0, none⟩)) (wt0 rfl) rfl rfl (x_fieldAddr rfl rfl fo40_0 rfl) ?_)
                refine l_of (s_val (v := .int .i64 (dd.lv)) (wt0 rfl) rfl rfl (x_load1 H123 6 rfl rfl Tryz.underlying3 rfl rfl rfl) ?_)
                refine l_of (s_val (v := .pointer (some ⟨g25, 1, none⟩)) (wt0 rfl) rfl rfl (x_fieldAddr rfl rfl fo40_1 rfl) ?_)
                refine l_of (s_val (v := .int .i64 (dd.ix)) (wt0 rfl) rfl rfl (x_load1 H123 6 rfl rfl Tryz.underlying3 rfl rfl rfl) ?_)
                have hA2 := alike_step hM2 hA hp1 hp2
                have hMr2 := root_step ht12 hM2 hMr
                skip
                refine l_of (s_call (wt0 rfl) (x_call' rfl rfl cl17) (getG_s tg10 mg11 l.length (tallN l.length) (rootS l).1 (M2) dd.lv dd.ix hc1 hc2 ht12 _ (H123.takes [4, 5] (by decide))) ?_)
                rintro _ wq124 ⟨rfl, H125⟩
                replace H125 : S wq124 [Ob tg10 (.cells #[.int .i64 ((l.length : Int)), .int .i64 (((tallN l.length) : Int)), .string ((rootS l).1), .map (some mg11)] 75 (0, 0)), Mp placeV Value.string placeOk mg11 (M2), Ob wg14 (.cells #[.int .i64 ((l.length : Int)), .int .i64 (((tallN l.length) : Int)), .map (some wm15)] 50 (0, 0)), Mp placeV Value.string placeOk wm15 (R2), X108, Rw 9 1 p109 (runS l dd.lv dd.ix dd.ct).2.1.length c110 (stV (runS l dd.lv dd.ix dd.ct).2.1), Ob g25 (.cells #[.int .i64 (dd.lv), .int .i64 (dd.ix), .int .i64 (dd.ct), .int .i64 (dd.mr), .bool dd.own, .slice dd.p1 dd.ls.length dd.c1, .slice dd.p2 dd.us.length dd.c2] 40 (0, 0)), Old w no] := H123.absorbI (new := [Ob tg10 (.cells #[.int .i64 ((l.length : Int)), .int .i64 (((tallN l.length) : Int)), .string ((rootS l).1), .map (some mg11)] 75 (0, 0)), Mp placeV Value.string placeOk mg11 (M2)]) [4, 5] H125
                refine b_ret rfl rfl ?_
                refine l_of (s_val (v := .tuple #[.string ((getG l.length (tallN l.length) M2 dd.lv dd.ix).1), .int .i64 ((getG l.length (tallN l.length) M2 dd.lv dd.ix).2)]) (wt0 rfl) rfl rfl (x_move rfl rfl) ?_)
                refine l_of (s_val (v := .string ((getG l.length (tallN l.length) M2 dd.lv dd.ix).1)) (wt0 rfl) rfl rfl (x_extract rfl rfl rfl) ?_)
                refine l_of (s_val (v := .int .i64 ((getG l.length (tallN l.length) M2 dd.lv dd.ix).2)) (wt0 rfl) rfl rfl (x_extract rfl rfl rfl) ?_)
                refine l_of (s_val (v := .string ((getG l.length (tallN l.length) M2 dd.lv dd.ix).1)) (wt0 rfl) rfl rfl (x_assign rfl rfl) ?_)
                refine l_of (s_val (v := .int .i64 ((getG l.length (tallN l.length) M2 dd.lv dd.ix).2)) (wt0 rfl) rfl rfl (x_assign rfl rfl) ?_)
                refine g_nil ?_
                refine g_then ?_
                refine g_seq ?_
                refine g_region ?_
                refine l_of (s_val (v := .pointer (some ⟨wg14, 0, none⟩)) (wt0 rfl) rfl rfl (x_move rfl rfl) ?_)
                refine l_of (s_val (v := .pointer (some ⟨g25, 0, none⟩)) (wt0 rfl) rfl rfl (x_fieldAddr rfl rfl fo40_0 rfl) ?_)
                refine l_of (s_val (v := .int .i64 (dd.lv)) (wt0 rfl) rfl rfl (x_load1 H125 6 rfl rfl Tryz.underlying3 rfl rfl rfl) ?_)
                refine l_of (s_val (v := .pointer (some ⟨g25, 1, none⟩)) (wt0 rfl) rfl rfl (x_fieldAddr rfl rfl fo40_1 rfl) ?_)
                refine l_of (s_val (v := .int .i64 (dd.ix)) (wt0 rfl) rfl rfl (x_load1 H125 6 rfl rfl Tryz.underlying3 rfl rfl rfl) ?_)
                have hgr126 := get_r wg14 wm15 l.length (tallN l.length) R2 dd.lv dd.ix ht12 wq124 (H125.takes [2, 3] (by decide))
                rw [alike_get hA2] at hgr126
                refine l_of (s_call (wt0 rfl) (x_call' rfl rfl cl18) (hgr126) ?_)
                rintro _ wq127 ⟨rfl, H128⟩
                replace H128 : S wq127 [Ob wg14 (.cells #[.int .i64 ((l.length : Int)), .int .i64 (((tallN l.length) : Int)), .map (some wm15)] 50 (0, 0)), Mp placeV Value.string placeOk wm15 (R2), Ob tg10 (.cells #[.int .i64 ((l.length : Int)), .int .i64 (((tallN l.length) : Int)), .string ((rootS l).1), .map (some mg11)] 75 (0, 0)), Mp placeV Value.string placeOk mg11 (M2), X108, Rw 9 1 p109 (runS l dd.lv dd.ix dd.ct).2.1.length c110 (stV (runS l dd.lv dd.ix dd.ct).2.1), Ob g25 (.cells #[.int .i64 (dd.lv), .int .i64 (dd.ix), .int .i64 (dd.ct), .int .i64 (dd.mr), .bool dd.own, .slice dd.p1 dd.ls.length dd.c1, .slice dd.p2 dd.us.length dd.c2] 40 (0, 0)), Old w no] := H125.absorbI (new := [Ob wg14 (.cells #[.int .i64 ((l.length : Int)), .int .i64 (((tallN l.length) : Int)), .map (some wm15)] 50 (0, 0)), Mp placeV Value.string placeOk wm15 (R2)]) [2, 3] H128
                refine b_ret rfl rfl ?_
                refine l_of (s_val (v := .tuple #[.string ((getG l.length (tallN l.length) M2 dd.lv dd.ix).1), .int .i64 ((getG l.length (tallN l.length) M2 dd.lv dd.ix).2)]) (wt0 rfl) rfl rfl (x_move rfl rfl) ?_)
                refine l_of (s_val (v := .string ((getG l.length (tallN l.length) M2 dd.lv dd.ix).1)) (wt0 rfl) rfl rfl (x_extract rfl rfl rfl) ?_)
                refine l_of (s_val (v := .int .i64 ((getG l.length (tallN l.length) M2 dd.lv dd.ix).2)) (wt0 rfl) rfl rfl (x_extract rfl rfl rfl) ?_)
                refine l_of (s_val (v := .string ((getG l.length (tallN l.length) M2 dd.lv dd.ix).1)) (wt0 rfl) rfl rfl (x_assign rfl rfl) ?_)
                refine l_of (s_val (v := .int .i64 ((getG l.length (tallN l.length) M2 dd.lv dd.ix).2)) (wt0 rfl) rfl rfl (x_assign rfl rfl) ?_)
                refine g_nil ?_
                refine g_then ?_
                refine g_weak [(0, .slice p l.length c), (11, .pointer (some ⟨tg10, 0, none⟩)), (12, .pointer (some ⟨wg14, 0, none⟩)), (15, .pointer (some ⟨g25, 0, none⟩)), (19, .string ((getG l.length (tallN l.length) M2 dd.lv dd.ix).1)), (20, .int .i64 ((getG l.length (tallN l.length) M2 dd.lv dd.ix).2)), (21, .string ((getG l.length (tallN l.length) M2 dd.lv dd.ix).1)), (22, .int .i64 ((getG l.length (tallN l.length) M2 dd.lv dd.ix).2)), (106, .slice pd nd cd), (107, .int .i64 ((nd : Int))), (108, .int .i64 ((k : Int))), (162, .pointer (some ⟨tc114, 0, none⟩)), (163, .bool false)] ⟨rfl, rfl, rfl, rfl, rfl, rfl, rfl, rfl, rfl, rfl, rfl, rfl, rfl, trivial⟩ ?_
                refine g_seq ?_
                refine g_region ?_
                refine l_of (s_val (v := .pointer (some ⟨tg10, 0, none⟩)) (wt0 rfl) rfl rfl (x_move rfl rfl) ?_)
                refine l_of (s_val (v := .pointer (some ⟨g25, 0, none⟩)) (wt0 rfl) rfl rfl (x_fieldAddr rfl rfl fo40_0 rfl) ?_)
                refine l_of (s_val (v := .int .i64 (dd.lv)) (wt0 rfl) rfl rfl (x_load1 H128 6 rfl rfl Tryz.underlying3 rfl rfl rfl) ?_)
                refine l_of (s_val (v := .pointer (some ⟨g25, 1, none⟩)) (wt0 rfl) rfl rfl (x_fieldAddr rfl rfl fo40_1 rfl) ?_)
                refine l_of (s_val (v := .int .i64 (dd.ix)) (wt0 rfl) rfl rfl (x_load1 H128 6 rfl rfl Tryz.underlying3 rfl rfl rfl) ?_)
                refine l_of (s_val (v := .pointer (some ⟨g25, 2, none⟩)) (wt0 rfl) rfl rfl (x_fieldAddr rfl rfl fo40_2 rfl) ?_)
                refine l_of (s_val (v := .int .i64 (dd.ct)) (wt0 rfl) rfl rfl (x_load1 H128 6 rfl rfl Tryz.underlying3 rfl rfl rfl) ?_)
                refine l_of (s_val (v := .pointer (some ⟨g25, 3, none⟩)) (wt0 rfl) rfl rfl (x_fieldAddr rfl rfl fo40_3 rfl) ?_)
                refine l_of (s_val (v := .int .i64 (dd.mr)) (wt0 rfl) rfl rfl (x_load1 H128 6 rfl rfl Tryz.underlying3 rfl rfl rfl) ?_)
                have hgl := give_len (h := (tallN l.length)) (G := getT l.length M2) (v := dd.lv) (i := dd.ix) (c := dd.ct) (u := dd.mr) ht12
                refine l_of (s_call (wt0 rfl) (x_call' rfl rfl cl19) (give_s tg10 mg11 l.length (tallN l.length) (rootS l).1 (M2) dd.lv dd.ix dd.ct dd.mr hc1 hc2 ht12 gd3 _ (H128.takes [2, 3] (by decide))) ?_)
                rintro _ wq133 ⟨p129, c130, p131, c132, rfl, H134⟩
                replace H134 : S wq133 [Rw 9 1 p129 (giveS (tallN l.length) (getT l.length M2) dd.lv dd.ix dd.ct dd.mr).1.length c130 (stV (giveS (tallN l.length) (getT l.length M2) dd.lv dd.ix dd.ct dd.mr).1), Rw 9 1 p131 (giveS (tallN l.length) (getT l.length M2) dd.lv dd.ix dd.ct dd.mr).2.1.length c132 (stV (giveS (tallN l.length) (getT l.length M2) dd.lv dd.ix dd.ct dd.mr).2.1), Ob tg10 (.cells #[.int .i64 ((l.length : Int)), .int .i64 (((tallN l.length) : Int)), .string ((rootS l).1), .map (some mg11)] 75 (0, 0)), Mp placeV Value.string placeOk mg11 (M2), Ob wg14 (.cells #[.int .i64 ((l.length : Int)), .int .i64 (((tallN l.length) : Int)), .map (some wm15)] 50 (0, 0)), Mp placeV Value.string placeOk wm15 (R2), X108, Rw 9 1 p109 (runS l dd.lv dd.ix dd.ct).2.1.length c110 (stV (runS l dd.lv dd.ix dd.ct).2.1), Ob g25 (.cells #[.int .i64 (dd.lv), .int .i64 (dd.ix), .int .i64 (dd.ct), .int .i64 (dd.mr), .bool dd.own, .slice dd.p1 dd.ls.length dd.c1, .slice dd.p2 dd.us.length dd.c2] 40 (0, 0)), Old w no] := H128.absorbI (new := [Rw 9 1 p129 (giveS (tallN l.length) (getT l.length M2) dd.lv dd.ix dd.ct dd.mr).1.length c130 (stV (giveS (tallN l.length) (getT l.length M2) dd.lv dd.ix dd.ct dd.mr).1), Rw 9 1 p131 (giveS (tallN l.length) (getT l.length M2) dd.lv dd.ix dd.ct dd.mr).2.1.length c132 (stV (giveS (tallN l.length) (getT l.length M2) dd.lv dd.ix dd.ct dd.mr).2.1), Ob tg10 (.cells #[.int .i64 ((l.length : Int)), .int .i64 (((tallN l.length) : Int)), .string ((rootS l).1), .map (some mg11)] 75 (0, 0)), Mp placeV Value.string placeOk mg11 (M2)]) [2, 3] H134
                refine b_ret rfl rfl ?_
                refine l_of (s_val (v := .tuple #[.slice p129 (giveS (tallN l.length) (getT l.length M2) dd.lv dd.ix dd.ct dd.mr).1.length c130, .slice p131 (giveS (tallN l.length) (getT l.length M2) dd.lv dd.ix dd.ct dd.mr).2.1.length c132, .int .i64 ((giveS (tallN l.length) (getT l.length M2) dd.lv dd.ix dd.ct dd.mr).2.2)]) (wt0 rfl) rfl rfl (x_move rfl rfl) ?_)
                refine l_of (s_val (v := .slice p129 (giveS (tallN l.length) (getT l.length M2) dd.lv dd.ix dd.ct dd.mr).1.length c130) (wt0 rfl) rfl rfl (x_extract rfl rfl rfl) ?_)
                refine l_of (s_val (v := .slice p131 (giveS (tallN l.length) (getT l.length M2) dd.lv dd.ix dd.ct dd.mr).2.1.length c132) (wt0 rfl) rfl rfl (x_extract rfl rfl rfl) ?_)
                refine l_of (s_val (v := .int .i64 ((giveS (tallN l.length) (getT l.length M2) dd.lv dd.ix dd.ct dd.mr).2.2)) (wt0 rfl) rfl rfl (x_extract rfl rfl rfl) ?_)
                refine l_of (s_val (v := .slice p129 (giveS (tallN l.length) (getT l.length M2) dd.lv dd.ix dd.ct dd.mr).1.length c130) (wt0 rfl) rfl rfl (x_assign rfl rfl) ?_)
                refine l_of (s_val (v := .slice p131 (giveS (tallN l.length) (getT l.length M2) dd.lv dd.ix dd.ct dd.mr).2.1.length c132) (wt0 rfl) rfl rfl (x_assign rfl rfl) ?_)
                refine l_of (s_val (v := .int .i64 ((giveS (tallN l.length) (getT l.length M2) dd.lv dd.ix dd.ct dd.mr).2.2)) (wt0 rfl) rfl rfl (x_assign rfl rfl) ?_)
                refine g_nil ?_
                refine g_then ?_
                refine g_weak [(0, .slice p l.length c), (11, .pointer (some ⟨tg10, 0, none⟩)), (12, .pointer (some ⟨wg14, 0, none⟩)), (15, .pointer (some ⟨g25, 0, none⟩)), (19, .string ((getG l.length (tallN l.length) M2 dd.lv dd.ix).1)), (20, .int .i64 ((getG l.length (tallN l.length) M2 dd.lv dd.ix).2)), (21, .string ((getG l.length (tallN l.length) M2 dd.lv dd.ix).1)), (22, .int .i64 ((getG l.length (tallN l.length) M2 dd.lv dd.ix).2)), (23, .slice p129 (giveS (tallN l.length) (getT l.length M2) dd.lv dd.ix dd.ct dd.mr).1.length c130), (24, .slice p131 (giveS (tallN l.length) (getT l.length M2) dd.lv dd.ix dd.ct dd.mr).2.1.length c132), (25, .int .i64 ((giveS (tallN l.length) (getT l.length M2) dd.lv dd.ix dd.ct dd.mr).2.2)), (106, .slice pd nd cd), (107, .int .i64 ((nd : Int))), (108, .int .i64 ((k : Int))), (162, .pointer (some ⟨tc114, 0, none⟩)), (163, .bool false)] ⟨rfl, rfl, rfl, rfl, rfl, rfl, rfl, rfl, rfl, rfl, rfl, rfl, rfl, rfl, rfl, rfl, trivial⟩ ?_
                refine g_seq ?_
                refine g_region ?_
                refine l_of (s_val (v := .pointer (some ⟨wg14, 0, none⟩)) (wt0 rfl) rfl rfl (x_move rfl rfl) ?_)
                refine l_of (s_val (v := .pointer (some ⟨g25, 0, none⟩)) (wt0 rfl) rfl rfl (x_fieldAddr rfl rfl fo40_0 rfl) ?_)
                refine l_of (s_val (v := .int .i64 (dd.lv)) (wt0 rfl) rfl rfl (x_load1 H134 8 rfl rfl Tryz.underlying3 rfl rfl rfl) ?_)
                refine l_of (s_val (v := .pointer (some ⟨g25, 1, none⟩)) (wt0 rfl) rfl rfl (x_fieldAddr rfl rfl fo40_1 rfl) ?_)
                refine l_of (s_val (v := .int .i64 (dd.ix)) (wt0 rfl) rfl rfl (x_load1 H134 8 rfl rfl Tryz.underlying3 rfl rfl rfl) ?_)
                refine l_of (s_val (v := .pointer (some ⟨g25, 2, none⟩)) (wt0 rfl) rfl rfl (x_fieldAddr rfl rfl fo40_2 rfl) ?_)
                refine l_of (s_val (v := .int .i64 (dd.ct)) (wt0 rfl) rfl rfl (x_load1 H134 8 rfl rfl Tryz.underlying3 rfl rfl rfl) ?_)
                refine l_of (s_val (v := .pointer (some ⟨g25, 3, none⟩)) (wt0 rfl) rfl rfl (x_fieldAddr rfl rfl fo40_3 rfl) ?_)
                refine l_of (s_val (v := .int .i64 (dd.mr)) (wt0 rfl) rfl rfl (x_load1 H134 8 rfl rfl Tryz.underlying3 rfl rfl rfl) ?_)
                have hgv135 := give_r wg14 wm15 l.length (tallN l.length) R2 dd.lv dd.ix dd.ct dd.mr hc1 hc2 ht12 wq133 (H134.takes [4, 5] (by decide))
                rw [alike_give ht12 hA2] at hgv135
                refine l_of (s_call (wt0 rfl) (x_call' rfl rfl cl20) (hgv135) ?_)
                rintro _ wq140 ⟨p136, c137, p138, c139, rfl, H141⟩
                replace H141 : S wq140 [Rw 9 1 p136 (giveS (tallN l.length) (getT l.length M2) dd.lv dd.ix dd.ct dd.mr).1.length c137 (stV (giveS (tallN l.length) (getT l.length M2) dd.lv dd.ix dd.ct dd.mr).1), Rw 9 1 p138 (giveS (tallN l.length) (getT l.length M2) dd.lv dd.ix dd.ct dd.mr).2.1.length c139 (stV (giveS (tallN l.length) (getT l.length M2) dd.lv dd.ix dd.ct dd.mr).2.1), Ob wg14 (.cells #[.int .i64 ((l.length : Int)), .int .i64 (((tallN l.length) : Int)), .map (some wm15)] 50 (0, 0)), Mp placeV Value.string placeOk wm15 (R2), Rw 9 1 p129 (giveS (tallN l.length) (getT l.length M2) dd.lv dd.ix dd.ct dd.mr).1.length c130 (stV (giveS (tallN l.length) (getT l.length M2) dd.lv dd.ix dd.ct dd.mr).1), Rw 9 1 p131 (giveS (tallN l.length) (getT l.length M2) dd.lv dd.ix dd.ct dd.mr).2.1.length c132 (stV (giveS (tallN l.length) (getT l.length M2) dd.lv dd.ix dd.ct dd.mr).2.1), Ob tg10 (.cells #[.int .i64 ((l.length : Int)), .int .i64 (((tallN l.length) : Int)), .string ((rootS l).1), .map (some mg11)] 75 (0, 0)), Mp placeV Value.string placeOk mg11 (M2), X108, Rw 9 1 p109 (runS l dd.lv dd.ix dd.ct).2.1.length c110 (stV (runS l dd.lv dd.ix dd.ct).2.1), Ob g25 (.cells #[.int .i64 (dd.lv), .int .i64 (dd.ix), .int .i64 (dd.ct), .int .i64 (dd.mr), .bool dd.own, .slice dd.p1 dd.ls.length dd.c1, .slice dd.p2 dd.us.length dd.c2] 40 (0, 0)), Old w no] := H134.absorbI (new := [Rw 9 1 p136 (giveS (tallN l.length) (getT l.length M2) dd.lv dd.ix dd.ct dd.mr).1.length c137 (stV (giveS (tallN l.length) (getT l.length M2) dd.lv dd.ix dd.ct dd.mr).1), Rw 9 1 p138 (giveS (tallN l.length) (getT l.length M2) dd.lv dd.ix dd.ct dd.mr).2.1.length c139 (stV (giveS (tallN l.length) (getT l.length M2) dd.lv dd.ix dd.ct dd.mr).2.1), Ob wg14 (.cells #[.int .i64 ((l.length : Int)), .int .i64 (((tallN l.length) : Int)), .map (some wm15)] 50 (0, 0)), Mp placeV Value.string placeOk wm15 (R2)]) [4, 5] H141
                refine b_ret rfl rfl ?_
                refine l_of (s_val (v := .tuple #[.slice p136 (giveS (tallN l.length) (getT l.length M2) dd.lv dd.ix dd.ct dd.mr).1.length c137, .slice p138 (giveS (tallN l.length) (getT l.length M2) dd.lv dd.ix dd.ct dd.mr).2.1.length c139, .int .i64 ((giveS (tallN l.length) (getT l.length M2) dd.lv dd.ix dd.ct dd.mr).2.2)]) (wt0 rfl) rfl rfl (x_move rfl rfl) ?_)
                refine l_of (s_val (v := .slice p136 (giveS (tallN l.length) (getT l.length M2) dd.lv dd.ix dd.ct dd.mr).1.length c137) (wt0 rfl) rfl rfl (x_extract rfl rfl rfl) ?_)
                refine l_of (s_val (v := .slice p138 (giveS (tallN l.length) (getT l.length M2) dd.lv dd.ix dd.ct dd.mr).2.1.length c139) (wt0 rfl) rfl rfl (x_extract rfl rfl rfl) ?_)
                refine l_of (s_val (v := .int .i64 ((giveS (tallN l.length) (getT l.length M2) dd.lv dd.ix dd.ct dd.mr).2.2)) (wt0 rfl) rfl rfl (x_extract rfl rfl rfl) ?_)
                refine l_of (s_val (v := .slice p136 (giveS (tallN l.length) (getT l.length M2) dd.lv dd.ix dd.ct dd.mr).1.length c137) (wt0 rfl) rfl rfl (x_assign rfl rfl) ?_)
                refine l_of (s_val (v := .slice p138 (giveS (tallN l.length) (getT l.length M2) dd.lv dd.ix dd.ct dd.mr).2.1.length c139) (wt0 rfl) rfl rfl (x_assign rfl rfl) ?_)
                refine l_of (s_val (v := .int .i64 ((giveS (tallN l.length) (getT l.length M2) dd.lv dd.ix dd.ct dd.mr).2.2)) (wt0 rfl) rfl rfl (x_assign rfl rfl) ?_)
                refine g_nil ?_
                refine g_then ?_
                refine g_weak [(0, .slice p l.length c), (11, .pointer (some ⟨tg10, 0, none⟩)), (12, .pointer (some ⟨wg14, 0, none⟩)), (19, .string ((getG l.length (tallN l.length) M2 dd.lv dd.ix).1)), (20, .int .i64 ((getG l.length (tallN l.length) M2 dd.lv dd.ix).2)), (21, .string ((getG l.length (tallN l.length) M2 dd.lv dd.ix).1)), (22, .int .i64 ((getG l.length (tallN l.length) M2 dd.lv dd.ix).2)), (23, .slice p129 (giveS (tallN l.length) (getT l.length M2) dd.lv dd.ix dd.ct dd.mr).1.length c130), (24, .slice p131 (giveS (tallN l.length) (getT l.length M2) dd.lv dd.ix dd.ct dd.mr).2.1.length c132), (25, .int .i64 ((giveS (tallN l.length) (getT l.length M2) dd.lv dd.ix dd.ct dd.mr).2.2)), (26, .slice p136 (giveS (tallN l.length) (getT l.length M2) dd.lv dd.ix dd.ct dd.mr).1.length c137), (27, .slice p138 (giveS (tallN l.length) (getT l.length M2) dd.lv dd.ix dd.ct dd.mr).2.1.length c139), (28, .int .i64 ((giveS (tallN l.length) (getT l.length M2) dd.lv dd.ix dd.ct dd.mr).2.2)), (106, .slice pd nd cd), (107, .int .i64 ((nd : Int))), (108, .int .i64 ((k : Int))), (162, .pointer (some ⟨tc114, 0, none⟩)), (163, .bool false)] ⟨rfl, rfl, rfl, rfl, rfl, rfl, rfl, rfl, rfl, rfl, rfl, rfl, rfl, rfl, rfl, rfl, rfl, rfl, trivial⟩ ?_
                refine g_seq ?_
                refine g_seq ?_
                refine g_region ?_
                refine l_of (s_val (v := .string ((getG l.length (tallN l.length) M2 dd.lv dd.ix).1)) (wt0 rfl) rfl rfl (x_move rfl rfl) ?_)
                refine l_of (s_val (v := .string ((getG l.length (tallN l.length) M2 dd.lv dd.ix).1)) (wt0 rfl) rfl rfl (x_move rfl rfl) ?_)
                refine l_of (s_val (v := .bool (!decide ((getG l.length (tallN l.length) M2 dd.lv dd.ix).1 = (getG l.length (tallN l.length) M2 dd.lv dd.ix).1))) (wt0 rfl) rfl rfl (x_bin rfl rfl rfl b_nes) ?_)
                refine l_of (s_val (v := .bool (!decide ((getG l.length (tallN l.length) M2 dd.lv dd.ix).1 = (getG l.length (tallN l.length) M2 dd.lv dd.ix).1))) (wt0 rfl) rfl rfl (x_move rfl rfl) ?_)
                refine l_of (s_val (v := .int .i64 ((getG l.length (tallN l.length) M2 dd.lv dd.ix).2)) (wt1 rfl rfl rfl rfl (nf rfl)) rfl rfl (x_move rfl rfl) ?_)
                refine l_of (s_val (v := .int .i64 ((getG l.length (tallN l.length) M2 dd.lv dd.ix).2)) (wt1 rfl rfl rfl rfl (nf rfl)) rfl rfl (x_move rfl rfl) ?_)
                refine l_of (s_val (v := .bool (!decide (((getG l.length (tallN l.length) M2 dd.lv dd.ix).2 : Int) = (getG l.length (tallN l.length) M2 dd.lv dd.ix).2))) (wt1 rfl rfl rfl rfl (nf rfl)) rfl rfl (x_bin rfl rfl rfl b_neq) ?_)
                refine l_of (s_val (v := .bool (!decide (((getG l.length (tallN l.length) M2 dd.lv dd.ix).2 : Int) = (getG l.length (tallN l.length) M2 dd.lv dd.ix).2))) (wt0 rfl) rfl rfl (x_pick_f rfl rfl (nf rfl) rfl) ?_)
                refine l_of (s_val (v := .bool (!decide (((getG l.length (tallN l.length) M2 dd.lv dd.ix).2 : Int) = (getG l.length (tallN l.length) M2 dd.lv dd.ix).2))) (wt0 rfl) rfl rfl (x_move rfl rfl) ?_)
                refine l_of (s_val (v := .slice p129 (giveS (tallN l.length) (getT l.length M2) dd.lv dd.ix dd.ct dd.mr).1.length c130) (wt1 rfl rfl rfl rfl (nf rfl)) rfl rfl (x_move rfl rfl) ?_)
                refine l_of (s_val (v := .slice p136 (giveS (tallN l.length) (getT l.length M2) dd.lv dd.ix dd.ct dd.mr).1.length c137) (wt1 rfl rfl rfl rfl (nf rfl)) rfl rfl (x_move rfl rfl) ?_)
                refine l_of (s_call (wt1 rfl rfl rfl rfl (nf rfl)) (x_call' rfl rfl cl21) (texts_same (giveS (tallN l.length) (getT l.length M2) dd.lv dd.ix dd.ct dd.mr).1 p129 p136 c130 c137 (by omega) _ (H141.rwReads (k := 4) rfl) (H141.rwReads (k := 0) rfl)) ?_)
                rintro _ wq142 ⟨rfl, H143⟩
                replace H143 : S wq142 [Rw 9 1 p136 (giveS (tallN l.length) (getT l.length M2) dd.lv dd.ix dd.ct dd.mr).1.length c137 (stV (giveS (tallN l.length) (getT l.length M2) dd.lv dd.ix dd.ct dd.mr).1), Rw 9 1 p138 (giveS (tallN l.length) (getT l.length M2) dd.lv dd.ix dd.ct dd.mr).2.1.length c139 (stV (giveS (tallN l.length) (getT l.length M2) dd.lv dd.ix dd.ct dd.mr).2.1), Ob wg14 (.cells #[.int .i64 ((l.length : Int)), .int .i64 (((tallN l.length) : Int)), .map (some wm15)] 50 (0, 0)), Mp placeV Value.string placeOk wm15 (R2), Rw 9 1 p129 (giveS (tallN l.length) (getT l.length M2) dd.lv dd.ix dd.ct dd.mr).1.length c130 (stV (giveS (tallN l.length) (getT l.length M2) dd.lv dd.ix dd.ct dd.mr).1), Rw 9 1 p131 (giveS (tallN l.length) (getT l.length M2) dd.lv dd.ix dd.ct dd.mr).2.1.length c132 (stV (giveS (tallN l.length) (getT l.length M2) dd.lv dd.ix dd.ct dd.mr).2.1), Ob tg10 (.cells #[.int .i64 ((l.length : Int)), .int .i64 (((tallN l.length) : Int)), .string ((rootS l).1), .map (some mg11)] 75 (0, 0)), Mp placeV Value.string placeOk mg11 (M2), X108, Rw 9 1 p109 (runS l dd.lv dd.ix dd.ct).2.1.length c110 (stV (runS l dd.lv dd.ix dd.ct).2.1), Ob g25 (.cells #[.int .i64 (dd.lv), .int .i64 (dd.ix), .int .i64 (dd.ct), .int .i64 (dd.mr), .bool dd.own, .slice dd.p1 dd.ls.length dd.c1, .slice dd.p2 dd.us.length dd.c2] 40 (0, 0)), Old w no] := H141.absorb (new := []) H143
                refine b_ret rfl rfl ?_
                refine l_of (s_val (v := .bool false) (wt1 rfl rfl rfl rfl (nf rfl)) rfl rfl (x_not (b := true) rfl rfl) ?_)
                refine l_of (s_val (v := .bool false) (wt0 rfl) rfl rfl (x_pick_f rfl rfl (nf rfl) rfl) ?_)
                refine l_of (s_val (v := .bool false) (wt0 rfl) rfl rfl (x_move rfl rfl) ?_)
                refine l_of (s_val (v := .slice p131 (giveS (tallN l.length) (getT l.length M2) dd.lv dd.ix dd.ct dd.mr).2.1.length c132) (wt1 rfl rfl rfl rfl rfl) rfl rfl (x_move rfl rfl) ?_)
                refine l_of (s_val (v := .slice p138 (giveS (tallN l.length) (getT l.length M2) dd.lv dd.ix dd.ct dd.mr).2.1.length c139) (wt1 rfl rfl rfl rfl rfl) rfl rfl (x_move rfl rfl) ?_)
                refine l_of (s_call (wt1 rfl rfl rfl rfl rfl) (x_call' rfl rfl cl21) (texts_same (giveS (tallN l.length) (getT l.length M2) dd.lv dd.ix dd.ct dd.mr).2.1 p131 p138 c132 c139 (by omega) _ (H143.rwReads (k := 5) rfl) (H143.rwReads (k := 1) rfl)) ?_)
                rintro _ wq144 ⟨rfl, H145⟩
                replace H145 : S wq144 [Rw 9 1 p136 (giveS (tallN l.length) (getT l.length M2) dd.lv dd.ix dd.ct dd.mr).1.length c137 (stV (giveS (tallN l.length) (getT l.length M2) dd.lv dd.ix dd.ct dd.mr).1), Rw 9 1 p138 (giveS (tallN l.length) (getT l.length M2) dd.lv dd.ix dd.ct dd.mr).2.1.length c139 (stV (giveS (tallN l.length) (getT l.length M2) dd.lv dd.ix dd.ct dd.mr).2.1), Ob wg14 (.cells #[.int .i64 ((l.length : Int)), .int .i64 (((tallN l.length) : Int)), .map (some wm15)] 50 (0, 0)), Mp placeV Value.string placeOk wm15 (R2), Rw 9 1 p129 (giveS (tallN l.length) (getT l.length M2) dd.lv dd.ix dd.ct dd.mr).1.length c130 (stV (giveS (tallN l.length) (getT l.length M2) dd.lv dd.ix dd.ct dd.mr).1), Rw 9 1 p131 (giveS (tallN l.length) (getT l.length M2) dd.lv dd.ix dd.ct dd.mr).2.1.length c132 (stV (giveS (tallN l.length) (getT l.length M2) dd.lv dd.ix dd.ct dd.mr).2.1), Ob tg10 (.cells #[.int .i64 ((l.length : Int)), .int .i64 (((tallN l.length) : Int)), .string ((rootS l).1), .map (some mg11)] 75 (0, 0)), Mp placeV Value.string placeOk mg11 (M2), X108, Rw 9 1 p109 (runS l dd.lv dd.ix dd.ct).2.1.length c110 (stV (runS l dd.lv dd.ix dd.ct).2.1), Ob g25 (.cells #[.int .i64 (dd.lv), .int .i64 (dd.ix), .int .i64 (dd.ct), .int .i64 (dd.mr), .bool dd.own, .slice dd.p1 dd.ls.length dd.c1, .slice dd.p2 dd.us.length dd.c2] 40 (0, 0)), Old w no] := H143.absorb (new := []) H145
                refine b_ret rfl rfl ?_
                refine l_of (s_val (v := .bool false) (wt1 rfl rfl rfl rfl rfl) rfl rfl (x_not (b := true) rfl rfl) ?_)
                refine l_of (s_val (v := .bool false) (wt0 rfl) rfl rfl (x_pick_f rfl rfl rfl rfl) ?_)
                refine l_of (s_val (v := .bool false) (wt0 rfl) rfl rfl (x_move rfl rfl) ?_)
                refine l_of (s_val (v := .int .i64 ((giveS (tallN l.length) (getT l.length M2) dd.lv dd.ix dd.ct dd.mr).2.2)) (wt1 rfl rfl rfl rfl rfl) rfl rfl (x_move rfl rfl) ?_)
                refine l_of (s_val (v := .int .i64 ((giveS (tallN l.length) (getT l.length M2) dd.lv dd.ix dd.ct dd.mr).2.2)) (wt1 rfl rfl rfl rfl rfl) rfl rfl (x_move rfl rfl) ?_)
                refine l_of (s_val (v := .bool (!decide (((giveS (tallN l.length) (getT l.length M2) dd.lv dd.ix dd.ct dd.mr).2.2 : Int) = (giveS (tallN l.length) (getT l.length M2) dd.lv dd.ix dd.ct dd.mr).2.2))) (wt1 rfl rfl rfl rfl rfl) rfl rfl (x_bin rfl rfl rfl b_neq) ?_)
                refine l_of (s_val (v := .bool (!decide (((giveS (tallN l.length) (getT l.length M2) dd.lv dd.ix dd.ct dd.mr).2.2 : Int) = (giveS (tallN l.length) (getT l.length M2) dd.lv dd.ix dd.ct dd.mr).2.2))) (wt0 rfl) rfl rfl (x_pick_f rfl rfl rfl rfl) ?_)
                refine g_nil ?_
                refine g_then ?_
                refine g_weak [(0, .slice p l.length c), (11, .pointer (some ⟨tg10, 0, none⟩)), (12, .pointer (some ⟨wg14, 0, none⟩)), (106, .slice pd nd cd), (107, .int .i64 ((nd : Int))), (108, .int .i64 ((k : Int))), (162, .pointer (some ⟨tc114, 0, none⟩)), (163, .bool false), (235, .bool (!decide (((giveS (tallN l.length) (getT l.length M2) dd.lv dd.ix dd.ct dd.mr).2.2 : Int) = (giveS (tallN l.length) (getT l.length M2) dd.lv dd.ix dd.ct dd.mr).2.2)))] ⟨rfl, rfl, rfl, rfl, rfl, rfl, rfl, rfl, rfl, trivial⟩ ?_
                refine g_cond_f rfl (nf rfl) ?_
                refine g_skip ?_
                refine g_then ?_
                refine g_seq ?_
                refine g_region ?_
                refine l_of (s_val (v := .int .i64 (-1)) (wt0 rfl) rfl rfl (x_assign rfl rfl) ?_)
                refine g_nil ?_
                refine g_then ?_
                refine g_block ?_
                refine g_loop (ι := Int) (fun x => [(0, .slice p l.length c), (11, .pointer (some ⟨tg10, 0, none⟩)), (12, .pointer (some ⟨wg14, 0, none⟩)), (29, .int .i64 x), (106, .slice pd nd cd), (107, .int .i64 ((nd : Int))), (108, .int .i64 ((k : Int))), (162, .pointer (some ⟨tc114, 0, none⟩)), (163, .bool false)]) (fun x wx => (-1 ≤ x ∧ x ≤ ((tallN l.length) : Int) + 2) ∧ S wx [Ob tg10 (.cells #[.int .i64 ((l.length : Int)), .int .i64 (((tallN l.length) : Int)), .string ((rootS l).1), .map (some mg11)] 75 (0, 0)), Mp placeV Value.string placeOk mg11 (M2), Ob wg14 (.cells #[.int .i64 ((l.length : Int)), .int .i64 (((tallN l.length) : Int)), .map (some wm15)] 50 (0, 0)), Mp placeV Value.string placeOk wm15 (R2), Old w no]) (fun x => (((tallN l.length) : Int) + 2 - x).toNat) ((-1)) ⟨rfl, rfl, rfl, rfl, rfl, rfl, rfl, rfl, rfl, trivial⟩ ⟨(by omega), (H145.takes [6, 7, 2, 3, 11] (by decide))⟩ ?_
                rintro x wq146 ⟨hx, H147⟩
                replace H147 : S wq146 [Ob tg10 (.cells #[.int .i64 ((l.length : Int)), .int .i64 (((tallN l.length) : Int)), .string ((rootS l).1), .map (some mg11)] 75 (0, 0)), Mp placeV Value.string placeOk mg11 (M2), Ob wg14 (.cells #[.int .i64 ((l.length : Int)), .int .i64 (((tallN l.length) : Int)), .map (some wm15)] 50 (0, 0)), Mp placeV Value.string placeOk wm15 (R2), Old w no] := H147
                refine g_weak [(0, .slice p l.length c), (11, .pointer (some ⟨tg10, 0, none⟩)), (12, .pointer (some ⟨wg14, 0, none⟩)), (29, .int .i64 x), (106, .slice pd nd cd), (107, .int .i64 ((nd : Int))), (108, .int .i64 ((k : Int))), (162, .pointer (some ⟨tc114, 0, none⟩)), (163, .bool false)] ⟨rfl, rfl, rfl, rfl, rfl, rfl, rfl, rfl, rfl, trivial⟩ ?_
                refine g_seq ?_
                refine g_seq ?_
                refine g_region ?_
                refine l_of (s_val (v := .int .i64 x) (wt0 rfl) rfl rfl (x_move rfl rfl) ?_)
                refine l_of (s_val (v := .pointer (some ⟨wg14, 0, none⟩)) (wt0 rfl) rfl rfl (x_move rfl rfl) ?_)
                refine l_of (s_val (v := .pointer (some ⟨wg14, 0, none⟩)) (wt0 rfl) rfl rfl (x_nilCheck rfl rfl) ?_)
                refine l_of (s_val (v := .pointer (some ⟨wg14, 1, none⟩)) (wt0 rfl) rfl rfl (x_fieldAddr rfl rfl fo50_1 rfl) ?_)
                refine l_of (s_val (v := .int .i64 (((tallN l.length) : Int))) (wt0 rfl) rfl rfl (x_load1 H147 2 rfl rfl Tryz.underlying3 rfl rfl rfl) ?_)
                refine l_of (s_val (v := .int .i64 (((tallN l.length) : Int) + 1)) (wt0 rfl) rfl rfl (x_bin rfl rfl rfl (b_add (w64 (by omega)))) ?_)
                refine l_of (s_val (v := .bool (decide ((x : Int) ≤ ((tallN l.length) : Int) + 1))) (wt0 rfl) rfl rfl (x_bin rfl rfl rfl b_leq) ?_)
                refine g_nil ?_
                refine g_then ?_
                by_cases hb148 : (x : Int) ≤ ((tallN l.length) : Int) + 1
                · skip
                  refine g_cond_t rfl (decide_eq_true hb148) ?_
                  refine g_skip ?_
                  refine g_then ?_
                  refine g_seq ?_
                  refine g_block ?_
                  refine g_seq ?_
                  refine g_region ?_
                  refine l_of (s_val (v := .pointer (some ⟨tg10, 0, none⟩)) (wt0 rfl) rfl rfl (x_move rfl rfl) ?_)
                  refine l_of (s_val (v := .int .i64 x) (wt0 rfl) rfl rfl (x_move rfl rfl) ?_)
                  have hml := miss_len2 (n := l.length) (h := (tallN l.length)) (M := M2) (v := x) hc1 hc2
                  refine l_of (s_call (wt0 rfl) (x_call' rfl rfl cl22) (missing_s tg10 mg11 l.length (tallN l.length) (rootS l).1 (M2) x hc1 hc2 ht12 _ (H147.takes [0, 1] (by decide))) ?_)
                  rintro _ wq151 ⟨p149, c150, rfl, H152⟩
                  replace H152 : S wq151 [Rw 3 1 p149 (missT l.length (tallN l.length) M2 x).1.length c150 (intV (missT l.length (tallN l.length) M2 x).1), Ob tg10 (.cells #[.int .i64 ((l.length : Int)), .int .i64 (((tallN l.length) : Int)), .string ((rootS l).1), .map (some mg11)] 75 (0, 0)), Mp placeV Value.string placeOk mg11 (M2), Ob wg14 (.cells #[.int .i64 ((l.length : Int)), .int .i64 (((tallN l.length) : Int)), .map (some wm15)] 50 (0, 0)), Mp placeV Value.string placeOk wm15 (R2), Old w no] := H147.absorbI (new := [Rw 3 1 p149 (missT l.length (tallN l.length) M2 x).1.length c150 (intV (missT l.length (tallN l.length) M2 x).1), Ob tg10 (.cells #[.int .i64 ((l.length : Int)), .int .i64 (((tallN l.length) : Int)), .string ((rootS l).1), .map (some mg11)] 75 (0, 0)), Mp placeV Value.string placeOk mg11 (M2)]) [0, 1] H152
                  refine b_ret rfl rfl ?_
                  refine l_of (s_val (v := .tuple #[.slice p149 (missT l.length (tallN l.length) M2 x).1.length c150, .int .i64 ((missT l.length (tallN l.length) M2 x).2)]) (wt0 rfl) rfl rfl (x_move rfl rfl) ?_)
                  refine l_of (s_val (v := .slice p149 (missT l.length (tallN l.length) M2 x).1.length c150) (wt0 rfl) rfl rfl (x_extract rfl rfl rfl) ?_)
                  refine l_of (s_val (v := .int .i64 ((missT l.length (tallN l.length) M2 x).2)) (wt0 rfl) rfl rfl (x_extract rfl rfl rfl) ?_)
                  refine l_of (s_val (v := .slice p149 (missT l.length (tallN l.length) M2 x).1.length c150) (wt0 rfl) rfl rfl (x_assign rfl rfl) ?_)
                  refine l_of (s_val (v := .int .i64 ((missT l.length (tallN l.length) M2 x).2)) (wt0 rfl) rfl rfl (x_assign rfl rfl) ?_)
                  refine g_nil ?_
                  refine g_then ?_
                  refine g_weak [(0, .slice p l.length c), (11, .pointer (some ⟨tg10, 0, none⟩)), (12, .pointer (some ⟨wg14, 0, none⟩)), (29, .int .i64 x), (30, .slice p149 (missT l.length (tallN l.length) M2 x).1.length c150), (31, .int .i64 ((missT l.length (tallN l.length) M2 x).2)), (106, .slice pd nd cd), (107, .int .i64 ((nd : Int))), (108, .int .i64 ((k : Int))), (162, .pointer (some ⟨tc114, 0, none⟩)), (163, .bool false)] ⟨rfl, rfl, rfl, rfl, rfl, rfl, rfl, rfl, rfl, rfl, rfl, trivial⟩ ?_
                  refine g_seq ?_
                  refine g_region ?_
                  refine l_of (s_val (v := .pointer (some ⟨wg14, 0, none⟩)) (wt0 rfl) rfl rfl (x_move rfl rfl) ?_)
                  refine l_of (s_val (v := .int .i64 x) (wt0 rfl) rfl rfl (x_move rfl rfl) ?_)
                  have hmr153 := missing_r wg14 wm15 l.length (tallN l.length) R2 x hc1 hc2 ht12 wq151 (H152.takes [3, 4] (by decide))
                  rw [alike_miss hce hA2] at hmr153
                  refine l_of (s_call (wt0 rfl) (x_call' rfl rfl cl23) (hmr153) ?_)
                  rintro _ wq156 ⟨p154, c155, rfl, H157⟩
                  replace H157 : S wq156 [Rw 3 1 p154 (missT l.length (tallN l.length) M2 x).1.length c155 (intV (missT l.length (tallN l.length) M2 x).1), Ob wg14 (.cells #[.int .i64 ((l.length : Int)), .int .i64 (((tallN l.length) : Int)), .map (some wm15)] 50 (0, 0)), Mp placeV Value.string placeOk wm15 (R2), Rw 3 1 p149 (missT l.length (tallN l.length) M2 x).1.length c150 (intV (missT l.length (tallN l.length) M2 x).1), Ob tg10 (.cells #[.int .i64 ((l.length : Int)), .int .i64 (((tallN l.length) : Int)), .string ((rootS l).1), .map (some mg11)] 75 (0, 0)), Mp placeV Value.string placeOk mg11 (M2), Old w no] := H152.absorbI (new := [Rw 3 1 p154 (missT l.length (tallN l.length) M2 x).1.length c155 (intV (missT l.length (tallN l.length) M2 x).1), Ob wg14 (.cells #[.int .i64 ((l.length : Int)), .int .i64 (((tallN l.length) : Int)), .map (some wm15)] 50 (0, 0)), Mp placeV Value.string placeOk wm15 (R2)]) [3, 4] H157
                  refine b_ret rfl rfl ?_
                  refine l_of (s_val (v := .tuple #[.slice p154 (missT l.length (tallN l.length) M2 x).1.length c155, .int .i64 ((missT l.length (tallN l.length) M2 x).2)]) (wt0 rfl) rfl rfl (x_move rfl rfl) ?_)
                  refine l_of (s_val (v := .slice p154 (missT l.length (tallN l.length) M2 x).1.length c155) (wt0 rfl) rfl rfl (x_extract rfl rfl rfl) ?_)
                  refine l_of (s_val (v := .int .i64 ((missT l.length (tallN l.length) M2 x).2)) (wt0 rfl) rfl rfl (x_extract rfl rfl rfl) ?_)
                  refine l_of (s_val (v := .slice p154 (missT l.length (tallN l.length) M2 x).1.length c155) (wt0 rfl) rfl rfl (x_assign rfl rfl) ?_)
                  refine l_of (s_val (v := .int .i64 ((missT l.length (tallN l.length) M2 x).2)) (wt0 rfl) rfl rfl (x_assign rfl rfl) ?_)
                  refine g_nil ?_
                  refine g_then ?_
                  refine g_seq ?_
                  refine g_region ?_
                  refine l_of (s_val (v := .pointer (some ⟨tg10, 0, none⟩)) (wt0 rfl) rfl rfl (x_move rfl rfl) ?_)
                  refine l_of (s_val (v := .int .i64 x) (wt0 rfl) rfl rfl (x_move rfl rfl) ?_)
                  have hkn158 := known_s tg10 mg11 l.length (tallN l.length) (rootS l).1 (M2) x hc1 hc2 ht12 wq156 (H157.takes [4, 5] (by decide))
                  rw [known_snd] at hkn158
                  refine l_of (s_call (wt0 rfl) (x_call' rfl rfl cl24) (hkn158) ?_)
                  rintro _ wq159 ⟨rfl, H160⟩
                  replace H160 : S wq159 [Ob tg10 (.cells #[.int .i64 ((l.length : Int)), .int .i64 (((tallN l.length) : Int)), .string ((rootS l).1), .map (some mg11)] 75 (0, 0)), Mp placeV Value.string placeOk mg11 (M2), Rw 3 1 p154 (missT l.length (tallN l.length) M2 x).1.length c155 (intV (missT l.length (tallN l.length) M2 x).1), Ob wg14 (.cells #[.int .i64 ((l.length : Int)), .int .i64 (((tallN l.length) : Int)), .map (some wm15)] 50 (0, 0)), Mp placeV Value.string placeOk wm15 (R2), Rw 3 1 p149 (missT l.length (tallN l.length) M2 x).1.length c150 (intV (missT l.length (tallN l.length) M2 x).1), Old w no] := H157.absorbI (new := [Ob tg10 (.cells #[.int .i64 ((l.length : Int)), .int .i64 (((tallN l.length) : Int)), .string ((rootS l).1), .map (some mg11)] 75 (0, 0)), Mp placeV Value.string placeOk mg11 (M2)]) [4, 5] H160
                  refine b_ret rfl rfl ?_
                  refine l_of (s_val (v := .tuple #[.int .i64 ((knownT l.length (tallN l.length) M2 x).1), .int .i64 ((missT l.length (tallN l.length) M2 x).2)]) (wt0 rfl) rfl rfl (x_move rfl rfl) ?_)
                  refine l_of (s_val (v := .int .i64 ((knownT l.length (tallN l.length) M2 x).1)) (wt0 rfl) rfl rfl (x_extract rfl rfl rfl) ?_)
                  refine l_of (s_val (v := .int .i64 ((missT l.length (tallN l.length) M2 x).2)) (wt0 rfl) rfl rfl (x_extract rfl rfl rfl) ?_)
                  refine l_of (s_val (v := .int .i64 ((knownT l.length (tallN l.length) M2 x).1)) (wt0 rfl) rfl rfl (x_assign rfl rfl) ?_)
                  refine l_of (s_val (v := .int .i64 ((missT l.length (tallN l.length) M2 x).2)) (wt0 rfl) rfl rfl (x_assign rfl rfl) ?_)
                  refine g_nil ?_
                  refine g_then ?_
                  refine g_weak [(0, .slice p l.length c), (11, .pointer (some ⟨tg10, 0, none⟩)), (12, .pointer (some ⟨wg14, 0, none⟩)), (29, .int .i64 x), (30, .slice p149 (missT l.length (tallN l.length) M2 x).1.length c150), (31, .int .i64 ((missT l.length (tallN l.length) M2 x).2)), (32, .slice p154 (missT l.length (tallN l.length) M2 x).1.length c155), (33, .int .i64 ((missT l.length (tallN l.length) M2 x).2)), (34, .int .i64 ((knownT l.length (tallN l.length) M2 x).1)), (35, .int .i64 ((missT l.length (tallN l.length) M2 x).2)), (106, .slice pd nd cd), (107, .int .i64 ((nd : Int))), (108, .int .i64 ((k : Int))), (162, .pointer (some ⟨tc114, 0, none⟩)), (163, .bool false)] ⟨rfl, rfl, rfl, rfl, rfl, rfl, rfl, rfl, rfl, rfl, rfl, rfl, rfl, rfl, rfl, trivial⟩ ?_
                  refine g_seq ?_
                  refine g_seq ?_
                  refine g_region ?_
                  refine l_of (s_val (v := .slice p149 (missT l.length (tallN l.length) M2 x).1.length c150) (wt0 rfl) rfl rfl (x_move rfl rfl) ?_)
                  refine l_of (s_val (v := .int .i64 (((missT l.length (tallN l.length) M2 x).1.length : Int))) (wt0 rfl) rfl rfl (x_lenl rfl rfl Tryz.underlying51) ?_)
                  refine l_of (s_val (v := .slice p154 (missT l.length (tallN l.length) M2 x).1.length c155) (wt0 rfl) rfl rfl (x_move rfl rfl) ?_)
                  refine l_of (s_val (v := .int .i64 (((missT l.length (tallN l.length) M2 x).1.length : Int))) (wt0 rfl) rfl rfl (x_lenl rfl rfl Tryz.underlying51) ?_)
                  refine l_of (s_val (v := .bool (!decide ((((missT l.length (tallN l.length) M2 x).1.length : Int) : Int) = ((missT l.length (tallN l.length) M2 x).1.length : Int)))) (wt0 rfl) rfl rfl (x_bin rfl rfl rfl b_neq) ?_)
                  refine l_of (s_val (v := .bool (!decide ((((missT l.length (tallN l.length) M2 x).1.length : Int) : Int) = ((missT l.length (tallN l.length) M2 x).1.length : Int)))) (wt0 rfl) rfl rfl (x_move rfl rfl) ?_)
                  refine l_of (s_val (v := .int .i64 ((missT l.length (tallN l.length) M2 x).2)) (wt1 rfl rfl rfl rfl (nf rfl)) rfl rfl (x_move rfl rfl) ?_)
                  refine l_of (s_val (v := .int .i64 ((missT l.length (tallN l.length) M2 x).2)) (wt1 rfl rfl rfl rfl (nf rfl)) rfl rfl (x_move rfl rfl) ?_)
                  refine l_of (s_val (v := .bool (!decide (((missT l.length (tallN l.length) M2 x).2 : Int) = (missT l.length (tallN l.length) M2 x).2))) (wt1 rfl rfl rfl rfl (nf rfl)) rfl rfl (x_bin rfl rfl rfl b_neq) ?_)
                  refine l_of (s_val (v := .bool (!decide (((missT l.length (tallN l.length) M2 x).2 : Int) = (missT l.length (tallN l.length) M2 x).2))) (wt0 rfl) rfl rfl (x_pick_f rfl rfl (nf rfl) rfl) ?_)
                  refine l_of (s_val (v := .bool (!decide (((missT l.length (tallN l.length) M2 x).2 : Int) = (missT l.length (tallN l.length) M2 x).2))) (wt0 rfl) rfl rfl (x_move rfl rfl) ?_)
                  refine l_of (s_val (v := .int .i64 ((missT l.length (tallN l.length) M2 x).2)) (wt1 rfl rfl rfl rfl (nf rfl)) rfl rfl (x_move rfl rfl) ?_)
                  refine l_of (s_val (v := .int .i64 ((missT l.length (tallN l.length) M2 x).2)) (wt1 rfl rfl rfl rfl (nf rfl)) rfl rfl (x_move rfl rfl) ?_)
                  refine l_of (s_val (v := .bool (!decide (((missT l.length (tallN l.length) M2 x).2 : Int) = (missT l.length (tallN l.length) M2 x).2))) (wt1 rfl rfl rfl rfl (nf rfl)) rfl rfl (x_bin rfl rfl rfl b_neq) ?_)
                  refine l_of (s_val (v := .bool (!decide (((missT l.length (tallN l.length) M2 x).2 : Int) = (missT l.length (tallN l.length) M2 x).2))) (wt0 rfl) rfl rfl (x_pick_f rfl rfl (nf rfl) rfl) ?_)
                  refine l_of (s_val (v := .bool (!decide (((missT l.length (tallN l.length) M2 x).2 : Int) = (missT l.length (tallN l.length) M2 x).2))) (wt0 rfl) rfl rfl (x_move rfl rfl) ?_)
                  refine l_of (s_val (v := .int .i64 ((missT l.length (tallN l.length) M2 x).2)) (wt1 rfl rfl rfl rfl (nf rfl)) rfl rfl (x_move rfl rfl) ?_)
                  refine l_of (s_val (v := .bool (decide (((missT l.length (tallN l.length) M2 x).2 : Int) = 0))) (wt1 rfl rfl rfl rfl (nf rfl)) rfl rfl (x_bin rfl rfl rfl b_eql) ?_)
                  refine l_of (s_val (v := .bool (decide (((missT l.length (tallN l.length) M2 x).2 : Int) = 0))) (wt1 rfl rfl rfl rfl (nf rfl)) rfl rfl (x_move rfl rfl) ?_)
                  by_cases hb161 : ((missT l.length (tallN l.length) M2 x).2 : Int) = 0
                  · skip
                    refine l_of (s_val (v := .int .i64 ((knownT l.length (tallN l.length) M2 x).1)) (wt1 rfl rfl rfl rfl (decide_eq_true hb161)) rfl rfl (x_move rfl rfl) ?_)
                    refine l_of (s_val (v := .pointer (some ⟨wg14, 0, none⟩)) (wt1 rfl rfl rfl rfl (decide_eq_true hb161)) rfl rfl (x_move rfl rfl) ?_)
                    refine l_of (s_val (v := .pointer (some ⟨wg14, 0, none⟩)) (wt1 rfl rfl rfl rfl (decide_eq_true hb161)) rfl rfl (x_nilCheck rfl rfl) ?_)
                    refine l_of (s_val (v := .pointer (some ⟨wg14, 0, none⟩)) (wt1 rfl rfl rfl rfl (decide_eq_true hb161)) rfl rfl (x_fieldAddr rfl rfl fo50_0 rfl) ?_)
                    refine l_of (s_val (v := .int .i64 ((l.length : Int))) (wt1 rfl rfl rfl rfl (decide_eq_true hb161)) rfl rfl (x_load1 H160 3 rfl rfl Tryz.underlying3 rfl rfl rfl) ?_)
                    refine l_of (s_val (v := .int .i64 x) (wt1 rfl rfl rfl rfl (decide_eq_true hb161)) rfl rfl (x_move rfl rfl) ?_)
                    obtain ⟨kf1, kf2, kf3⟩ := known_fst hb161
                    have hcl2 := count_n1 (n := l.length) (v := x.toNat) hc1
                    have hcn162 := count_r l.length x.toNat hc1 (by omega) (by omega) wq159
                    rw [show ((x.toNat : Nat) : Int) = x from by omega] at hcn162
                    refine l_of (s_call (wt1 rfl rfl rfl rfl (decide_eq_true hb161)) (x_call' rfl rfl cl25) (hcn162) ?_)
                    rintro _ wq163 ⟨rfl, H164⟩
                    replace H164 : S wq163 [Ob tg10 (.cells #[.int .i64 ((l.length : Int)), .int .i64 (((tallN l.length) : Int)), .string ((rootS l).1), .map (some mg11)] 75 (0, 0)), Mp placeV Value.string placeOk mg11 (M2), Rw 3 1 p154 (missT l.length (tallN l.length) M2 x).1.length c155 (intV (missT l.length (tallN l.length) M2 x).1), Ob wg14 (.cells #[.int .i64 ((l.length : Int)), .int .i64 (((tallN l.length) : Int)), .map (some wm15)] 50 (0, 0)), Mp placeV Value.string placeOk wm15 (R2), Rw 3 1 p149 (missT l.length (tallN l.length) M2 x).1.length c150 (intV (missT l.length (tallN l.length) M2 x).1), Old w no] := H160.absorb (new := []) H164
                    refine b_ret rfl rfl ?_
                    refine l_of (s_val (v := .slice p154 (missT l.length (tallN l.length) M2 x).1.length c155) (wt1 rfl rfl rfl rfl (decide_eq_true hb161)) rfl rfl (x_move rfl rfl) ?_)
                    refine l_of (s_val (v := .int .i64 (((missT l.length (tallN l.length) M2 x).1.length : Int))) (wt1 rfl rfl rfl rfl (decide_eq_true hb161)) rfl rfl (x_lenl rfl rfl Tryz.underlying51) ?_)
                    refine l_of (s_val (v := .int .i64 ((countN l.length x.toNat : Int) - ((missT l.length (tallN l.length) M2 x).1.length : Int))) (wt1 rfl rfl rfl rfl (decide_eq_true hb161)) rfl rfl (x_bin rfl rfl rfl (b_sub (w64 (by omega)))) ?_)
                    refine l_of (s_val (v := .bool (!decide (((knownT l.length (tallN l.length) M2 x).1 : Int) = (countN l.length x.toNat : Int) - ((missT l.length (tallN l.length) M2 x).1.length : Int)))) (wt1 rfl rfl rfl rfl (decide_eq_true hb161)) rfl rfl (x_bin rfl rfl rfl b_neq) ?_)
                    refine l_of (s_val (v := .bool (!decide (((knownT l.length (tallN l.length) M2 x).1 : Int) = (countN l.length x.toNat : Int) - ((missT l.length (tallN l.length) M2 x).1.length : Int)))) (wt1 rfl rfl rfl rfl (nf rfl)) rfl rfl (x_pick_t rfl rfl (decide_eq_true hb161) rfl) ?_)
                    refine l_of (s_val (v := .bool (!decide (((knownT l.length (tallN l.length) M2 x).1 : Int) = (countN l.length x.toNat : Int) - ((missT l.length (tallN l.length) M2 x).1.length : Int)))) (wt0 rfl) rfl rfl (x_pick_f rfl rfl (nf rfl) rfl) ?_)
                    refine g_nil ?_
                    refine g_then ?_
                    refine g_weak [(0, .slice p l.length c), (11, .pointer (some ⟨tg10, 0, none⟩)), (12, .pointer (some ⟨wg14, 0, none⟩)), (29, .int .i64 x), (30, .slice p149 (missT l.length (tallN l.length) M2 x).1.length c150), (32, .slice p154 (missT l.length (tallN l.length) M2 x).1.length c155), (106, .slice pd nd cd), (107, .int .i64 ((nd : Int))), (108, .int .i64 ((k : Int))), (162, .pointer (some ⟨tc114, 0, none⟩)), (163, .bool false), (294, .bool (!decide (((knownT l.length (tallN l.length) M2 x).1 : Int) = (countN l.length x.toNat : Int) - ((missT l.length (tallN l.length) M2 x).1.length : Int))))] ⟨rfl, rfl, rfl, rfl, rfl, rfl, rfl, rfl, rfl, rfl, rfl, rfl, trivial⟩ ?_
                    by_cases hb165 : ((knownT l.length (tallN l.length) M2 x).1 : Int) = (countN l.length x.toNat : Int) - ((missT l.length (tallN l.length) M2 x).1.length : Int)
                    · skip
                      refine g_cond_f rfl (nf hb165) ?_
                      refine g_skip ?_
                      refine g_then ?_
                      refine g_seq ?_
                      refine g_region ?_
                      refine l_of (s_val (v := .slice p149 (missT l.length (tallN l.length) M2 x).1.length c150) (wt0 rfl) rfl rfl (x_move rfl rfl) ?_)
                      refine l_of (s_val (v := .int .i64 (((missT l.length (tallN l.length) M2 x).1.length : Int))) (wt0 rfl) rfl rfl (x_lenl rfl rfl Tryz.underlying51) ?_)
                      refine l_of (s_val (v := .int .i64 0) (wt0 rfl) rfl rfl (x_move rfl rfl) ?_)
                      refine g_nil ?_
                      refine g_then ?_
                      refine g_block ?_
                      refine g_loop (ι := Nat) (fun jj => [(0, .slice p l.length c), (11, .pointer (some ⟨tg10, 0, none⟩)), (12, .pointer (some ⟨wg14, 0, none⟩)), (29, .int .i64 x), (30, .slice p149 (missT l.length (tallN l.length) M2 x).1.length c150), (32, .slice p154 (missT l.length (tallN l.length) M2 x).1.length c155), (106, .slice pd nd cd), (107, .int .i64 ((nd : Int))), (108, .int .i64 ((k : Int))), (162, .pointer (some ⟨tc114, 0, none⟩)), (163, .bool false), (296, .int .i64 (((missT l.length (tallN l.length) M2 x).1.length : Int))), (297, .int .i64 ((jj : Int)))]) (fun jj wx => (jj ≤ (missT l.length (tallN l.length) M2 x).1.length) ∧ S wx [Ob tg10 (.cells #[.int .i64 ((l.length : Int)), .int .i64 (((tallN l.length) : Int)), .string ((rootS l).1), .map (some mg11)] 75 (0, 0)), Mp placeV Value.string placeOk mg11 (M2), Rw 3 1 p154 (missT l.length (tallN l.length) M2 x).1.length c155 (intV (missT l.length (tallN l.length) M2 x).1), Ob wg14 (.cells #[.int .i64 ((l.length : Int)), .int .i64 (((tallN l.length) : Int)), .map (some wm15)] 50 (0, 0)), Mp placeV Value.string placeOk wm15 (R2), Rw 3 1 p149 (missT l.length (tallN l.length) M2 x).1.length c150 (intV (missT l.length (tallN l.length) M2 x).1), Old w no]) (fun jj => (missT l.length (tallN l.length) M2 x).1.length - jj) (0) ⟨rfl, rfl, rfl, rfl, rfl, rfl, rfl, rfl, rfl, rfl, rfl, rfl, rfl, trivial⟩ ⟨Nat.zero_le _, H164⟩ ?_
                      rintro jj wq166 ⟨hj, H167⟩
                      replace H167 : S wq166 [Ob tg10 (.cells #[.int .i64 ((l.length : Int)), .int .i64 (((tallN l.length) : Int)), .string ((rootS l).1), .map (some mg11)] 75 (0, 0)), Mp placeV Value.string placeOk mg11 (M2), Rw 3 1 p154 (missT l.length (tallN l.length) M2 x).1.length c155 (intV (missT l.length (tallN l.length) M2 x).1), Ob wg14 (.cells #[.int .i64 ((l.length : Int)), .int .i64 (((tallN l.length) : Int)), .map (some wm15)] 50 (0, 0)), Mp placeV Value.string placeOk wm15 (R2), Rw 3 1 p149 (missT l.length (tallN l.length) M2 x).1.length c150 (intV (missT l.length (tallN l.length) M2 x).1), Old w no] := H167
                      refine g_weak [(0, .slice p l.length c), (11, .pointer (some ⟨tg10, 0, none⟩)), (12, .pointer (some ⟨wg14, 0, none⟩)), (29, .int .i64 x), (30, .slice p149 (missT l.length (tallN l.length) M2 x).1.length c150), (32, .slice p154 (missT l.length (tallN l.length) M2 x).1.length c155), (106, .slice pd nd cd), (107, .int .i64 ((nd : Int))), (108, .int .i64 ((k : Int))), (162, .pointer (some ⟨tc114, 0, none⟩)), (163, .bool false), (296, .int .i64 (((missT l.length (tallN l.length) M2 x).1.length : Int))), (297, .int .i64 ((jj : Int)))] ⟨rfl, rfl, rfl, rfl, rfl, rfl, rfl, rfl, rfl, rfl, rfl, rfl, rfl, trivial⟩ ?_
                      refine g_seq ?_
                      refine g_region ?_
                      refine l_of (s_val (v := .bool (decide (((jj : Int) : Int) < ((missT l.length (tallN l.length) M2 x).1.length : Int)))) (wt0 rfl) rfl rfl (x_bin rfl rfl rfl b_lss) ?_)
                      refine g_nil ?_
                      refine g_then ?_
                      refine g_seq ?_
                      by_cases hb168 : ((jj : Int) : Int) < ((missT l.length (tallN l.length) M2 x).1.length : Int)
                      · skip
                        have hsm169 : ∃ a, p149 = some a := ((H167.rwReads (k := 5) rfl).2.2 (by omega)).imp fun _ h => h.1
                        have hsm170 : ∃ a, p154 = some a := ((H167.rwReads (k := 2) rfl).2.2 (by omega)).imp fun _ h => h.1
                        refine g_cond_t rfl (decide_eq_true hb168) ?_
                        refine g_skip ?_
                        refine g_then ?_
                        refine g_seq ?_
                        refine g_block ?_
                        refine g_seq ?_
                        refine g_region ?_
                        refine l_of (s_val (v := .int .i64 ((jj : Int))) (wt0 rfl) rfl rfl (x_move rfl rfl) ?_)
                        refine l_of (s_val (v := .int .i64 ((jj : Int))) (wt0 rfl) rfl rfl (x_assign rfl rfl) ?_)
                        refine g_nil ?_
                        refine g_then ?_
                        refine g_seq ?_
                        refine g_quiet (by kernel_rfl) (by kernel_rfl) H167 ?_
                        refine q_val (v := .slice p149 (missT l.length (tallN l.length) M2 x).1.length c150) (wt0 rfl) rfl rfl (fun wx H => x_move rfl rfl) ?_
                        refine q_val (v := .int .i64 ((jj : Int))) (wt0 rfl) rfl rfl (fun wx H => x_move rfl rfl) ?_
                        refine q_val (v := .pointer ((p149).map fun q => q.add (jj * 1))) (wt0 rfl) rfl rfl (fun wx H => x_idxP jj (hsm169) rfl rfl rfl Tryz.underlying51 sz3 (by omega)) ?_
                        refine q_val (v := .int .i64 (((((missT l.length (tallN l.length) M2 x).1).getD (jj) 0 : Nat) : Int))) (wt0 rfl) rfl rfl (fun wx H => x_loadR1 jj (H.rwReads (k := 5) rfl) (by omega) rfl rfl Tryz.underlying3 rfl (intV_at (by omega))) ?_
                        refine q_val (v := .slice p154 (missT l.length (tallN l.length) M2 x).1.length c155) (wt0 rfl) rfl rfl (fun wx H => x_move rfl rfl) ?_
                        refine q_val (v := .int .i64 ((jj : Int))) (wt0 rfl) rfl rfl (fun wx H => x_move rfl rfl) ?_
                        refine q_val (v := .pointer ((p154).map fun q => q.add (jj * 1))) (wt0 rfl) rfl rfl (fun wx H => x_idxP jj (hsm170) rfl rfl rfl Tryz.underlying51 sz3 (by omega)) ?_
                        refine q_val (v := .int .i64 (((((missT l.length (tallN l.length) M2 x).1).getD (jj) 0 : Nat) : Int))) (wt0 rfl) rfl rfl (fun wx H => x_loadR1 jj (H.rwReads (k := 2) rfl) (by omega) rfl rfl Tryz.underlying3 rfl (intV_at (by omega))) ?_
                        refine q_val (v := .bool (!decide ((((((missT l.length (tallN l.length) M2 x).1).getD (jj) 0 : Nat) : Int) : Int) = ((((missT l.length (tallN l.length) M2 x).1).getD (jj) 0 : Nat) : Int)))) (wt0 rfl) rfl rfl (fun wx H => x_bin rfl rfl rfl b_neq) ?_
                        refine q_nil (fun wq171 H172 => ?_)
                        refine g_then ?_
                        refine g_cond_f rfl (nf rfl) ?_
                        refine g_skip ?_
                        refine g_in ?_
                        refine g_then ?_
                        refine g_weak [(0, .slice p l.length c), (11, .pointer (some ⟨tg10, 0, none⟩)), (12, .pointer (some ⟨wg14, 0, none⟩)), (29, .int .i64 x), (30, .slice p149 (missT l.length (tallN l.length) M2 x).1.length c150), (32, .slice p154 (missT l.length (tallN l.length) M2 x).1.length c155), (106, .slice pd nd cd), (107, .int .i64 ((nd : Int))), (108, .int .i64 ((k : Int))), (162, .pointer (some ⟨tc114, 0, none⟩)), (163, .bool false), (296, .int .i64 (((missT l.length (tallN l.length) M2 x).1.length : Int))), (297, .int .i64 ((jj : Int)))] ⟨rfl, rfl, rfl, rfl, rfl, rfl, rfl, rfl, rfl, rfl, rfl, rfl, rfl, trivial⟩ ?_
                        refine g_region ?_
                        refine l_of (s_val (v := .int .i64 (((jj + 1 : Nat) : Int))) (wt0 rfl) rfl rfl (x_bin rfl rfl rfl (b_addN (a := jj) (b := 1) (by omega))) ?_)
                        refine l_of (s_val (v := .int .i64 (((jj + 1 : Nat) : Int))) (wt0 rfl) rfl rfl (x_move rfl rfl) ?_)
                        refine g_nil ?_
                        refine g_then ?_
                        refine g_round (i := (jj)) (jj + 1) ?_ ?_ ?_
                        · exact ⟨rfl, rfl, rfl, rfl, rfl, rfl, rfl, rfl, rfl, rfl, rfl, rfl, rfl, trivial⟩
                        · exact ⟨by omega, (H172.takes [0, 1, 2, 3, 4, 5, 6] (by decide))⟩
                        · (try dsimp only); omega
                      · skip
                        refine g_cond_f rfl (decide_eq_false hb168) ?_
                        refine g_exit ?_
                        refine g_then_exit ?_
                        refine g_then_exit ?_
                        refine g_in_hit ?_
                        refine g_in ?_
                        refine g_then ?_
                        refine g_region ?_
                        refine l_of (s_val (v := .int .i64 x) (wt0 rfl) rfl rfl (x_move rfl rfl) ?_)
                        refine l_of (s_val (v := .int .i64 (x + 1)) (wt0 rfl) rfl rfl (x_bin rfl rfl rfl (b_add (w64 (by omega)))) ?_)
                        refine l_of (s_val (v := .int .i64 (x + 1)) (wt0 rfl) rfl rfl (x_assign rfl rfl) ?_)
                        refine g_nil ?_
                        refine g_then ?_
                        refine g_round (i := (x)) (x + 1) ?_ ?_ ?_
                        · exact ⟨rfl, rfl, rfl, rfl, rfl, rfl, rfl, rfl, rfl, trivial⟩
                        · exact ⟨(by omega), (H167.takes [0, 1, 3, 4, 6] (by decide))⟩
                        · (try dsimp only); omega
                    · skip
                      refine g_cond_t rfl (nt hb165) ?_
                      refine g_seq ?_
                      refine g_region ?_
                      refine l_of (s_val (v := .bool false) (wt0 rfl) rfl rfl (x_assign rfl rfl) ?_)
                      refine g_nil ?_
                      refine g_then ?_
                      refine g_weak [(4, .bool false)] ⟨rfl, trivial⟩ ?_
                      refine g_ret ?_
                      refine g_then_ret ?_
                      refine g_in_ret ?_
                      refine g_then_ret ?_
                      refine g_then_ret ?_
                      refine g_in_ret ?_
                      refine g_in_ret ?_
                      refine g_then_ret ?_
                      refine g_then_ret ?_
                      refine g_in_ret ?_
                      refine g_then_ret ?_
                      refine fin_ret [.tmp 4] [.bool false] rfl ⟨rfl, trivial⟩ ?_
                      exact absurd kf3 hb165
                  · skip
                    refine l_of (s_not (wn1 rfl rfl rfl rfl (decide_eq_false hb161)) rfl rfl ?_)
                    refine l_of (s_not (wn1 rfl rfl rfl rfl (decide_eq_false hb161)) rfl rfl ?_)
                    refine l_of (s_not (wn1 rfl rfl rfl rfl (decide_eq_false hb161)) rfl rfl ?_)
                    refine l_of (s_not (wn1 rfl rfl rfl rfl (decide_eq_false hb161)) rfl rfl ?_)
                    refine l_of (s_not (wn1 rfl rfl rfl rfl (decide_eq_false hb161)) rfl rfl ?_)
                    refine l_of (s_not (wn1 rfl rfl rfl rfl (decide_eq_false hb161)) rfl rfl ?_)
                    refine l_of (s_not (wn1 rfl rfl rfl rfl (decide_eq_false hb161)) rfl rfl ?_)
                    refine l_of (s_not (wn1 rfl rfl rfl rfl (decide_eq_false hb161)) rfl rfl ?_)
                    refine l_of (s_not (wn1 rfl rfl rfl rfl (decide_eq_false hb161)) rfl rfl ?_)
                    refine l_of (s_not (wn1 rfl rfl rfl rfl (decide_eq_false hb161)) rfl rfl ?_)
                    refine l_of (s_not (wn1 rfl rfl rfl rfl (decide_eq_false hb161)) rfl rfl ?_)
                    refine l_of (s_val (v := .bool false) (wt1 rfl rfl rfl rfl (nf rfl)) rfl rfl (x_pick_f rfl rfl (decide_eq_false hb161) rfl) ?_)
                    refine l_of (s_val (v := .bool false) (wt0 rfl) rfl rfl (x_pick_f rfl rfl (nf rfl) rfl) ?_)
                    refine g_nil ?_
                    refine g_then ?_
                    refine g_weak [(0, .slice p l.length c), (11, .pointer (some ⟨tg10, 0, none⟩)), (12, .pointer (some ⟨wg14, 0, none⟩)), (29, .int .i64 x), (30, .slice p149 (missT l.length (tallN l.length) M2 x).1.length c150), (32, .slice p154 (missT l.length (tallN l.length) M2 x).1.length c155), (106, .slice pd nd cd), (107, .int .i64 ((nd : Int))), (108, .int .i64 ((k : Int))), (162, .pointer (some ⟨tc114, 0, none⟩)), (163, .bool false), (294, .bool false)] ⟨rfl, rfl, rfl, rfl, rfl, rfl, rfl, rfl, rfl, rfl, rfl, rfl, trivial⟩ ?_
                    refine g_cond_f rfl rfl ?_
                    refine g_skip ?_
                    refine g_then ?_
                    refine g_seq ?_
                    refine g_region ?_
                    refine l_of (s_val (v := .slice p149 (missT l.length (tallN l.length) M2 x).1.length c150) (wt0 rfl) rfl rfl (x_move rfl rfl) ?_)
                    refine l_of (s_val (v := .int .i64 (((missT l.length (tallN l.length) M2 x).1.length : Int))) (wt0 rfl) rfl rfl (x_lenl rfl rfl Tryz.underlying51) ?_)
                    refine l_of (s_val (v := .int .i64 0) (wt0 rfl) rfl rfl (x_move rfl rfl) ?_)
                    refine g_nil ?_
                    refine g_then ?_
                    refine g_block ?_
                    refine g_loop (ι := Nat) (fun jj => [(0, .slice p l.length c), (11, .pointer (some ⟨tg10, 0, none⟩)), (12, .pointer (some ⟨wg14, 0, none⟩)), (29, .int .i64 x), (30, .slice p149 (missT l.length (tallN l.length) M2 x).1.length c150), (32, .slice p154 (missT l.length (tallN l.length) M2 x).1.length c155), (106, .slice pd nd cd), (107, .int .i64 ((nd : Int))), (108, .int .i64 ((k : Int))), (162, .pointer (some ⟨tc114, 0, none⟩)), (163, .bool false), (296, .int .i64 (((missT l.length (tallN l.length) M2 x).1.length : Int))), (297, .int .i64 ((jj : Int)))]) (fun jj wx => (jj ≤ (missT l.length (tallN l.length) M2 x).1.length) ∧ S wx [Ob tg10 (.cells #[.int .i64 ((l.length : Int)), .int .i64 (((tallN l.length) : Int)), .string ((rootS l).1), .map (some mg11)] 75 (0, 0)), Mp placeV Value.string placeOk mg11 (M2), Rw 3 1 p154 (missT l.length (tallN l.length) M2 x).1.length c155 (intV (missT l.length (tallN l.length) M2 x).1), Ob wg14 (.cells #[.int .i64 ((l.length : Int)), .int .i64 (((tallN l.length) : Int)), .map (some wm15)] 50 (0, 0)), Mp placeV Value.string placeOk wm15 (R2), Rw 3 1 p149 (missT l.length (tallN l.length) M2 x).1.length c150 (intV (missT l.length (tallN l.length) M2 x).1), Old w no]) (fun jj => (missT l.length (tallN l.length) M2 x).1.length - jj) (0) ⟨rfl, rfl, rfl, rfl, rfl, rfl, rfl, rfl, rfl, rfl, rfl, rfl, rfl, trivial⟩ ⟨Nat.zero_le _, H160⟩ ?_
                    rintro jj wq173 ⟨hj, H174⟩
                    replace H174 : S wq173 [Ob tg10 (.cells #[.int .i64 ((l.length : Int)), .int .i64 (((tallN l.length) : Int)), .string ((rootS l).1), .map (some mg11)] 75 (0, 0)), Mp placeV Value.string placeOk mg11 (M2), Rw 3 1 p154 (missT l.length (tallN l.length) M2 x).1.length c155 (intV (missT l.length (tallN l.length) M2 x).1), Ob wg14 (.cells #[.int .i64 ((l.length : Int)), .int .i64 (((tallN l.length) : Int)), .map (some wm15)] 50 (0, 0)), Mp placeV Value.string placeOk wm15 (R2), Rw 3 1 p149 (missT l.length (tallN l.length) M2 x).1.length c150 (intV (missT l.length (tallN l.length) M2 x).1), Old w no] := H174
                    refine g_weak [(0, .slice p l.length c), (11, .pointer (some ⟨tg10, 0, none⟩)), (12, .pointer (some ⟨wg14, 0, none⟩)), (29, .int .i64 x), (30, .slice p149 (missT l.length (tallN l.length) M2 x).1.length c150), (32, .slice p154 (missT l.length (tallN l.length) M2 x).1.length c155), (106, .slice pd nd cd), (107, .int .i64 ((nd : Int))), (108, .int .i64 ((k : Int))), (162, .pointer (some ⟨tc114, 0, none⟩)), (163, .bool false), (296, .int .i64 (((missT l.length (tallN l.length) M2 x).1.length : Int))), (297, .int .i64 ((jj : Int)))] ⟨rfl, rfl, rfl, rfl, rfl, rfl, rfl, rfl, rfl, rfl, rfl, rfl, rfl, trivial⟩ ?_
                    refine g_seq ?_
                    refine g_region ?_
                    refine l_of (s_val (v := .bool (decide (((jj : Int) : Int) < ((missT l.length (tallN l.length) M2 x).1.length : Int)))) (wt0 rfl) rfl rfl (x_bin rfl rfl rfl b_lss) ?_)
                    refine g_nil ?_
                    refine g_then ?_
                    refine g_seq ?_
                    by_cases hb175 : ((jj : Int) : Int) < ((missT l.length (tallN l.length) M2 x).1.length : Int)
                    · skip
                      have hsm176 : ∃ a, p149 = some a := ((H174.rwReads (k := 5) rfl).2.2 (by omega)).imp fun _ h => h.1
                      have hsm177 : ∃ a, p154 = some a := ((H174.rwReads (k := 2) rfl).2.2 (by omega)).imp fun _ h => h.1
                      refine g_cond_t rfl (decide_eq_true hb175) ?_
                      refine g_skip ?_
                      refine g_then ?_
                      refine g_seq ?_
                      refine g_block ?_
                      refine g_seq ?_
                      refine g_region ?_
                      refine l_of (s_val (v := .int .i64 ((jj : Int))) (wt0 rfl) rfl rfl (x_move rfl rfl) ?_)
                      refine l_of (s_val (v := .int .i64 ((jj : Int))) (wt0 rfl) rfl rfl (x_assign rfl rfl) ?_)
                      refine g_nil ?_
                      refine g_then ?_
                      refine g_seq ?_
                      refine g_quiet (by kernel_rfl) (by kernel_rfl) H174 ?_
                      refine q_val (v := .slice p149 (missT l.length (tallN l.length) M2 x).1.length c150) (wt0 rfl) rfl rfl (fun wx H => x_move rfl rfl) ?_
                      refine q_val (v := .int .i64 ((jj : Int))) (wt0 rfl) rfl rfl (fun wx H => x_move rfl rfl) ?_
                      refine q_val (v := .pointer ((p149).map fun q => q.add (jj * 1))) (wt0 rfl) rfl rfl (fun wx H => x_idxP jj (hsm176) rfl rfl rfl Tryz.underlying51 sz3 (by omega)) ?_
                      refine q_val (v := .int .i64 (((((missT l.length (tallN l.length) M2 x).1).getD (jj) 0 : Nat) : Int))) (wt0 rfl) rfl rfl (fun wx H => x_loadR1 jj (H.rwReads (k := 5) rfl) (by omega) rfl rfl Tryz.underlying3 rfl (intV_at (by omega))) ?_
                      refine q_val (v := .slice p154 (missT l.length (tallN l.length) M2 x).1.length c155) (wt0 rfl) rfl rfl (fun wx H => x_move rfl rfl) ?_
                      refine q_val (v := .int .i64 ((jj : Int))) (wt0 rfl) rfl rfl (fun wx H => x_move rfl rfl) ?_
                      refine q_val (v := .pointer ((p154).map fun q => q.add (jj * 1))) (wt0 rfl) rfl rfl (fun wx H => x_idxP jj (hsm177) rfl rfl rfl Tryz.underlying51 sz3 (by omega)) ?_
                      refine q_val (v := .int .i64 (((((missT l.length (tallN l.length) M2 x).1).getD (jj) 0 : Nat) : Int))) (wt0 rfl) rfl rfl (fun wx H => x_loadR1 jj (H.rwReads (k := 2) rfl) (by omega) rfl rfl Tryz.underlying3 rfl (intV_at (by omega))) ?_
                      refine q_val (v := .bool (!decide ((((((missT l.length (tallN l.length) M2 x).1).getD (jj) 0 : Nat) : Int) : Int) = ((((missT l.length (tallN l.length) M2 x).1).getD (jj) 0 : Nat) : Int)))) (wt0 rfl) rfl rfl (fun wx H => x_bin rfl rfl rfl b_neq) ?_
                      refine q_nil (fun wq178 H179 => ?_)
                      refine g_then ?_
                      refine g_cond_f rfl (nf rfl) ?_
                      refine g_skip ?_
                      refine g_in ?_
                      refine g_then ?_
                      refine g_weak [(0, .slice p l.length c), (11, .pointer (some ⟨tg10, 0, none⟩)), (12, .pointer (some ⟨wg14, 0, none⟩)), (29, .int .i64 x), (30, .slice p149 (missT l.length (tallN l.length) M2 x).1.length c150), (32, .slice p154 (missT l.length (tallN l.length) M2 x).1.length c155), (106, .slice pd nd cd), (107, .int .i64 ((nd : Int))), (108, .int .i64 ((k : Int))), (162, .pointer (some ⟨tc114, 0, none⟩)), (163, .bool false), (296, .int .i64 (((missT l.length (tallN l.length) M2 x).1.length : Int))), (297, .int .i64 ((jj : Int)))] ⟨rfl, rfl, rfl, rfl, rfl, rfl, rfl, rfl, rfl, rfl, rfl, rfl, rfl, trivial⟩ ?_
                      refine g_region ?_
                      refine l_of (s_val (v := .int .i64 (((jj + 1 : Nat) : Int))) (wt0 rfl) rfl rfl (x_bin rfl rfl rfl (b_addN (a := jj) (b := 1) (by omega))) ?_)
                      refine l_of (s_val (v := .int .i64 (((jj + 1 : Nat) : Int))) (wt0 rfl) rfl rfl (x_move rfl rfl) ?_)
                      refine g_nil ?_
                      refine g_then ?_
                      refine g_round (i := (jj)) (jj + 1) ?_ ?_ ?_
                      · exact ⟨rfl, rfl, rfl, rfl, rfl, rfl, rfl, rfl, rfl, rfl, rfl, rfl, rfl, trivial⟩
                      · exact ⟨by omega, (H179.takes [0, 1, 2, 3, 4, 5, 6] (by decide))⟩
                      · (try dsimp only); omega
                    · skip
                      refine g_cond_f rfl (decide_eq_false hb175) ?_
                      refine g_exit ?_
                      refine g_then_exit ?_
                      refine g_then_exit ?_
                      refine g_in_hit ?_
                      refine g_in ?_
                      refine g_then ?_
                      refine g_region ?_
                      refine l_of (s_val (v := .int .i64 x) (wt0 rfl) rfl rfl (x_move rfl rfl) ?_)
                      refine l_of (s_val (v := .int .i64 (x + 1)) (wt0 rfl) rfl rfl (x_bin rfl rfl rfl (b_add (w64 (by omega)))) ?_)
                      refine l_of (s_val (v := .int .i64 (x + 1)) (wt0 rfl) rfl rfl (x_assign rfl rfl) ?_)
                      refine g_nil ?_
                      refine g_then ?_
                      refine g_round (i := (x)) (x + 1) ?_ ?_ ?_
                      · exact ⟨rfl, rfl, rfl, rfl, rfl, rfl, rfl, rfl, rfl, trivial⟩
                      · exact ⟨(by omega), (H174.takes [0, 1, 3, 4, 6] (by decide))⟩
                      · (try dsimp only); omega
                · skip
                  refine g_cond_f rfl (decide_eq_false hb148) ?_
                  refine g_exit ?_
                  refine g_then_exit ?_
                  refine g_then_exit ?_
                  refine g_in_hit ?_
                  refine g_in ?_
                  refine g_then ?_
                  refine g_region ?_
                  refine l_of (s_val (v := .int .i64 ((k : Int) + 1)) (wt0 rfl) rfl rfl (x_bin rfl rfl rfl (b_add (w64 (by omega)))) ?_)
                  refine l_of (s_val (v := .int .i64 ((k : Int) + 1)) (wt0 rfl) rfl rfl (x_move rfl rfl) ?_)
                  refine g_nil ?_
                  refine g_then ?_
                  refine g_round (i := (k, M, R)) (k + 1, M2, R2) ?_ ?_ ?_
                  · exact ⟨rfl, rfl, rfl, rfl, rfl, rfl, trivial⟩
                  · exact ⟨by omega, hA2, hMr2, (H147.takes [0, 1, 2, 3, 4] (by decide))⟩
                  · (try dsimp only); omega
            · skip
              refine g_cond_t rfl (neg_of hb35) ?_
              refine g_seq ?_
              refine g_region ?_
              refine l_of (s_call (wt0 rfl) (x_call' rfl rfl cl5) (awake_s _) ?_)
              rintro _ wq180 ⟨rfl, H181⟩
              replace H181 : S wq180 [Ob g25 (.cells #[.int .i64 (dd.lv), .int .i64 (dd.ix), .int .i64 (dd.ct), .int .i64 (dd.mr), .bool dd.own, .slice dd.p1 dd.ls.length dd.c1, .slice dd.p2 dd.us.length dd.c2] 40 (0, 0)), Ob tg10 (.cells #[.int .i64 ((l.length : Int)), .int .i64 (((tallN l.length) : Int)), .string ((rootS l).1), .map (some mg11)] 75 (0, 0)), Mp placeV Value.string placeOk mg11 (M), Ob wg14 (.cells #[.int .i64 ((l.length : Int)), .int .i64 (((tallN l.length) : Int)), .map (some wm15)] 50 (0, 0)), Mp placeV Value.string placeOk wm15 (R), Old w no] := H34.absorb (new := []) H181
              refine b_ret rfl rfl ?_
              refine l_of (s_val (v := .bool true) (wt0 rfl) rfl rfl (x_assign rfl rfl) ?_)
              refine g_nil ?_
              refine g_then ?_
              refine g_ret ?_
              refine g_then_ret ?_
              refine g_in_ret ?_
              refine g_then_ret ?_
              refine g_then_ret ?_
              refine g_in_ret ?_
              refine g_then_ret ?_
              refine fin_ret [.tmp 4] [.bool true] rfl ⟨rfl, trivial⟩ ?_
              exact ⟨rfl, H181.mask [false, false, false, false, false, true]⟩
          · skip
            refine l_of (s_not (wn1 rfl rfl rfl rfl (neg_of hb32)) rfl rfl ?_)
            refine l_of (s_not (wn1 rfl rfl rfl rfl (neg_of hb32)) rfl rfl ?_)
            refine l_of (s_not (wn1 rfl rfl rfl rfl (neg_of hb32)) rfl rfl ?_)
            refine l_of (s_not (wn1 rfl rfl rfl rfl (neg_of hb32)) rfl rfl ?_)
            refine l_of (s_val (v := .bool true) (wt0 rfl) rfl rfl (x_pick_t rfl rfl (neg_of hb32) rfl) ?_)
            refine g_nil ?_
            refine g_then ?_
            refine g_weak [(0, .slice p l.length c), (11, .pointer (some ⟨tg10, 0, none⟩)), (12, .pointer (some ⟨wg14, 0, none⟩)), (15, .pointer (some ⟨g25, 0, none⟩)), (106, .slice pd nd cd), (107, .int .i64 ((nd : Int))), (108, .int .i64 ((k : Int))), (121, .bool true)] ⟨rfl, rfl, rfl, rfl, rfl, rfl, rfl, rfl, trivial⟩ ?_
            refine g_cond_t rfl rfl ?_
            refine g_seq ?_
            refine g_region ?_
            refine l_of (s_call (wt0 rfl) (x_call' rfl rfl cl5) (awake_s _) ?_)
            rintro _ wq182 ⟨rfl, H183⟩
            replace H183 : S wq182 [Ob g25 (.cells #[.int .i64 (dd.lv), .int .i64 (dd.ix), .int .i64 (dd.ct), .int .i64 (dd.mr), .bool dd.own, .slice dd.p1 dd.ls.length dd.c1, .slice dd.p2 dd.us.length dd.c2] 40 (0, 0)), Ob tg10 (.cells #[.int .i64 ((l.length : Int)), .int .i64 (((tallN l.length) : Int)), .string ((rootS l).1), .map (some mg11)] 75 (0, 0)), Mp placeV Value.string placeOk mg11 (M), Ob wg14 (.cells #[.int .i64 ((l.length : Int)), .int .i64 (((tallN l.length) : Int)), .map (some wm15)] 50 (0, 0)), Mp placeV Value.string placeOk wm15 (R), Old w no] := H31.absorb (new := []) H183
            refine b_ret rfl rfl ?_
            refine l_of (s_val (v := .bool true) (wt0 rfl) rfl rfl (x_assign rfl rfl) ?_)
            refine g_nil ?_
            refine g_then ?_
            refine g_ret ?_
            refine g_then_ret ?_
            refine g_in_ret ?_
            refine g_then_ret ?_
            refine g_then_ret ?_
            refine g_in_ret ?_
            refine g_then_ret ?_
            refine fin_ret [.tmp 4] [.bool true] rfl ⟨rfl, trivial⟩ ?_
            exact ⟨rfl, H183.mask [false, false, false, false, false, true]⟩
        · skip
          refine g_cond_f rfl (decide_eq_false hb24) ?_
          refine g_exit ?_
          refine g_then_exit ?_
          refine g_then_exit ?_
          refine g_in_hit ?_
          refine g_then ?_
          refine g_seq ?_
          refine g_region ?_
          refine l_of (s_call (wt0 rfl) (x_call' rfl rfl cl5) (awake_s _) ?_)
          rintro _ wq184 ⟨rfl, H185⟩
          replace H185 : S wq184 [Ob tg10 (.cells #[.int .i64 ((l.length : Int)), .int .i64 (((tallN l.length) : Int)), .string ((rootS l).1), .map (some mg11)] 75 (0, 0)), Mp placeV Value.string placeOk mg11 (M), Ob wg14 (.cells #[.int .i64 ((l.length : Int)), .int .i64 (((tallN l.length) : Int)), .map (some wm15)] 50 (0, 0)), Mp placeV Value.string placeOk wm15 (R), Old w no] := H23.absorb (new := []) H185
          refine b_ret rfl rfl ?_
          refine l_of (s_val (v := .bool true) (wt0 rfl) rfl rfl (x_assign rfl rfl) ?_)
          refine g_nil ?_
          refine g_then ?_
          refine g_ret ?_
          refine fin_ret [.tmp 4] [.bool true] rfl ⟨rfl, trivial⟩ ?_
          exact ⟨rfl, H185.mask [false, false, false, false, true]⟩
      · skip
        have hce : ¬ checkE l = 0 := by have := root_err l; omega
        refine g_cond_t rfl (nt hb9) ?_
        refine g_seq ?_
        refine g_region ?_
        refine l_of (s_val (v := .slice p l.length c) (wt0 rfl) rfl rfl (x_move rfl rfl) ?_)
        refine l_of (s_call (wt0 rfl) (x_call' rfl rfl cl7) (of_s_no hce hm2 _ (H8.oldReads (k := 0) rfl hr)) ?_)
        rintro _ wq186 ⟨rfl, H187⟩
        replace H187 : S wq186 [Old w no] := H8.absorb (new := []) H187
        refine b_ret rfl rfl ?_
        refine l_of (s_val (v := .tuple #[.pointer none, .int .i64 ((checkE l))]) (wt0 rfl) rfl rfl (x_move rfl rfl) ?_)
        refine l_of (s_val (v := .pointer none) (wt0 rfl) rfl rfl (x_extract rfl rfl rfl) ?_)
        refine l_of (s_val (v := .int .i64 ((checkE l))) (wt0 rfl) rfl rfl (x_extract rfl rfl rfl) ?_)
        refine l_of (s_val (v := .pointer none) (wt0 rfl) rfl rfl (x_assign rfl rfl) ?_)
        refine l_of (s_val (v := .int .i64 ((checkE l))) (wt0 rfl) rfl rfl (x_assign rfl rfl) ?_)
        refine g_nil ?_
        refine g_then ?_
        refine g_seq ?_
        refine g_region ?_
        refine l_of (s_val (v := .slice p l.length c) (wt0 rfl) rfl rfl (x_move rfl rfl) ?_)
        refine l_of (s_call (wt0 rfl) (x_call' rfl rfl cl8) (of_r_no hce hm2 _ (H187.oldReads (k := 0) rfl hr)) ?_)
        rintro _ wq188 ⟨rfl, H189⟩
        replace H189 : S wq188 [Old w no] := H187.absorb (new := []) H189
        refine b_ret rfl rfl ?_
        refine l_of (s_val (v := .tuple #[.pointer none, .int .i64 ((checkE l))]) (wt0 rfl) rfl rfl (x_move rfl rfl) ?_)
        refine l_of (s_val (v := .pointer none) (wt0 rfl) rfl rfl (x_extract rfl rfl rfl) ?_)
        refine l_of (s_val (v := .int .i64 ((checkE l))) (wt0 rfl) rfl rfl (x_extract rfl rfl rfl) ?_)
        refine l_of (s_val (v := .pointer none) (wt0 rfl) rfl rfl (x_assign rfl rfl) ?_)
        refine l_of (s_val (v := .int .i64 ((checkE l))) (wt0 rfl) rfl rfl (x_assign rfl rfl) ?_)
        refine g_nil ?_
        refine g_then ?_
        refine g_weak [(8, .int .i64 ((checkE l))), (10, .int .i64 ((checkE l)))] ⟨rfl, rfl, trivial⟩ ?_
        refine g_seq ?_
        refine g_region ?_
        refine l_of (s_val (v := .int .i64 ((checkE l))) (wt0 rfl) rfl rfl (x_move rfl rfl) ?_)
        refine l_of (s_val (v := .int .i64 ((checkE l))) (wt0 rfl) rfl rfl (x_move rfl rfl) ?_)
        refine l_of (s_val (v := .bool (decide (((checkE l) : Int) = (checkE l)))) (wt0 rfl) rfl rfl (x_bin rfl rfl rfl b_eql) ?_)
        refine l_of (s_val (v := .bool (decide (((checkE l) : Int) = (checkE l)))) (wt0 rfl) rfl rfl (x_move rfl rfl) ?_)
        refine l_of (s_call (wt1 rfl rfl rfl rfl (decide_eq_true rfl)) (x_call' rfl rfl cl5) (awake_s _) ?_)
        rintro _ wq190 ⟨rfl, H191⟩
        replace H191 : S wq190 [Old w no] := H189.absorb (new := []) H191
        refine b_ret rfl rfl ?_
        refine l_of (s_val (v := .bool true) (wt0 rfl) rfl rfl (x_pick_t rfl rfl (decide_eq_true rfl) rfl) ?_)
        refine l_of (s_val (v := .bool true) (wt0 rfl) rfl rfl (x_assign rfl rfl) ?_)
        refine g_nil ?_
        refine g_then ?_
        refine g_ret ?_
        refine g_then_ret ?_
        refine fin_ret [.tmp 4] [.bool true] rfl ⟨rfl, trivial⟩ ?_
        exact ⟨rfl, H191.mask [true]⟩
  · skip
    refine l_of (s_not (wn1 rfl rfl rfl rfl (neg_of hb3)) rfl rfl ?_)
    refine l_of (s_not (wn1 rfl rfl rfl rfl (neg_of hb3)) rfl rfl ?_)
    refine l_of (s_not (wn1 rfl rfl rfl rfl (neg_of hb3)) rfl rfl ?_)
    refine l_of (s_val (v := .bool true) (wt0 rfl) rfl rfl (x_pick_t rfl rfl (neg_of hb3) rfl) ?_)
    refine g_nil ?_
    refine g_then ?_
    refine g_cond_t rfl rfl ?_
    refine g_seq ?_
    refine g_region ?_
    refine l_of (s_call (wt0 rfl) (x_call' rfl rfl cl5) (awake_s _) ?_)
    rintro _ wq192 ⟨rfl, H193⟩
    replace H193 : S wq192 [Old w no] := H2.absorb (new := []) H193
    refine b_ret rfl rfl ?_
    refine l_of (s_val (v := .bool true) (wt0 rfl) rfl rfl (x_assign rfl rfl) ?_)
    refine g_nil ?_
    refine g_then ?_
    refine g_ret ?_
    refine g_then_ret ?_
    refine fin_ret [.tmp 4] [.bool true] rfl ⟨rfl, trivial⟩ ?_
    exact ⟨rfl, H193.mask [true]⟩
end Go.Proofs.YtlajgickimgigaaGreat
