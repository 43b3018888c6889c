import Derived.Test.YtibdlnjnomikjaaSr
set_option linter.unusedSimpArgs false
set_option linter.unusedVariables false
namespace Go.Proofs.Ytibdlnjnomikjaa
open Go.RowKit

theorem cl53 : callable Try.prog 53 = true := by kernel_rfl
def dedTo (z : List ByteArray) : Nat → List ByteArray
  | 0 => []
  | k + 1 => if k = 0 ∨ z[k - 1]? ≠ z[k]? then dedTo z k ++ (z[k]?).toList else dedTo z k
def ordS (l : List ByteArray) : List ByteArray := dedTo (sortS l) l.length
theorem dedTo_add {z : List ByteArray} {k : Nat} {s : ByteArray} (hs : z[k]? = some s) (h : k = 0 ∨ z[k - 1]? ≠ z[k]?) : dedTo z (k + 1) = dedTo z k ++ [s] := by
  show (if k = 0 ∨ z[k - 1]? ≠ z[k]? then dedTo z k ++ (z[k]?).toList else dedTo z k) = _
  rw [if_pos h, hs]; rfl
theorem dedTo_skip {z : List ByteArray} {k : Nat} (h : ¬ (k = 0 ∨ z[k - 1]? ≠ z[k]?)) : dedTo z (k + 1) = dedTo z k := by
  show (if k = 0 ∨ z[k - 1]? ≠ z[k]? then dedTo z k ++ (z[k]?).toList else dedTo z k) = _
  rw [if_neg h]
theorem dedTo_len (z : List ByteArray) : ∀ k, (dedTo z k).length ≤ k
  | 0 => Nat.le_refl _
  | k + 1 => by
    have ih := dedTo_len z k
    show (if k = 0 ∨ z[k - 1]? ≠ z[k]? then dedTo z k ++ (z[k]?).toList else dedTo z k).length ≤ _
    split
    · rw [List.length_append]
      have : (z[k]?).toList.length ≤ 1 := by cases z[k]? <;> simp
      omega
    · omega
set_option maxRecDepth 20000 in
set_option maxHeartbeats 4000000 in
set_option maxRecDepth 20000 in
set_option maxHeartbeats 4000000 in
theorem ordered_s (l : List ByteArray) (p : Option Addr) (n c : Nat) (hn : l.length = n) (hn2 : n ≤ 100000) (hn0 : 0 < n) (w : World) (HS : S w [Rw 9 1 p n c (stV l)]) : Calls Try.prog 23 #[.slice p n c] w fun e w' => ∃ p' c', e = .returned (.slice p' (ordS l).length c') ∧ S w' ([Rw 9 1 p' (ordS l).length c' (stV (ordS l)), Rw 9 1 p n c (stV (sortS l))] ++ [Old w (fps [Rw 9 1 p n c (stV l)])]) := by
  have H00 := HS.beginI
  have H0 : S w ([Rw 9 1 p n c (stV l), Old w (fps [Rw 9 1 p n c (stV l)])]) := H00
  refine enter 32 Try.func23 rfl rfl rfl ?_
  refine g_weak [(0, .slice p n c)] ⟨rfl, trivial⟩ ?_
  refine g_seq ?_
  refine g_region ?_
  refine l_of (s_val (v := .slice none 0 0) (wt0 rfl) rfl rfl (x_assign rfl rfl) ?_)
  refine g_nil ?_
  refine g_then ?_
  refine g_seq ?_
  refine g_region ?_
  refine l_of (s_val (v := .slice p n c) (wt0 rfl) rfl rfl (x_move rfl rfl) ?_)
  refine l_of (s_call (wt0 rfl) (x_call' rfl rfl cl53) (sortStrings_s l p n c hn hn2 hn0 _ (H0.takes [0] (by decide))) ?_)
  rintro _ wq1 ⟨rfl, H2⟩
  replace H2 : S wq1 [Rw 9 1 p n c (stV (sortS l)), Old w (fps [Rw 9 1 p n c (stV l)])] := H0.absorbI (new := [Rw 9 1 p n c (stV (sortS l))]) [0] H2
  refine b_ret rfl rfl ?_
  refine g_nil ?_
  refine g_then ?_
  refine g_seq ?_
  refine g_region ?_
  have H3 : S wq1 [Rw 9 1 none 0 0 (stV []), Rw 9 1 p n c (stV (sortS l)), Old w (fps [Rw 9 1 p n c (stV l)])] := H2.nilRw 9 1
  refine l_of (s_val (v := .slice none 0 0) (wt0 rfl) rfl rfl (x_assign rfl rfl) ?_)
  refine g_nil ?_
  refine g_then ?_
  refine g_seq ?_
  refine g_seq ?_
  refine g_region ?_
  refine l_of (s_val (v := .slice p n c) (wt0 rfl) rfl rfl (x_move rfl rfl) ?_)
  refine l_of (s_val (v := .int .i64 ((n : Int))) (wt0 rfl) rfl rfl (x_lenl rfl rfl Try.underlying37) ?_)
  refine l_of (s_val (v := .int .i64 0) (wt0 rfl) rfl rfl (x_move rfl rfl) ?_)
  refine g_nil ?_
  refine g_then ?_
  refine g_block ?_
  refine g_loop (ι := Nat × Option Addr × Nat × List ByteArray × Nat) (fun (k, q, d, acc, mm) => [(0, .slice p n c), (3, .slice q mm d), (8, .slice p n c), (9, .int .i64 ((n : Int))), (10, .int .i64 ((k : Int)))]) (fun (k, q, d, acc, mm) wx => (k ≤ n) ∧ (acc = dedTo (sortS l) k) ∧ (acc.length = mm) ∧ S wx [Rw 9 1 q mm d (stV acc), Rw 9 1 p n c (stV (sortS l)), Old w (fps [Rw 9 1 p n c (stV l)])]) (fun (k, q, d, acc, mm) => n - k) (0, none, 0, [], 0) ⟨rfl, rfl, rfl, rfl, rfl, trivial⟩ ⟨Nat.zero_le _, rfl, rfl, (H3.takes [0, 1, 2] (by decide))⟩ ?_
  rintro ⟨k, q, d, acc, mm⟩ wq4 ⟨hk, ha, hmm, H5⟩
  replace H5 : S wq4 [Rw 9 1 q mm d (stV acc), Rw 9 1 p n c (stV (sortS l)), Old w (fps [Rw 9 1 p n c (stV l)])] := H5
  refine g_weak [(0, .slice p n c), (3, .slice q mm d), (8, .slice p n c), (9, .int .i64 ((n : Int))), (10, .int .i64 ((k : Int)))] ⟨rfl, rfl, rfl, rfl, rfl, trivial⟩ ?_
  have hdl := dedTo_len (sortS l) k
  rw [← ha] at hdl
  refine g_seq ?_
  refine g_region ?_
  refine l_of (s_val (v := .bool (decide (((k : Int) : Int) < (n : Int)))) (wt0 rfl) rfl rfl (x_bin rfl rfl rfl b_lss) ?_)
  refine g_nil ?_
  refine g_then ?_
  refine g_seq ?_
  by_cases hb6 : ((k : Int) : Int) < (n : Int)
  · skip
    obtain ⟨s, hs⟩ : ∃ s, (sortS l)[k]? = some s := ⟨_, List.getElem?_eq_getElem (by rw [sortS_len]; omega)⟩
    refine g_cond_t rfl (decide_eq_true hb6) ?_
    refine g_skip ?_
    refine g_then ?_
    refine g_seq ?_
    refine g_block ?_
    refine g_seq ?_
    refine g_region ?_
    refine l_of (s_val (v := .int .i64 ((k : Int))) (wt0 rfl) rfl rfl (x_move rfl rfl) ?_)
    refine l_of (s_val (v := .pointer ((p).map fun q => q.add (k * 1))) (wt0 rfl) rfl rfl (x_idxR k ((H5.rwReads (k := 1) rfl)) rfl rfl rfl Try.underlying37 sz9 (by omega)) ?_)
    refine l_of (s_val (v := .string s) (wt0 rfl) rfl rfl (x_loadR1 k ((H5.rwReads (k := 1) rfl)) (by omega) rfl rfl Try.underlying9 rfl (stV_at hs)) ?_)
    refine l_of (s_val (v := .int .i64 ((k : Int))) (wt0 rfl) rfl rfl (x_assign rfl rfl) ?_)
    refine l_of (s_val (v := .string s) (wt0 rfl) rfl rfl (x_assign rfl rfl) ?_)
    refine g_nil ?_
    refine g_then ?_
    refine g_seq ?_
    refine g_region ?_
    refine l_of (s_val (v := .int .i64 ((k : Int))) (wt0 rfl) rfl rfl (x_move rfl rfl) ?_)
    refine l_of (s_val (v := .bool (decide (((k : Int) : Int) = 0))) (wt0 rfl) rfl rfl (x_bin rfl rfl rfl b_eql) ?_)
    refine l_of (s_val (v := .bool (decide (((k : Int) : Int) = 0))) (wt0 rfl) rfl rfl (x_move rfl rfl) ?_)
    by_cases hb7 : ((k : Int) : Int) = 0
    · skip
      refine l_of (s_not (wn1 rfl rfl rfl rfl (decide_eq_true hb7)) rfl rfl ?_)
      refine l_of (s_not (wn1 rfl rfl rfl rfl (decide_eq_true hb7)) rfl rfl ?_)
      refine l_of (s_not (wn1 rfl rfl rfl rfl (decide_eq_true hb7)) rfl rfl ?_)
      refine l_of (s_not (wn1 rfl rfl rfl rfl (decide_eq_true hb7)) rfl rfl ?_)
      refine l_of (s_not (wn1 rfl rfl rfl rfl (decide_eq_true hb7)) rfl rfl ?_)
      refine l_of (s_not (wn1 rfl rfl rfl rfl (decide_eq_true hb7)) rfl rfl ?_)
      refine l_of (s_not (wn1 rfl rfl rfl rfl (decide_eq_true hb7)) rfl rfl ?_)
      refine l_of (s_val (v := .bool true) (wt0 rfl) rfl rfl (x_pick_t rfl rfl (decide_eq_true hb7) rfl) ?_)
      refine g_nil ?_
      refine g_then ?_
      refine g_weak [(0, .slice p n c), (3, .slice q mm d), (5, .string s), (8, .slice p n c), (9, .int .i64 ((n : Int))), (10, .int .i64 ((k : Int))), (25, .bool true)] ⟨rfl, rfl, rfl, rfl, rfl, rfl, rfl, trivial⟩ ?_
      refine g_cond_t rfl rfl ?_
      refine g_region ?_
      refine l_of (s_val (v := .slice q mm d) (wt0 rfl) rfl rfl (x_move rfl rfl) ?_)
      refine l_of (s_val (v := .string s) (wt0 rfl) rfl rfl (x_move rfl rfl) ?_)
      refine l_of (s_buildSlice H5 (wt0 rfl) rfl rfl rfl (vs := [.string s]) rfl Try.underlying37 sz9 ze9 rfl rfl (cells := #[.string s]) (by kernel_rfl) ?_)
      intro g8 wq9 H10
      refine l_of (s_appendR (n := mm) (m := 1) (sc := d) (xs := (stV acc)) (news := [.string s]) (p := q) (ad := ⟨g8, 0, none⟩) H10 1 (wt0 rfl) rfl rfl rfl rfl rfl rfl Try.underlying37 inf9 rfl (by decide) (by decide) rfl (by decide) (news_ob H10 (j0 := 0) rfl) rfl (by omega) ?_)
      intro p11 c12 wq13 (H14 : S wq13 [Ob g8 (.cells #[.string s] 9 (0, 0)), Rw 9 1 p11 (mm + 1) c12 ((stV acc) ++ [.string s]), Rw 9 1 p n c (stV (sortS l)), Old w (fps [Rw 9 1 p n c (stV l)])])
      refine l_of (s_val (v := .slice p11 (mm + 1) c12) (wt0 rfl) rfl rfl (x_assign rfl rfl) ?_)
      refine g_nil ?_
      refine g_in ?_
      refine g_then ?_
      refine g_region ?_
      refine l_of (s_val (v := .int .i64 (((k + 1 : Nat) : Int))) (wt0 rfl) rfl rfl (x_bin rfl rfl rfl (b_add (by rw [w64 (by omega)]; omega))) ?_)
      refine l_of (s_val (v := .int .i64 (((k + 1 : Nat) : Int))) (wt0 rfl) rfl rfl (x_move rfl rfl) ?_)
      refine g_nil ?_
      refine g_then ?_
      have hd9 : dedTo (sortS l) (k + 1) = dedTo (sortS l) k ++ [s] := dedTo_add hs (.inl (by omega))
      refine g_round (i := (k, q, d, acc, mm)) ((k + 1), p11, c12, (acc ++ [s]), (mm + 1)) ?_ ?_ ?_
      · exact ⟨rfl, rfl, rfl, rfl, rfl, trivial⟩
      · exact ⟨by omega, (by rw [hd9, ha]), (by rw [List.length_append, hmm]; rfl), (by rw [stV_snoc]; exact H14.takes [1, 2, 3] (by decide))⟩
      · (try dsimp only); omega
    · skip
      obtain ⟨sp, hsp⟩ : ∃ s, (sortS l)[k - 1]? = some s := ⟨_, List.getElem?_eq_getElem (by rw [sortS_len]; omega)⟩
      refine l_of (s_val (v := .slice p n c) (wt1 rfl rfl rfl rfl (decide_eq_false hb7)) rfl rfl (x_move rfl rfl) ?_)
      refine l_of (s_val (v := .int .i64 ((k : Int))) (wt1 rfl rfl rfl rfl (decide_eq_false hb7)) rfl rfl (x_move rfl rfl) ?_)
      refine l_of (s_val (v := .int .i64 (((k - 1 : Nat) : Int))) (wt1 rfl rfl rfl rfl (decide_eq_false hb7)) rfl rfl (x_bin rfl rfl rfl (b_sub (by rw [w64 (by omega)]; omega))) ?_)
      refine l_of (s_val (v := .pointer ((p).map fun q => q.add ((k - 1) * 1))) (wt1 rfl rfl rfl rfl (decide_eq_false hb7)) rfl rfl (x_idxR (k - 1) ((H5.rwReads (k := 1) rfl)) rfl rfl rfl Try.underlying37 sz9 (by omega)) ?_)
      refine l_of (s_val (v := .string sp) (wt1 rfl rfl rfl rfl (decide_eq_false hb7)) rfl rfl (x_loadR1 (k - 1) ((H5.rwReads (k := 1) rfl)) (by omega) rfl rfl Try.underlying9 rfl (stV_at hsp)) ?_)
      refine l_of (s_val (v := .string s) (wt1 rfl rfl rfl rfl (decide_eq_false hb7)) rfl rfl (x_move rfl rfl) ?_)
      refine l_of (s_val (v := .bool (!decide (sp = s))) (wt1 rfl rfl rfl rfl (decide_eq_false hb7)) rfl rfl (x_bin rfl rfl rfl b_nes) ?_)
      refine l_of (s_val (v := .bool (!decide (sp = s))) (wt0 rfl) rfl rfl (x_pick_f rfl rfl (decide_eq_false hb7) rfl) ?_)
      refine g_nil ?_
      refine g_then ?_
      refine g_weak [(0, .slice p n c), (3, .slice q mm d), (5, .string s), (8, .slice p n c), (9, .int .i64 ((n : Int))), (10, .int .i64 ((k : Int))), (25, .bool (!decide (sp = s)))] ⟨rfl, rfl, rfl, rfl, rfl, rfl, rfl, trivial⟩ ?_
      by_cases hb15 : sp = s
      · skip
        refine g_cond_f rfl (nf hb15) ?_
        refine g_skip ?_
        refine g_in ?_
        refine g_then ?_
        refine g_region ?_
        refine l_of (s_val (v := .int .i64 (((k + 1 : Nat) : Int))) (wt0 rfl) rfl rfl (x_bin rfl rfl rfl (b_add (by rw [w64 (by omega)]; omega))) ?_)
        refine l_of (s_val (v := .int .i64 (((k + 1 : Nat) : Int))) (wt0 rfl) rfl rfl (x_move rfl rfl) ?_)
        refine g_nil ?_
        refine g_then ?_
        have hd9 : dedTo (sortS l) (k + 1) = dedTo (sortS l) k := dedTo_skip (by rintro (h9 | h9) <;> first | omega | exact h9 (by rw [hs, hsp, hb15]))
        refine g_round (i := (k, q, d, acc, mm)) ((k + 1), q, d, acc, mm) ?_ ?_ ?_
        · exact ⟨rfl, rfl, rfl, rfl, rfl, trivial⟩
        · exact ⟨by omega, (by rw [hd9, ha]), hmm, (H5.takes [0, 1, 2] (by decide))⟩
        · (try dsimp only); omega
      · skip
        refine g_cond_t rfl (nt hb15) ?_
        refine g_region ?_
        refine l_of (s_val (v := .slice q mm d) (wt0 rfl) rfl rfl (x_move rfl rfl) ?_)
        refine l_of (s_val (v := .string s) (wt0 rfl) rfl rfl (x_move rfl rfl) ?_)
        refine l_of (s_buildSlice H5 (wt0 rfl) rfl rfl rfl (vs := [.string s]) rfl Try.underlying37 sz9 ze9 rfl rfl (cells := #[.string s]) (by kernel_rfl) ?_)
        intro g16 wq17 H18
        refine l_of (s_appendR (n := mm) (m := 1) (sc := d) (xs := (stV acc)) (news := [.string s]) (p := q) (ad := ⟨g16, 0, none⟩) H18 1 (wt0 rfl) rfl rfl rfl rfl rfl rfl Try.underlying37 inf9 rfl (by decide) (by decide) rfl (by decide) (news_ob H18 (j0 := 0) rfl) rfl (by omega) ?_)
        intro p19 c20 wq21 (H22 : S wq21 [Ob g16 (.cells #[.string s] 9 (0, 0)), Rw 9 1 p19 (mm + 1) c20 ((stV acc) ++ [.string s]), Rw 9 1 p n c (stV (sortS l)), Old w (fps [Rw 9 1 p n c (stV l)])])
        refine l_of (s_val (v := .slice p19 (mm + 1) c20) (wt0 rfl) rfl rfl (x_assign rfl rfl) ?_)
        refine g_nil ?_
        refine g_in ?_
        refine g_then ?_
        refine g_region ?_
        refine l_of (s_val (v := .int .i64 (((k + 1 : Nat) : Int))) (wt0 rfl) rfl rfl (x_bin rfl rfl rfl (b_add (by rw [w64 (by omega)]; omega))) ?_)
        refine l_of (s_val (v := .int .i64 (((k + 1 : Nat) : Int))) (wt0 rfl) rfl rfl (x_move rfl rfl) ?_)
        refine g_nil ?_
        refine g_then ?_
        have hd9 : dedTo (sortS l) (k + 1) = dedTo (sortS l) k ++ [s] := dedTo_add hs (.inr (by rw [hs, hsp]; exact fun h9 => hb15 (Option.some.inj h9)))
        refine g_round (i := (k, q, d, acc, mm)) ((k + 1), p19, c20, (acc ++ [s]), (mm + 1)) ?_ ?_ ?_
        · exact ⟨rfl, rfl, rfl, rfl, rfl, trivial⟩
        · exact ⟨by omega, (by rw [hd9, ha]), (by rw [List.length_append, hmm]; rfl), (by rw [stV_snoc]; exact H22.takes [1, 2, 3] (by decide))⟩
        · (try dsimp only); omega
  · skip
    refine g_cond_f rfl (decide_eq_false hb6) ?_
    refine g_exit ?_
    refine g_then_exit ?_
    refine g_then_exit ?_
    refine g_in_hit ?_
    refine g_then ?_
    refine g_seq ?_
    refine g_region ?_
    refine l_of (s_val (v := .slice q mm d) (wt0 rfl) rfl rfl (x_move rfl rfl) ?_)
    refine l_of (s_val (v := .slice q mm d) (wt0 rfl) rfl rfl (x_assign rfl rfl) ?_)
    refine g_nil ?_
    refine g_then ?_
    refine g_ret ?_
    refine fin_ret [.tmp 2] [.slice q mm d] rfl ⟨rfl, trivial⟩ ?_
    have hkn : k = l.length := by omega
    subst hkn
    have hao : acc = ordS l := ha
    subst hao
    subst hmm
    exact ⟨_, _, rfl, H5.takes [0, 1, 2] (by decide)⟩
set_option maxRecDepth 20000 in
set_option maxHeartbeats 4000000 in
set_option maxRecDepth 20000 in
set_option maxHeartbeats 4000000 in
theorem same_s (l lm : List ByteArray) (p : Option Addr) (n c : Nat) (q : Option Addr) (m d : Nat) (hn : l.length = n) (hm : lm.length = m) (hn2 : n ≤ 100000) (hm2 : m ≤ 100000) (w : World) (HS : S w [Rw 9 1 p n c (stV l), Rw 9 1 q m d (stV lm)]) : Calls Try.prog 22 #[.slice p n c, .slice q m d] w fun e w' => e = .returned (.bool (decide (l = lm))) ∧ S w' ([Rw 9 1 p n c (stV l), Rw 9 1 q m d (stV lm)] ++ [Old w (fps [Rw 9 1 p n c (stV l), Rw 9 1 q m d (stV lm)])]) := by
  have H00 := HS.beginI
  have H0 : S w ([Rw 9 1 p n c (stV l), Rw 9 1 q m d (stV lm), Old w (fps [Rw 9 1 p n c (stV l), Rw 9 1 q m d (stV lm)])]) := H00
  refine enter 26 Try.func22 rfl rfl rfl ?_
  refine g_weak [(0, .slice p n c), (1, .slice q m d)] ⟨rfl, rfl, trivial⟩ ?_
  refine g_seq ?_
  refine g_region ?_
  refine l_of (s_val (v := .bool false) (wt0 rfl) rfl rfl (x_assign rfl rfl) ?_)
  refine g_nil ?_
  refine g_then ?_
  refine g_seq ?_
  refine g_seq ?_
  refine g_region ?_
  refine l_of (s_val (v := .slice p n c) (wt0 rfl) rfl rfl (x_move rfl rfl) ?_)
  refine l_of (s_val (v := .int .i64 ((n : Int))) (wt0 rfl) rfl rfl (x_lenl rfl rfl Try.underlying37) ?_)
  refine l_of (s_val (v := .slice q m d) (wt0 rfl) rfl rfl (x_move rfl rfl) ?_)
  refine l_of (s_val (v := .int .i64 ((m : Int))) (wt0 rfl) rfl rfl (x_lenl rfl rfl Try.underlying37) ?_)
  refine l_of (s_val (v := .bool (!decide (((n : Int) : Int) = (m : Int)))) (wt0 rfl) rfl rfl (x_bin rfl rfl rfl b_neq) ?_)
  refine g_nil ?_
  refine g_then ?_
  by_cases hb1 : ((n : Int) : Int) = (m : Int)
  · skip
    refine g_cond_f rfl (nf hb1) ?_
    refine g_skip ?_
    refine g_then ?_
    refine g_seq ?_
    refine g_seq ?_
    refine g_region ?_
    refine l_of (s_val (v := .slice p n c) (wt0 rfl) rfl rfl (x_move rfl rfl) ?_)
    refine l_of (s_val (v := .int .i64 ((n : Int))) (wt0 rfl) rfl rfl (x_lenl rfl rfl Try.underlying37) ?_)
    refine l_of (s_val (v := .int .i64 0) (wt0 rfl) rfl rfl (x_move rfl rfl) ?_)
    refine g_nil ?_
    refine g_then ?_
    refine g_block ?_
    refine g_loop (ι := Nat) (fun k => [(0, .slice p n c), (1, .slice q m d), (12, .int .i64 ((n : Int))), (13, .int .i64 ((k : Int)))]) (fun k wx => (k ≤ n) ∧ (l.take k = lm.take k) ∧ S wx [Rw 9 1 p n c (stV l), Rw 9 1 q m d (stV lm), Old w (fps [Rw 9 1 p n c (stV l), Rw 9 1 q m d (stV lm)])]) (fun k => n - k) (0) ⟨rfl, rfl, rfl, rfl, trivial⟩ ⟨Nat.zero_le _, rfl, H0⟩ ?_
    rintro k wq2 ⟨hk, he, H3⟩
    replace H3 : S wq2 [Rw 9 1 p n c (stV l), Rw 9 1 q m d (stV lm), Old w (fps [Rw 9 1 p n c (stV l), Rw 9 1 q m d (stV lm)])] := H3
    refine g_weak [(0, .slice p n c), (1, .slice q m d), (12, .int .i64 ((n : Int))), (13, .int .i64 ((k : Int)))] ⟨rfl, rfl, rfl, rfl, trivial⟩ ?_
    refine g_seq ?_
    refine g_region ?_
    refine l_of (s_val (v := .bool (decide (((k : Int) : Int) < (n : Int)))) (wt0 rfl) rfl rfl (x_bin rfl rfl rfl b_lss) ?_)
    refine g_nil ?_
    refine g_then ?_
    refine g_seq ?_
    by_cases hb4 : ((k : Int) : Int) < (n : Int)
    · skip
      obtain ⟨s, hs⟩ : ∃ s, l[k]? = some s := ⟨_, List.getElem?_eq_getElem (by omega)⟩
      obtain ⟨s2, hs2⟩ : ∃ s, lm[k]? = some s := ⟨_, List.getElem?_eq_getElem (by omega)⟩
      refine g_cond_t rfl (decide_eq_true hb4) ?_
      refine g_skip ?_
      refine g_then ?_
      refine g_seq ?_
      refine g_block ?_
      refine g_seq ?_
      refine g_region ?_
      refine l_of (s_val (v := .int .i64 ((k : Int))) (wt0 rfl) rfl rfl (x_move rfl rfl) ?_)
      refine l_of (s_val (v := .int .i64 ((k : Int))) (wt0 rfl) rfl rfl (x_assign rfl rfl) ?_)
      refine g_nil ?_
      refine g_then ?_
      refine g_seq ?_
      refine g_quiet (by kernel_rfl) (by kernel_rfl) H3 ?_
      refine q_val (v := .slice p n c) (wt0 rfl) rfl rfl (fun wx H => x_move rfl rfl) ?_
      refine q_val (v := .int .i64 ((k : Int))) (wt0 rfl) rfl rfl (fun wx H => x_move rfl rfl) ?_
      refine q_val (v := .pointer ((p).map fun q => q.add (k * 1))) (wt0 rfl) rfl rfl (fun wx H => x_idxP k ((H3.rwSome (k := 0) rfl (by omega))) rfl rfl rfl Try.underlying37 sz9 (by omega)) ?_
      refine q_val (v := .string s) (wt0 rfl) rfl rfl (fun wx H => x_loadR1 k ((H.rwReads (k := 0) rfl)) (by omega) rfl rfl Try.underlying9 rfl (stV_at hs)) ?_
      refine q_val (v := .slice q m d) (wt0 rfl) rfl rfl (fun wx H => x_move rfl rfl) ?_
      refine q_val (v := .int .i64 ((k : Int))) (wt0 rfl) rfl rfl (fun wx H => x_move rfl rfl) ?_
      refine q_val (v := .pointer ((q).map fun q => q.add (k * 1))) (wt0 rfl) rfl rfl (fun wx H => x_idxP k ((H3.rwSome (k := 1) rfl (by omega))) rfl rfl rfl Try.underlying37 sz9 (by omega)) ?_
      refine q_val (v := .string s2) (wt0 rfl) rfl rfl (fun wx H => x_loadR1 k ((H.rwReads (k := 1) rfl)) (by omega) rfl rfl Try.underlying9 rfl (stV_at hs2)) ?_
      refine q_val (v := .bool (!decide (s = s2))) (wt0 rfl) rfl rfl (fun wx H => x_bin rfl rfl rfl b_nes) ?_
      refine q_nil (fun wq5 H6 => ?_)
      refine g_then ?_
      by_cases hb7 : s = s2
      · skip
        refine g_cond_f rfl (nf hb7) ?_
        refine g_skip ?_
        refine g_in ?_
        refine g_then ?_
        refine g_weak [(0, .slice p n c), (1, .slice q m d), (12, .int .i64 ((n : Int))), (13, .int .i64 ((k : Int)))] ⟨rfl, rfl, rfl, rfl, trivial⟩ ?_
        refine g_region ?_
        refine l_of (s_val (v := .int .i64 (((k + 1 : Nat) : Int))) (wt0 rfl) rfl rfl (x_bin rfl rfl rfl (b_add (by rw [w64 (by omega)]; omega))) ?_)
        refine l_of (s_val (v := .int .i64 (((k + 1 : Nat) : Int))) (wt0 rfl) rfl rfl (x_move rfl rfl) ?_)
        refine g_nil ?_
        refine g_then ?_
        refine g_round (i := (k)) ((k + 1)) ?_ ?_ ?_
        · exact ⟨rfl, rfl, rfl, rfl, trivial⟩
        · exact ⟨by omega, (by rw [take_snoc hs, take_snoc hs2, he, hb7]), H6⟩
        · (try dsimp only); omega
      · skip
        refine g_cond_t rfl (nt hb7) ?_
        refine g_seq ?_
        refine g_region ?_
        refine l_of (s_val (v := .bool false) (wt0 rfl) rfl rfl (x_assign rfl rfl) ?_)
        refine g_nil ?_
        refine g_then ?_
        refine g_weak [(4, .bool false)] ⟨rfl, trivial⟩ ?_
        refine g_ret ?_
        refine g_in_ret ?_
        refine g_then_ret ?_
        refine g_then_ret ?_
        refine g_in_ret ?_
        refine g_then_ret ?_
        refine fin_ret [.tmp 4] [.bool false] rfl ⟨rfl, trivial⟩ ?_
        have hlm : ¬ l = lm := fun h9 => hb7 (by rw [h9, hs2] at hs; exact (Option.some.inj hs).symm)
        exact ⟨by rw [decide_eq_false hlm]; rfl, H6.takes [0, 1, 2] (by decide)⟩
    · skip
      refine g_cond_f rfl (decide_eq_false hb4) ?_
      refine g_exit ?_
      refine g_then_exit ?_
      refine g_then_exit ?_
      refine g_in_hit ?_
      refine g_then ?_
      refine g_seq ?_
      refine g_region ?_
      refine l_of (s_val (v := .bool true) (wt0 rfl) rfl rfl (x_assign rfl rfl) ?_)
      refine g_nil ?_
      refine g_then ?_
      refine g_ret ?_
      refine fin_ret [.tmp 4] [.bool true] rfl ⟨rfl, trivial⟩ ?_
      have hkn : k = n := by omega
      subst hkn
      have hlm : l = lm := by rw [List.take_of_length_le (by omega), List.take_of_length_le (by omega)] at he; exact he
      exact ⟨by rw [decide_eq_true hlm]; rfl, H3.takes [0, 1, 2] (by decide)⟩
  · skip
    refine g_cond_t rfl (nt hb1) ?_
    refine g_seq ?_
    refine g_region ?_
    refine l_of (s_val (v := .bool false) (wt0 rfl) rfl rfl (x_assign rfl rfl) ?_)
    refine g_nil ?_
    refine g_then ?_
    refine g_ret ?_
    refine g_then_ret ?_
    refine fin_ret [.tmp 4] [.bool false] rfl ⟨rfl, trivial⟩ ?_
    have hlm : ¬ l = lm := fun h9 => by have := congrArg List.length h9; omega
    exact ⟨by rw [decide_eq_false hlm]; rfl, H0.takes [0, 1, 2] (by decide)⟩
end Go.Proofs.Ytibdlnjnomikjaa
