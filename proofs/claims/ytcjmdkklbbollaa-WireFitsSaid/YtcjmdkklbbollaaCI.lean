import Derived.Test.YtcjmdkklbbollaaCH
set_option linter.unusedSimpArgs false
set_option linter.unusedVariables false
namespace Go.Proofs.Ytcjmdkklbbollaa
open Go.RowKit

theorem inf9 : infO Try.prog 9 = some (some (.string (⟨#[]⟩)), 1, 16) := by kernel_rfl
theorem ze9 : zeO Try.prog 9 = some (.string (⟨#[]⟩)) := by kernel_rfl
/-- The digests of a message. -/
def digS (m : M) : List ByteArray × Int := if validP m = true then (if m.kind = 19 then (chunksS m.data, 0) else ([], 10)) else ([], 1)
theorem valid_hash {m : M} (h : validP m = true) (hk : m.kind = 19) : m.data.size = 32 * (m.data.size / 32) ∧ m.data.size ≤ 2048 := by
  unfold validP at h
  rw [hk] at h
  simp only [Bool.and_eq_true] at h
  have hf := h.1.2
  rw [show (19 : Int).toNat = 19 from rfl] at hf
  have := List.all_eq_true.1 hf (FRest 32 2048 32) (by unfold fields fsHash; exact List.mem_append_right _ (List.mem_singleton.2 rfl))
  unfold rightP FRest at this
  rw [if_neg (by show ¬ (7 ≤ 5); omega)] at this
  unfold okText M.text at this
  simp at this
  omega
theorem chunks_len (s : ByteArray) : (chunksS s).length = s.size / 32 := by unfold chunksS; simp
theorem ext_chunk (s : ByteArray) (k : Nat) (h : 32 * k ≤ s.size) : (s.extract (32 * k) s.size).extract 0 32 = chunkS s k := by
  apply eq_of_bl
  have e : s.data.toList.length = s.size := by simp
  rw [extract_list, extract_list, List.drop_zero, List.take_of_length_le (l := s.data.toList) (by omega)]
  unfold chunkS chunkB; simp
theorem ext_rest (s : ByteArray) (k : Nat) (h : 32 * k + 32 ≤ s.size) : (s.extract (32 * k) s.size).extract 32 (s.extract (32 * k) s.size).size = s.extract (32 * (k + 1)) s.size := by
  have hz : (s.extract (32 * k) s.size).size = s.size - 32 * k := by rw [ByteArray.size_extract]; omega
  rw [hz, ext_ext s (32 * k) s.size 32 _ (by omega) (Nat.le_refl _)]
  congr 1; omega
theorem ext_nil (s : ByteArray) (k : Nat) (h : 32 * k ≤ s.size) : s.extract (32 * k) s.size = ⟨#[]⟩ ↔ 32 * k = s.size := by
  have hz : (s.extract (32 * k) s.size).size = s.size - 32 * k := by rw [ByteArray.size_extract]; omega
  constructor
  · intro e
    rw [e] at hz
    have : (⟨#[]⟩ : ByteArray).size = 0 := rfl
    omega
  · intro e
    apply eq_of_bl
    have h0 : (s.extract (32 * k) s.size).data.toList.length = (s.extract (32 * k) s.size).size := by simp
    exact List.eq_nil_of_length_eq_zero (by rw [h0, hz]; omega)
theorem chunks_next (s : ByteArray) (k : Nat) : stV ((List.range (k + 1)).map (chunkS s)) = stV ((List.range k).map (chunkS s)) ++ [Value.string (chunkS s k)] := by
  rw [← stV_snoc]; simp [List.range_succ]
theorem from_all (s : ByteArray) : s.extract (32 * 0) s.size = s := by
  apply eq_of_bl
  rw [extract_list, List.take_of_length_le (by simp)]; rfl
set_option maxRecDepth 20000 in
set_option maxHeartbeats 4000000 in
theorem digests_r (m : M)  (w : World) : Calls Try.prog 27 #[.agg m.cells] w fun e w' => ∃ p c, e = .returned (.tuple #[.slice p (digS m).1.length c, .int .i64 (digS m).2]) ∧ S w' ([Rw 9 1 p (digS m).1.length c (stV (digS m).1)] ++ [Old w no]) := by
  have H0 := S.old w
  refine enter 26 Try.func27 rfl rfl rfl ?_
  refine g_weak [(0, .agg m.cells)] ⟨rfl, trivial⟩ ?_
  refine g_seq ?_
  refine g_region ?_
  refine l_of (s_box H0 (wt0 rfl) rfl rfl rfl rfl ?_)
  intro g1 wq2 H3
  refine l_of (s_val (v := .slice none 0 0) (wt0 rfl) rfl rfl (x_assign rfl rfl) ?_)
  refine l_of (s_val (v := .int .i64 0) (wt0 rfl) rfl rfl (x_assign rfl rfl) ?_)
  refine g_nil ?_
  refine g_then ?_
  refine g_seq ?_
  refine g_block ?_
  refine g_seq ?_
  refine g_region ?_
  refine l_of (s_val (v := .agg m.cells) (wt0 rfl) rfl rfl (x_loadA H3 0 rfl rfl Try.underlying33 rfl sz33 rfl rfl rfl) ?_)
  refine l_of (s_call (wt0 rfl) (x_call' rfl rfl cl23) (valid_r _ _) ?_)
  rintro _ wq4 ⟨rfl, H5⟩
  replace H5 : S wq4 [Ob g1 (.cells m.cells 33 (0, 0)), Old w no] := H3.absorb (new := []) (S.of_below H5)
  refine b_ret rfl rfl ?_
  refine l_of (s_val (v := .bool (!(validP m))) (wt0 rfl) rfl rfl (x_not (b := validP m) rfl rfl) ?_)
  refine l_of (s_val (v := .bool (!(validP m))) (wt0 rfl) rfl rfl (x_assign rfl rfl) ?_)
  refine g_nil ?_
  refine g_then ?_
  rcases Bool.eq_false_or_eq_true (validP m) with hb6 | hb6
  · skip
    refine g_cond_f rfl (neg_of hb6) ?_
    refine g_seq ?_
    refine g_region ?_
    refine l_of (s_val (v := .pointer (some ⟨g1, 0, none⟩)) (wt0 rfl) rfl rfl (x_fieldAddr rfl rfl fo33_0 rfl) ?_)
    refine l_of (s_val (v := .int .i64 (m.kind)) (wt0 rfl) rfl rfl (x_load1 H5 0 rfl rfl Try.underlying3 rfl rfl rfl) ?_)
    refine l_of (s_val (v := .bool (!decide ((m.kind : Int) = 19))) (wt0 rfl) rfl rfl (x_bin rfl rfl rfl b_neq) ?_)
    refine l_of (s_val (v := .bool (!decide ((m.kind : Int) = 19))) (wt0 rfl) rfl rfl (x_assign rfl rfl) ?_)
    refine g_nil ?_
    refine g_then ?_
    by_cases hb7 : (m.kind : Int) = 19
    · skip
      refine g_cond_f rfl (nf hb7) ?_
      refine g_skip ?_
      refine g_in ?_
      refine g_then ?_
      refine g_seq ?_
      refine g_region ?_
      have H8 : S wq4 [Rw 9 1 none 0 0 [], Ob g1 (.cells m.cells 33 (0, 0)), Old w no] := H5.nilRw 9 1
      refine l_of (s_val (v := .slice none 0 0) (wt0 rfl) rfl rfl (x_assign rfl rfl) ?_)
      refine g_nil ?_
      refine g_then ?_
      refine g_seq ?_
      refine g_seq ?_
      refine g_region ?_
      refine l_of (s_val (v := .pointer (some ⟨g1, 7, none⟩)) (wt0 rfl) rfl rfl (x_fieldAddr rfl rfl fo33_7 rfl) ?_)
      refine l_of (s_val (v := .string (m.data)) (wt0 rfl) rfl rfl (x_load1 H8 1 rfl rfl Try.underlying9 rfl rfl rfl) ?_)
      have hex := from_all m.data
      refine l_of (s_val (v := .string ((m.data.extract (32 * 0) m.data.size))) (wt0 rfl) rfl rfl (ex_cast (x_assign rfl rfl) (by rw [from_all])) ?_)
      refine g_nil ?_
      refine g_then ?_
      refine g_weak [(4, .slice none 0 0), (5, .string ((m.data.extract (32 * 0) m.data.size)))] ⟨rfl, rfl, trivial⟩ ?_
      refine g_block ?_
      obtain ⟨hd32, hd20⟩ := valid_hash hb6 hb7
      have hex := from_all m.data
      refine g_loop (ι := Nat × Option Addr × Nat) (fun (k, q, d) => [(4, .slice q k d), (5, .string ((m.data.extract (32 * k) m.data.size)))]) (fun (k, q, d) wx => (k ≤ m.data.size / 32) ∧ S wx [Rw 9 1 q k d (stV ((List.range k).map (chunkS m.data))), Old w no]) (fun (k, q, d) => m.data.size / 32 - k) (0, none, 0) ⟨rfl, rfl, trivial⟩ ⟨Nat.zero_le _, (H8.takes [0, 2] (by decide))⟩ ?_
      rintro ⟨k, q, d⟩ wq9 ⟨hk, H10⟩
      replace H10 : S wq9 [Rw 9 1 q k d (stV ((List.range k).map (chunkS m.data))), Old w no] := H10
      refine g_weak [(4, .slice q k d), (5, .string ((m.data.extract (32 * k) m.data.size)))] ⟨rfl, rfl, trivial⟩ ?_
      refine g_seq ?_
      refine g_seq ?_
      refine g_region ?_
      refine l_of (s_val (v := .string ((m.data.extract (32 * k) m.data.size))) (wt0 rfl) rfl rfl (x_move rfl rfl) ?_)
      refine l_of (s_val (v := .bool (!decide ((m.data.extract (32 * k) m.data.size) = ⟨#[]⟩))) (wt0 rfl) rfl rfl (x_bin rfl rfl rfl b_nes) ?_)
      refine g_nil ?_
      refine g_then ?_
      by_cases hb11 : 32 * k = m.data.size
      · skip
        refine g_cond_f rfl (nf ((ext_nil m.data k (by omega)).2 hb11)) ?_
        refine g_exit ?_
        refine g_then_exit ?_
        refine g_then_exit ?_
        refine g_in_hit ?_
        refine g_then ?_
        refine g_seq ?_
        refine g_region ?_
        refine l_of (s_val (v := .slice q k d) (wt0 rfl) rfl rfl (x_move rfl rfl) ?_)
        refine l_of (s_val (v := .slice q k d) (wt0 rfl) rfl rfl (x_assign rfl rfl) ?_)
        refine l_of (s_val (v := .int .i64 0) (wt0 rfl) rfl rfl (x_assign rfl rfl) ?_)
        refine g_nil ?_
        refine g_then ?_
        refine g_ret ?_
        refine fin_ret [.tmp 2, .tmp 3] [.slice q k d, .int .i64 0] rfl ⟨rfl, rfl, trivial⟩ ?_
        have hd : digS m = (chunksS m.data, 0) := by unfold digS; rw [if_pos hb6, if_pos hb7]
        have hcl := chunks_len m.data
        rw [hd]
        have hkq : k = m.data.size / 32 := by omega
        have HF := H10.takes [0, 1] (by decide)
        rw [hkq] at HF ⊢
        show ∃ p c, _ = Ending.returned (.tuple #[.slice p (chunksS m.data).length c, .int .i64 0]) ∧ S _ ([Rw 9 1 p (chunksS m.data).length c (stV (chunksS m.data))] ++ [Old w no])
        rw [hcl]
        exact ⟨q, d, rfl, HF⟩
      · skip
        refine g_cond_t rfl (nt (fun e => hb11 ((ext_nil m.data k (by omega)).1 e))) ?_
        refine g_skip ?_
        refine g_then ?_
        refine g_seq ?_
        refine g_block ?_
        refine g_region ?_
        refine l_of (s_val (v := .slice q k d) (wt0 rfl) rfl rfl (x_move rfl rfl) ?_)
        refine l_of (s_val (v := .string ((m.data.extract (32 * k) m.data.size))) (wt0 rfl) rfl rfl (x_move rfl rfl) ?_)
        have hsz12 : (m.data.extract (32 * k) m.data.size).size = m.data.size - 32 * k := by rw [ByteArray.size_extract]; omega
        refine l_of (s_val (v := .string ((chunkS m.data k))) (wt0 rfl) rfl rfl (ex_cast (x_slices 0 32 rfl rfl Try.underlying9 (.inl ⟨rfl, rfl⟩) (.inr ⟨_, _, _, rfl, rfl, by omega⟩) (by omega)) (by rw [ext_chunk _ _ (by omega)])) ?_)
        refine l_of (s_buildSlice H10 (wt0 rfl) rfl rfl rfl (vs := [.string ((chunkS m.data k))]) rfl Try.underlying41 sz9 ze9 rfl rfl (cells := #[.string ((chunkS m.data k))]) (by kernel_rfl) ?_)
        intro g13 wq14 H15
        refine l_of (s_appendR (n := k) (m := 1) (sc := d) (xs := (stV ((List.range k).map (chunkS m.data)))) (news := [.string ((chunkS m.data k))]) (p := q) (ad := ⟨g13, 0, none⟩) H15 1 (wt0 rfl) rfl rfl rfl rfl rfl rfl Try.underlying41 inf9 rfl (by decide) (by decide) rfl (by decide) (news_ob H15 (j0 := 0) rfl) rfl (by omega) ?_)
        intro p16 c17 wq18 (H19 : S wq18 [Ob g13 (.cells #[.string ((chunkS m.data k))] 9 (0, 0)), Rw 9 1 p16 (k + 1) c17 ((stV ((List.range k).map (chunkS m.data))) ++ [.string ((chunkS m.data k))]), Old w no])
        refine l_of (s_val (v := .slice p16 (k + 1) c17) (wt0 rfl) rfl rfl (x_assign rfl rfl) ?_)
        refine g_nil ?_
        refine g_in ?_
        refine g_then ?_
        refine g_region ?_
        refine l_of (s_val (v := .string ((m.data.extract (32 * k) m.data.size))) (wt0 rfl) rfl rfl (x_move rfl rfl) ?_)
        have hsz20 : (m.data.extract (32 * k) m.data.size).size = m.data.size - 32 * k := by rw [ByteArray.size_extract]; omega
        refine l_of (s_val (v := .string ((m.data.extract (32 * (k + 1)) m.data.size))) (wt0 rfl) rfl rfl (ex_cast (x_slices 32 (m.data.extract (32 * k) m.data.size).size rfl rfl Try.underlying9 (.inr ⟨_, _, _, rfl, rfl, by omega⟩) (.inl ⟨rfl, rfl⟩) (by omega)) (by rw [ext_rest _ _ (by omega)])) ?_)
        refine l_of (s_val (v := .string ((m.data.extract (32 * (k + 1)) m.data.size))) (wt0 rfl) rfl rfl (x_assign rfl rfl) ?_)
        refine g_nil ?_
        refine g_then ?_
        refine g_round (i := (k, q, d)) (k + 1, p16, c17) ?_ ?_ ?_
        · exact ⟨rfl, rfl, trivial⟩
        · exact ⟨by omega, (by rw [chunks_next]; exact (H19.takes [1, 2] (by decide)))⟩
        · (try dsimp only); omega
    · skip
      refine g_cond_t rfl (nt hb7) ?_
      refine g_seq ?_
      refine g_region ?_
      refine l_of (s_val (v := .slice none 0 0) (wt0 rfl) rfl rfl (x_assign rfl rfl) ?_)
      refine l_of (s_val (v := .int .i64 10) (wt0 rfl) rfl rfl (x_assign rfl rfl) ?_)
      refine g_nil ?_
      refine g_then ?_
      refine g_ret ?_
      refine g_in_ret ?_
      refine g_then_ret ?_
      refine fin_ret [.tmp 2, .tmp 3] [.slice none 0 0, .int .i64 10] rfl ⟨rfl, rfl, trivial⟩ ?_
      have hd : digS m = ([], 10) := by unfold digS; rw [if_pos hb6, if_neg hb7]
      rw [hd]
      exact ⟨none, 0, rfl, (H5.takes [1] (by decide)).nilRw 9 1⟩
  · skip
    refine g_cond_t rfl (neg_of hb6) ?_
    refine g_seq ?_
    refine g_region ?_
    refine l_of (s_val (v := .slice none 0 0) (wt0 rfl) rfl rfl (x_assign rfl rfl) ?_)
    refine l_of (s_val (v := .int .i64 1) (wt0 rfl) rfl rfl (x_assign rfl rfl) ?_)
    refine g_nil ?_
    refine g_then ?_
    refine g_ret ?_
    refine g_in_ret ?_
    refine g_then_ret ?_
    refine fin_ret [.tmp 2, .tmp 3] [.slice none 0 0, .int .i64 1] rfl ⟨rfl, rfl, trivial⟩ ?_
    have hd : digS m = ([], 1) := by unfold digS; rw [if_neg (by rw [hb6]; exact Bool.false_ne_true)]
    rw [hd]
    exact ⟨none, 0, rfl, (H5.takes [1] (by decide)).nilRw 9 1⟩
end Go.Proofs.Ytcjmdkklbbollaa
