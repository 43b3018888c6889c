import Derived.Test.YtcjmdkklbbollaaAB
import Derived.Test.YtcjmdkklbbollaaEr
set_option linter.unusedSimpArgs false
set_option linter.unusedVariables false
namespace Go.Proofs.Ytcjmdkklbbollaa
open Go.RowKit

theorem cl23 : callable Try.prog 23 = true := by kernel_rfl
theorem cl47 : callable Try.prog 47 = true := by kernel_rfl
theorem cl48 : callable Try.prog 48 = true := by kernel_rfl
theorem cl49 : callable Try.prog 49 = true := by kernel_rfl
theorem fo33_0 : foO Try.prog 33 0 = some 0 := by kernel_rfl
theorem sz5 : szO Try.prog 5 = some 1 := by kernel_rfl
theorem ze5 : zeO Try.prog 5 = some (.int .u8 0) := by kernel_rfl
/-- What stands behind a message's number. -/
def bodyS (k i1 i2 i3 i4 i5 : Int) (root data : ByteArray) : ByteArray :=
  if isIdx k = true then ⟨(be 4 i1).toArray⟩
  else if k = 7 then data
  else if isBlock k = true then (⟨(be 4 i1).toArray⟩ : ByteArray) ++ ⟨(be 4 i2).toArray⟩ ++ ⟨(be 4 i3).toArray⟩
  else if k = 9 then (⟨(be 4 i1).toArray⟩ : ByteArray) ++ ⟨(be 4 i2).toArray⟩ ++ data
  else if k = 11 then (⟨(be 4 i1).toArray⟩ : ByteArray).extract 2 (⟨(be 4 i1).toArray⟩ : ByteArray).size
  else if k = 17 then (⟨(be 4 i1).toArray⟩ : ByteArray).extract 3 (⟨(be 4 i1).toArray⟩ : ByteArray).size ++ data
  else if isHash k = true then root ++ ⟨(be 4 i4).toArray⟩ ++ ⟨(be 4 i1).toArray⟩ ++ ⟨(be 4 i3).toArray⟩ ++ ⟨(be 4 i5).toArray⟩ ++ data
  else ⟨#[]⟩
set_option maxRecDepth 20000 in
set_option maxHeartbeats 4000000 in
theorem body_r (k i1 i2 i3 i4 i5 : Int) (root data : ByteArray) (hw : (0 ≤ i1 ∧ i1 ≤ 4294967295) ∧ (0 ≤ i2 ∧ i2 ≤ 4294967295) ∧ (0 ≤ i3 ∧ i3 ≤ 4294967295) ∧ (0 ≤ i4 ∧ i4 ≤ 4294967295) ∧ (0 ≤ i5 ∧ i5 ≤ 4294967295)) (hd : data.size ≤ 5000) (hr : root.size ≤ 100) (w : World) : Calls Try.prog 49 #[.agg #[.int .i64 k, .int .i64 i1, .int .i64 i2, .int .i64 i3, .int .i64 i4, .int .i64 i5, .string root, .string data]] w fun e w' => e = .returned (.string (bodyS k i1 i2 i3 i4 i5 root data)) ∧ S w' [Old w no] := by
  have H0 := S.old w
  refine enter 89 Try.func49 rfl rfl rfl ?_
  refine g_weak [(0, .agg #[.int .i64 k, .int .i64 i1, .int .i64 i2, .int .i64 i3, .int .i64 i4, .int .i64 i5, .string root, .string data])] ⟨rfl, trivial⟩ ?_
  refine g_seq ?_
  refine g_region ?_
  refine l_of (s_box H0 (wt0 rfl) rfl rfl rfl rfl ?_)
  intro g1 wq2 (H3 : S wq2 [Ob g1 (.cells #[.int .i64 k, .int .i64 i1, .int .i64 i2, .int .i64 i3, .int .i64 i4, .int .i64 i5, .string root, .string data] 33 (0, 0)), Old w no])
  refine l_of (s_val (v := .string (⟨#[]⟩)) (wt0 rfl) rfl rfl (x_assign rfl rfl) ?_)
  refine g_nil ?_
  refine g_then ?_
  refine g_seq ?_
  refine g_block ?_
  refine g_seq ?_
  refine g_region ?_
  refine l_of (s_val (v := .pointer (some ⟨g1, 0, none⟩)) (wt0 rfl) rfl rfl (x_fieldAddr rfl rfl fo33_0 rfl) ?_)
  refine l_of (s_val (v := .int .i64 k) (wt0 rfl) rfl rfl (x_load1 H3 0 rfl rfl Try.underlying3 rfl rfl rfl) ?_)
  refine l_of (s_call (wt0 rfl) (x_call' rfl rfl cl63) (indexed_r _ _) ?_)
  rintro _ _ ⟨rfl, rfl⟩
  refine b_ret rfl rfl ?_
  refine l_of (s_val (v := .bool (isIdx k)) (wt0 rfl) rfl rfl (x_assign rfl rfl) ?_)
  refine g_nil ?_
  refine g_then ?_
  rcases Bool.eq_false_or_eq_true (isIdx k) with hb6 | hb6
  · skip
    refine g_cond_t rfl hb6 ?_
    refine g_seq ?_
    refine g_region ?_
    refine l_of (s_val (v := .pointer (some ⟨g1, 1, none⟩)) (wt0 rfl) rfl rfl (x_fieldAddr rfl rfl fo33_1 rfl) ?_)
    refine l_of (s_val (v := .int .i64 i1) (wt0 rfl) rfl rfl (x_load1 H3 0 rfl rfl Try.underlying3 rfl rfl rfl) ?_)
    have : (⟨(be 4 i1).toArray⟩ : ByteArray).size = 4 := rfl
    refine l_of (s_call (wt0 rfl) (x_call' rfl rfl cl47) (four_r _ (by omega) (by omega) _) ?_)
    rintro _ wq7 ⟨rfl, H8⟩
    replace H8 : S wq7 [Ob g1 (.cells #[.int .i64 k, .int .i64 i1, .int .i64 i2, .int .i64 i3, .int .i64 i4, .int .i64 i5, .string root, .string data] 33 (0, 0)), Old w no] := H3.absorb (new := []) (S.of_below H8)
    refine b_ret rfl rfl ?_
    refine l_of (s_val (v := .string ((⟨(be 4 i1).toArray⟩ : ByteArray))) (wt0 rfl) rfl rfl (x_assign rfl rfl) ?_)
    refine g_nil ?_
    refine g_then ?_
    refine g_ret ?_
    refine g_in_ret ?_
    refine g_then_ret ?_
    refine fin_ret [.tmp 2] [.string ((⟨(be 4 i1).toArray⟩ : ByteArray))] rfl ⟨rfl, trivial⟩ ?_
    exact ⟨by simp only [bodyS, tupled, hb6, if_true, Bool.false_eq_true, if_false], H8.mask [false, true]⟩
  · skip
    refine g_cond_f rfl hb6 ?_
    refine g_seq ?_
    refine g_region ?_
    refine l_of (s_val (v := .pointer (some ⟨g1, 0, none⟩)) (wt0 rfl) rfl rfl (x_fieldAddr rfl rfl fo33_0 rfl) ?_)
    refine l_of (s_val (v := .int .i64 k) (wt0 rfl) rfl rfl (x_load1 H3 0 rfl rfl Try.underlying3 rfl rfl rfl) ?_)
    refine l_of (s_val (v := .bool (decide ((k : Int) = 7))) (wt0 rfl) rfl rfl (x_bin rfl rfl rfl b_eql) ?_)
    refine l_of (s_val (v := .bool (decide ((k : Int) = 7))) (wt0 rfl) rfl rfl (x_assign rfl rfl) ?_)
    refine g_nil ?_
    refine g_then ?_
    by_cases hb9 : (k : Int) = 7
    · skip
      refine g_cond_t rfl (decide_eq_true hb9) ?_
      refine g_seq ?_
      refine g_region ?_
      refine l_of (s_val (v := .pointer (some ⟨g1, 7, none⟩)) (wt0 rfl) rfl rfl (x_fieldAddr rfl rfl fo33_7 rfl) ?_)
      refine l_of (s_val (v := .string data) (wt0 rfl) rfl rfl (x_load1 H3 0 rfl rfl Try.underlying9 rfl rfl rfl) ?_)
      refine l_of (s_val (v := .string data) (wt0 rfl) rfl rfl (x_assign rfl rfl) ?_)
      refine g_nil ?_
      refine g_then ?_
      refine g_weak [(2, .string data)] ⟨rfl, trivial⟩ ?_
      refine g_ret ?_
      refine g_in_ret ?_
      refine g_then_ret ?_
      refine fin_ret [.tmp 2] [.string data] rfl ⟨rfl, trivial⟩ ?_
      exact ⟨by simp only [bodyS, tupled, hb6, if_pos hb9, if_true, Bool.false_eq_true, if_false], H3.mask [false, true]⟩
    · skip
      refine g_cond_f rfl (decide_eq_false hb9) ?_
      refine g_seq ?_
      refine g_region ?_
      refine l_of (s_val (v := .pointer (some ⟨g1, 0, none⟩)) (wt0 rfl) rfl rfl (x_fieldAddr rfl rfl fo33_0 rfl) ?_)
      refine l_of (s_val (v := .int .i64 k) (wt0 rfl) rfl rfl (x_load1 H3 0 rfl rfl Try.underlying3 rfl rfl rfl) ?_)
      refine l_of (s_call (wt0 rfl) (x_call' rfl rfl cl64) (block_r _ _) ?_)
      rintro _ _ ⟨rfl, rfl⟩
      refine b_ret rfl rfl ?_
      refine l_of (s_val (v := .bool (isBlock k)) (wt0 rfl) rfl rfl (x_assign rfl rfl) ?_)
      refine g_nil ?_
      refine g_then ?_
      refine g_weak [(1, .pointer (some ⟨g1, 0, none⟩)), (16, .bool (isBlock k))] ⟨rfl, rfl, trivial⟩ ?_
      rcases Bool.eq_false_or_eq_true (isBlock k) with hb12 | hb12
      · skip
        refine g_cond_t rfl hb12 ?_
        refine g_seq ?_
        refine g_quiet (by kernel_rfl) (by kernel_rfl) H3 ?_
        refine q_val (v := .pointer (some ⟨g1, 1, none⟩)) (wt0 rfl) rfl rfl (fun wx H => x_fieldAddr rfl rfl fo33_1 rfl) ?_
        refine q_val (v := .int .i64 i1) (wt0 rfl) rfl rfl (fun wx H => x_load1 H 0 rfl rfl Try.underlying3 rfl rfl rfl) ?_
        have : (⟨(be 4 i1).toArray⟩ : ByteArray).size = 4 := rfl
        refine q_call (wt0 rfl) rfl rfl (fun wx H => x_call' rfl rfl cl47) (fun wx H => (four_r _ (by omega) (by omega) _).mono (by rintro _ _ ⟨rfl, h⟩; exact ⟨rfl, H.absorb (new := []) (S.of_below h)⟩)) ?_
        refine q_val (v := .pointer (some ⟨g1, 2, none⟩)) (wt0 rfl) rfl rfl (fun wx H => x_fieldAddr rfl rfl fo33_2 rfl) ?_
        refine q_val (v := .int .i64 i2) (wt0 rfl) rfl rfl (fun wx H => x_load1 H 0 rfl rfl Try.underlying3 rfl rfl rfl) ?_
        have : (⟨(be 4 i2).toArray⟩ : ByteArray).size = 4 := rfl
        refine q_call (wt0 rfl) rfl rfl (fun wx H => x_call' rfl rfl cl47) (fun wx H => (four_r _ (by omega) (by omega) _).mono (by rintro _ _ ⟨rfl, h⟩; exact ⟨rfl, H.absorb (new := []) (S.of_below h)⟩)) ?_
        have hsz13 : ((⟨(be 4 i1).toArray⟩ : ByteArray) ++ (⟨(be 4 i2).toArray⟩ : ByteArray)).size = (⟨(be 4 i1).toArray⟩ : ByteArray).size + (⟨(be 4 i2).toArray⟩ : ByteArray).size := ByteArray.size_append
        refine q_val (v := .string ((⟨(be 4 i1).toArray⟩ : ByteArray) ++ (⟨(be 4 i2).toArray⟩ : ByteArray))) (wt0 rfl) rfl rfl (fun wx H => x_bin rfl rfl rfl (b_cat (by omega))) ?_
        refine q_val (v := .pointer (some ⟨g1, 3, none⟩)) (wt0 rfl) rfl rfl (fun wx H => x_fieldAddr rfl rfl fo33_3 rfl) ?_
        refine q_val (v := .int .i64 i3) (wt0 rfl) rfl rfl (fun wx H => x_load1 H 0 rfl rfl Try.underlying3 rfl rfl rfl) ?_
        have : (⟨(be 4 i3).toArray⟩ : ByteArray).size = 4 := rfl
        refine q_call (wt0 rfl) rfl rfl (fun wx H => x_call' rfl rfl cl47) (fun wx H => (four_r _ (by omega) (by omega) _).mono (by rintro _ _ ⟨rfl, h⟩; exact ⟨rfl, H.absorb (new := []) (S.of_below h)⟩)) ?_
        have hsz14 : (((⟨(be 4 i1).toArray⟩ : ByteArray) ++ (⟨(be 4 i2).toArray⟩ : ByteArray)) ++ (⟨(be 4 i3).toArray⟩ : ByteArray)).size = ((⟨(be 4 i1).toArray⟩ : ByteArray) ++ (⟨(be 4 i2).toArray⟩ : ByteArray)).size + (⟨(be 4 i3).toArray⟩ : ByteArray).size := ByteArray.size_append
        refine q_val (v := .string (((⟨(be 4 i1).toArray⟩ : ByteArray) ++ (⟨(be 4 i2).toArray⟩ : ByteArray)) ++ (⟨(be 4 i3).toArray⟩ : ByteArray))) (wt0 rfl) rfl rfl (fun wx H => x_bin rfl rfl rfl (b_cat (by omega))) ?_
        refine q_val (v := .string (((⟨(be 4 i1).toArray⟩ : ByteArray) ++ (⟨(be 4 i2).toArray⟩ : ByteArray)) ++ (⟨(be 4 i3).toArray⟩ : ByteArray))) (wt0 rfl) rfl rfl (fun wx H => x_assign rfl rfl) ?_
        refine q_nil (fun wq15 H16 => ?_)
        refine g_then ?_
        refine g_weak [(2, .string (((⟨(be 4 i1).toArray⟩ : ByteArray) ++ (⟨(be 4 i2).toArray⟩ : ByteArray)) ++ (⟨(be 4 i3).toArray⟩ : ByteArray)))] ⟨rfl, trivial⟩ ?_
        refine g_ret ?_
        refine g_in_ret ?_
        refine g_then_ret ?_
        refine fin_ret [.tmp 2] [.string (((⟨(be 4 i1).toArray⟩ : ByteArray) ++ (⟨(be 4 i2).toArray⟩ : ByteArray)) ++ (⟨(be 4 i3).toArray⟩ : ByteArray))] rfl ⟨rfl, trivial⟩ ?_
        exact ⟨by simp only [bodyS, tupled, hb6, if_neg hb9, hb12, if_true, Bool.false_eq_true, if_false], H16.mask [false, true]⟩
      · skip
        refine g_cond_f rfl hb12 ?_
        refine g_seq ?_
        refine g_region ?_
        refine l_of (s_val (v := .pointer (some ⟨g1, 0, none⟩)) (wt0 rfl) rfl rfl (x_fieldAddr rfl rfl fo33_0 rfl) ?_)
        refine l_of (s_val (v := .int .i64 k) (wt0 rfl) rfl rfl (x_load1 H3 0 rfl rfl Try.underlying3 rfl rfl rfl) ?_)
        refine l_of (s_val (v := .bool (decide ((k : Int) = 9))) (wt0 rfl) rfl rfl (x_bin rfl rfl rfl b_eql) ?_)
        refine l_of (s_val (v := .bool (decide ((k : Int) = 9))) (wt0 rfl) rfl rfl (x_assign rfl rfl) ?_)
        refine g_nil ?_
        refine g_then ?_
        by_cases hb17 : (k : Int) = 9
        · skip
          refine g_cond_t rfl (decide_eq_true hb17) ?_
          refine g_seq ?_
          refine g_quiet (by kernel_rfl) (by kernel_rfl) H3 ?_
          refine q_val (v := .pointer (some ⟨g1, 1, none⟩)) (wt0 rfl) rfl rfl (fun wx H => x_fieldAddr rfl rfl fo33_1 rfl) ?_
          refine q_val (v := .int .i64 i1) (wt0 rfl) rfl rfl (fun wx H => x_load1 H 0 rfl rfl Try.underlying3 rfl rfl rfl) ?_
          have : (⟨(be 4 i1).toArray⟩ : ByteArray).size = 4 := rfl
          refine q_call (wt0 rfl) rfl rfl (fun wx H => x_call' rfl rfl cl47) (fun wx H => (four_r _ (by omega) (by omega) _).mono (by rintro _ _ ⟨rfl, h⟩; exact ⟨rfl, H.absorb (new := []) (S.of_below h)⟩)) ?_
          refine q_val (v := .pointer (some ⟨g1, 2, none⟩)) (wt0 rfl) rfl rfl (fun wx H => x_fieldAddr rfl rfl fo33_2 rfl) ?_
          refine q_val (v := .int .i64 i2) (wt0 rfl) rfl rfl (fun wx H => x_load1 H 0 rfl rfl Try.underlying3 rfl rfl rfl) ?_
          have : (⟨(be 4 i2).toArray⟩ : ByteArray).size = 4 := rfl
          refine q_call (wt0 rfl) rfl rfl (fun wx H => x_call' rfl rfl cl47) (fun wx H => (four_r _ (by omega) (by omega) _).mono (by rintro _ _ ⟨rfl, h⟩; exact ⟨rfl, H.absorb (new := []) (S.of_below h)⟩)) ?_
          have hsz18 : ((⟨(be 4 i1).toArray⟩ : ByteArray) ++ (⟨(be 4 i2).toArray⟩ : ByteArray)).size = (⟨(be 4 i1).toArray⟩ : ByteArray).size + (⟨(be 4 i2).toArray⟩ : ByteArray).size := ByteArray.size_append
          refine q_val (v := .string ((⟨(be 4 i1).toArray⟩ : ByteArray) ++ (⟨(be 4 i2).toArray⟩ : ByteArray))) (wt0 rfl) rfl rfl (fun wx H => x_bin rfl rfl rfl (b_cat (by omega))) ?_
          refine q_val (v := .pointer (some ⟨g1, 7, none⟩)) (wt0 rfl) rfl rfl (fun wx H => x_fieldAddr rfl rfl fo33_7 rfl) ?_
          refine q_val (v := .string data) (wt0 rfl) rfl rfl (fun wx H => x_load1 H 0 rfl rfl Try.underlying9 rfl rfl rfl) ?_
          have hsz19 : (((⟨(be 4 i1).toArray⟩ : ByteArray) ++ (⟨(be 4 i2).toArray⟩ : ByteArray)) ++ data).size = ((⟨(be 4 i1).toArray⟩ : ByteArray) ++ (⟨(be 4 i2).toArray⟩ : ByteArray)).size + data.size := ByteArray.size_append
          refine q_val (v := .string (((⟨(be 4 i1).toArray⟩ : ByteArray) ++ (⟨(be 4 i2).toArray⟩ : ByteArray)) ++ data)) (wt0 rfl) rfl rfl (fun wx H => x_bin rfl rfl rfl (b_cat (by omega))) ?_
          refine q_val (v := .string (((⟨(be 4 i1).toArray⟩ : ByteArray) ++ (⟨(be 4 i2).toArray⟩ : ByteArray)) ++ data)) (wt0 rfl) rfl rfl (fun wx H => x_assign rfl rfl) ?_
          refine q_nil (fun wq20 H21 => ?_)
          refine g_then ?_
          refine g_weak [(2, .string (((⟨(be 4 i1).toArray⟩ : ByteArray) ++ (⟨(be 4 i2).toArray⟩ : ByteArray)) ++ data))] ⟨rfl, trivial⟩ ?_
          refine g_ret ?_
          refine g_in_ret ?_
          refine g_then_ret ?_
          refine fin_ret [.tmp 2] [.string (((⟨(be 4 i1).toArray⟩ : ByteArray) ++ (⟨(be 4 i2).toArray⟩ : ByteArray)) ++ data)] rfl ⟨rfl, trivial⟩ ?_
          exact ⟨by simp only [bodyS, tupled, hb6, if_neg hb9, hb12, if_pos hb17, if_true, Bool.false_eq_true, if_false], H21.mask [false, true]⟩
        · skip
          refine g_cond_f rfl (decide_eq_false hb17) ?_
          refine g_seq ?_
          refine g_region ?_
          refine l_of (s_val (v := .pointer (some ⟨g1, 0, none⟩)) (wt0 rfl) rfl rfl (x_fieldAddr rfl rfl fo33_0 rfl) ?_)
          refine l_of (s_val (v := .int .i64 k) (wt0 rfl) rfl rfl (x_load1 H3 0 rfl rfl Try.underlying3 rfl rfl rfl) ?_)
          refine l_of (s_val (v := .bool (decide ((k : Int) = 11))) (wt0 rfl) rfl rfl (x_bin rfl rfl rfl b_eql) ?_)
          refine l_of (s_val (v := .bool (decide ((k : Int) = 11))) (wt0 rfl) rfl rfl (x_assign rfl rfl) ?_)
          refine g_nil ?_
          refine g_then ?_
          by_cases hb22 : (k : Int) = 11
          · skip
            refine g_cond_t rfl (decide_eq_true hb22) ?_
            refine g_seq ?_
            refine g_region ?_
            refine l_of (s_val (v := .pointer (some ⟨g1, 1, none⟩)) (wt0 rfl) rfl rfl (x_fieldAddr rfl rfl fo33_1 rfl) ?_)
            refine l_of (s_val (v := .int .i64 i1) (wt0 rfl) rfl rfl (x_load1 H3 0 rfl rfl Try.underlying3 rfl rfl rfl) ?_)
            have : (⟨(be 4 i1).toArray⟩ : ByteArray).size = 4 := rfl
            refine l_of (s_call (wt0 rfl) (x_call' rfl rfl cl47) (four_r _ (by omega) (by omega) _) ?_)
            rintro _ wq23 ⟨rfl, H24⟩
            replace H24 : S wq23 [Ob g1 (.cells #[.int .i64 k, .int .i64 i1, .int .i64 i2, .int .i64 i3, .int .i64 i4, .int .i64 i5, .string root, .string data] 33 (0, 0)), Old w no] := H3.absorb (new := []) (S.of_below H24)
            refine b_ret rfl rfl ?_
            have hsz25 : ((⟨(be 4 i1).toArray⟩ : ByteArray).extract 2 ((⟨(be 4 i1).toArray⟩ : ByteArray).size)).size = (⟨(be 4 i1).toArray⟩ : ByteArray).size - 2 := by rw [ByteArray.size_extract]; omega
            refine l_of (s_val (v := .string ((⟨(be 4 i1).toArray⟩ : ByteArray).extract 2 ((⟨(be 4 i1).toArray⟩ : ByteArray).size))) (wt0 rfl) rfl rfl (x_slices 2 ((⟨(be 4 i1).toArray⟩ : ByteArray).size) rfl rfl Try.underlying9 (.inr ⟨_, _, _, rfl, rfl, by omega⟩) (.inl ⟨rfl, rfl⟩) (by omega)) ?_)
            refine l_of (s_val (v := .string ((⟨(be 4 i1).toArray⟩ : ByteArray).extract 2 ((⟨(be 4 i1).toArray⟩ : ByteArray).size))) (wt0 rfl) rfl rfl (x_assign rfl rfl) ?_)
            refine g_nil ?_
            refine g_then ?_
            refine g_weak [(2, .string ((⟨(be 4 i1).toArray⟩ : ByteArray).extract 2 ((⟨(be 4 i1).toArray⟩ : ByteArray).size)))] ⟨rfl, trivial⟩ ?_
            refine g_ret ?_
            refine g_in_ret ?_
            refine g_then_ret ?_
            refine fin_ret [.tmp 2] [.string ((⟨(be 4 i1).toArray⟩ : ByteArray).extract 2 ((⟨(be 4 i1).toArray⟩ : ByteArray).size))] rfl ⟨rfl, trivial⟩ ?_
            exact ⟨by simp only [bodyS, tupled, hb6, if_neg hb9, hb12, if_neg hb17, if_pos hb22, if_true, Bool.false_eq_true, if_false], H24.mask [false, true]⟩
          · skip
            refine g_cond_f rfl (decide_eq_false hb22) ?_
            refine g_seq ?_
            refine g_region ?_
            refine l_of (s_val (v := .pointer (some ⟨g1, 0, none⟩)) (wt0 rfl) rfl rfl (x_fieldAddr rfl rfl fo33_0 rfl) ?_)
            refine l_of (s_val (v := .int .i64 k) (wt0 rfl) rfl rfl (x_load1 H3 0 rfl rfl Try.underlying3 rfl rfl rfl) ?_)
            refine l_of (s_val (v := .bool (decide ((k : Int) = 17))) (wt0 rfl) rfl rfl (x_bin rfl rfl rfl b_eql) ?_)
            refine l_of (s_val (v := .bool (decide ((k : Int) = 17))) (wt0 rfl) rfl rfl (x_assign rfl rfl) ?_)
            refine g_nil ?_
            refine g_then ?_
            refine g_weak [(1, .pointer (some ⟨g1, 0, none⟩)), (53, .bool (decide ((k : Int) = 17)))] ⟨rfl, rfl, trivial⟩ ?_
            by_cases hb26 : (k : Int) = 17
            · skip
              refine g_cond_t rfl (decide_eq_true hb26) ?_
              refine g_seq ?_
              refine g_quiet (by kernel_rfl) (by kernel_rfl) H3 ?_
              refine q_val (v := .pointer (some ⟨g1, 1, none⟩)) (wt0 rfl) rfl rfl (fun wx H => x_fieldAddr rfl rfl fo33_1 rfl) ?_
              refine q_val (v := .int .i64 i1) (wt0 rfl) rfl rfl (fun wx H => x_load1 H 0 rfl rfl Try.underlying3 rfl rfl rfl) ?_
              have : (⟨(be 4 i1).toArray⟩ : ByteArray).size = 4 := rfl
              refine q_call (wt0 rfl) rfl rfl (fun wx H => x_call' rfl rfl cl47) (fun wx H => (four_r _ (by omega) (by omega) _).mono (by rintro _ _ ⟨rfl, h⟩; exact ⟨rfl, H.absorb (new := []) (S.of_below h)⟩)) ?_
              have hsz27 : ((⟨(be 4 i1).toArray⟩ : ByteArray).extract 3 ((⟨(be 4 i1).toArray⟩ : ByteArray).size)).size = (⟨(be 4 i1).toArray⟩ : ByteArray).size - 3 := by rw [ByteArray.size_extract]; omega
              refine q_val (v := .string ((⟨(be 4 i1).toArray⟩ : ByteArray).extract 3 ((⟨(be 4 i1).toArray⟩ : ByteArray).size))) (wt0 rfl) rfl rfl (fun wx H => x_slices 3 ((⟨(be 4 i1).toArray⟩ : ByteArray).size) rfl rfl Try.underlying9 (.inr ⟨_, _, _, rfl, rfl, by omega⟩) (.inl ⟨rfl, rfl⟩) (by omega)) ?_
              refine q_val (v := .pointer (some ⟨g1, 7, none⟩)) (wt0 rfl) rfl rfl (fun wx H => x_fieldAddr rfl rfl fo33_7 rfl) ?_
              refine q_val (v := .string data) (wt0 rfl) rfl rfl (fun wx H => x_load1 H 0 rfl rfl Try.underlying9 rfl rfl rfl) ?_
              have hsz28 : (((⟨(be 4 i1).toArray⟩ : ByteArray).extract 3 ((⟨(be 4 i1).toArray⟩ : ByteArray).size)) ++ data).size = ((⟨(be 4 i1).toArray⟩ : ByteArray).extract 3 ((⟨(be 4 i1).toArray⟩ : ByteArray).size)).size + data.size := ByteArray.size_append
              refine q_val (v := .string (((⟨(be 4 i1).toArray⟩ : ByteArray).extract 3 ((⟨(be 4 i1).toArray⟩ : ByteArray).size)) ++ data)) (wt0 rfl) rfl rfl (fun wx H => x_bin rfl rfl rfl (b_cat (by omega))) ?_
              refine q_val (v := .string (((⟨(be 4 i1).toArray⟩ : ByteArray).extract 3 ((⟨(be 4 i1).toArray⟩ : ByteArray).size)) ++ data)) (wt0 rfl) rfl rfl (fun wx H => x_assign rfl rfl) ?_
              refine q_nil (fun wq29 H30 => ?_)
              refine g_then ?_
              refine g_ret ?_
              refine g_in_ret ?_
              refine g_then_ret ?_
              refine fin_ret [.tmp 2] [.string (((⟨(be 4 i1).toArray⟩ : ByteArray).extract 3 ((⟨(be 4 i1).toArray⟩ : ByteArray).size)) ++ data)] rfl ⟨rfl, trivial⟩ ?_
              exact ⟨by simp only [bodyS, tupled, hb6, if_neg hb9, hb12, if_neg hb17, if_neg hb22, if_pos hb26, if_true, Bool.false_eq_true, if_false], H30.mask [false, true]⟩
            · skip
              refine g_cond_f rfl (decide_eq_false hb26) ?_
              refine g_seq ?_
              refine g_region ?_
              refine l_of (s_val (v := .pointer (some ⟨g1, 0, none⟩)) (wt0 rfl) rfl rfl (x_fieldAddr rfl rfl fo33_0 rfl) ?_)
              refine l_of (s_val (v := .int .i64 k) (wt0 rfl) rfl rfl (x_load1 H3 0 rfl rfl Try.underlying3 rfl rfl rfl) ?_)
              refine l_of (s_call (wt0 rfl) (x_call' rfl rfl cl65) (hashed_r _ _) ?_)
              rintro _ _ ⟨rfl, rfl⟩
              refine b_ret rfl rfl ?_
              refine l_of (s_val (v := .bool (isHash k)) (wt0 rfl) rfl rfl (x_assign rfl rfl) ?_)
              refine g_nil ?_
              refine g_then ?_
              rcases Bool.eq_false_or_eq_true (isHash k) with hb33 | hb33
              · skip
                refine g_cond_t rfl hb33 ?_
                refine g_seq ?_
                refine g_quiet (by kernel_rfl) (by kernel_rfl) H3 ?_
                refine q_val (v := .pointer (some ⟨g1, 6, none⟩)) (wt0 rfl) rfl rfl (fun wx H => x_fieldAddr rfl rfl fo33_6 rfl) ?_
                refine q_val (v := .string root) (wt0 rfl) rfl rfl (fun wx H => x_load1 H 0 rfl rfl Try.underlying9 rfl rfl rfl) ?_
                refine q_val (v := .pointer (some ⟨g1, 4, none⟩)) (wt0 rfl) rfl rfl (fun wx H => x_fieldAddr rfl rfl fo33_4 rfl) ?_
                refine q_val (v := .int .i64 i4) (wt0 rfl) rfl rfl (fun wx H => x_load1 H 0 rfl rfl Try.underlying3 rfl rfl rfl) ?_
                have : (⟨(be 4 i4).toArray⟩ : ByteArray).size = 4 := rfl
                refine q_call (wt0 rfl) rfl rfl (fun wx H => x_call' rfl rfl cl47) (fun wx H => (four_r _ (by omega) (by omega) _).mono (by rintro _ _ ⟨rfl, h⟩; exact ⟨rfl, H.absorb (new := []) (S.of_below h)⟩)) ?_
                have hsz34 : (root ++ (⟨(be 4 i4).toArray⟩ : ByteArray)).size = root.size + (⟨(be 4 i4).toArray⟩ : ByteArray).size := ByteArray.size_append
                refine q_val (v := .string (root ++ (⟨(be 4 i4).toArray⟩ : ByteArray))) (wt0 rfl) rfl rfl (fun wx H => x_bin rfl rfl rfl (b_cat (by omega))) ?_
                refine q_val (v := .pointer (some ⟨g1, 1, none⟩)) (wt0 rfl) rfl rfl (fun wx H => x_fieldAddr rfl rfl fo33_1 rfl) ?_
                refine q_val (v := .int .i64 i1) (wt0 rfl) rfl rfl (fun wx H => x_load1 H 0 rfl rfl Try.underlying3 rfl rfl rfl) ?_
                have : (⟨(be 4 i1).toArray⟩ : ByteArray).size = 4 := rfl
                refine q_call (wt0 rfl) rfl rfl (fun wx H => x_call' rfl rfl cl47) (fun wx H => (four_r _ (by omega) (by omega) _).mono (by rintro _ _ ⟨rfl, h⟩; exact ⟨rfl, H.absorb (new := []) (S.of_below h)⟩)) ?_
                have hsz35 : ((root ++ (⟨(be 4 i4).toArray⟩ : ByteArray)) ++ (⟨(be 4 i1).toArray⟩ : ByteArray)).size = (root ++ (⟨(be 4 i4).toArray⟩ : ByteArray)).size + (⟨(be 4 i1).toArray⟩ : ByteArray).size := ByteArray.size_append
                refine q_val (v := .string ((root ++ (⟨(be 4 i4).toArray⟩ : ByteArray)) ++ (⟨(be 4 i1).toArray⟩ : ByteArray))) (wt0 rfl) rfl rfl (fun wx H => x_bin rfl rfl rfl (b_cat (by omega))) ?_
                refine q_val (v := .pointer (some ⟨g1, 3, none⟩)) (wt0 rfl) rfl rfl (fun wx H => x_fieldAddr rfl rfl fo33_3 rfl) ?_
                refine q_val (v := .int .i64 i3) (wt0 rfl) rfl rfl (fun wx H => x_load1 H 0 rfl rfl Try.underlying3 rfl rfl rfl) ?_
                have : (⟨(be 4 i3).toArray⟩ : ByteArray).size = 4 := rfl
                refine q_call (wt0 rfl) rfl rfl (fun wx H => x_call' rfl rfl cl47) (fun wx H => (four_r _ (by omega) (by omega) _).mono (by rintro _ _ ⟨rfl, h⟩; exact ⟨rfl, H.absorb (new := []) (S.of_below h)⟩)) ?_
                have hsz36 : (((root ++ (⟨(be 4 i4).toArray⟩ : ByteArray)) ++ (⟨(be 4 i1).toArray⟩ : ByteArray)) ++ (⟨(be 4 i3).toArray⟩ : ByteArray)).size = ((root ++ (⟨(be 4 i4).toArray⟩ : ByteArray)) ++ (⟨(be 4 i1).toArray⟩ : ByteArray)).size + (⟨(be 4 i3).toArray⟩ : ByteArray).size := ByteArray.size_append
                refine q_val (v := .string (((root ++ (⟨(be 4 i4).toArray⟩ : ByteArray)) ++ (⟨(be 4 i1).toArray⟩ : ByteArray)) ++ (⟨(be 4 i3).toArray⟩ : ByteArray))) (wt0 rfl) rfl rfl (fun wx H => x_bin rfl rfl rfl (b_cat (by omega))) ?_
                refine q_val (v := .pointer (some ⟨g1, 5, none⟩)) (wt0 rfl) rfl rfl (fun wx H => x_fieldAddr rfl rfl fo33_5 rfl) ?_
                refine q_val (v := .int .i64 i5) (wt0 rfl) rfl rfl (fun wx H => x_load1 H 0 rfl rfl Try.underlying3 rfl rfl rfl) ?_
                have : (⟨(be 4 i5).toArray⟩ : ByteArray).size = 4 := rfl
                refine q_call (wt0 rfl) rfl rfl (fun wx H => x_call' rfl rfl cl47) (fun wx H => (four_r _ (by omega) (by omega) _).mono (by rintro _ _ ⟨rfl, h⟩; exact ⟨rfl, H.absorb (new := []) (S.of_below h)⟩)) ?_
                have hsz37 : ((((root ++ (⟨(be 4 i4).toArray⟩ : ByteArray)) ++ (⟨(be 4 i1).toArray⟩ : ByteArray)) ++ (⟨(be 4 i3).toArray⟩ : ByteArray)) ++ (⟨(be 4 i5).toArray⟩ : ByteArray)).size = (((root ++ (⟨(be 4 i4).toArray⟩ : ByteArray)) ++ (⟨(be 4 i1).toArray⟩ : ByteArray)) ++ (⟨(be 4 i3).toArray⟩ : ByteArray)).size + (⟨(be 4 i5).toArray⟩ : ByteArray).size := ByteArray.size_append
                refine q_val (v := .string ((((root ++ (⟨(be 4 i4).toArray⟩ : ByteArray)) ++ (⟨(be 4 i1).toArray⟩ : ByteArray)) ++ (⟨(be 4 i3).toArray⟩ : ByteArray)) ++ (⟨(be 4 i5).toArray⟩ : ByteArray))) (wt0 rfl) rfl rfl (fun wx H => x_bin rfl rfl rfl (b_cat (by omega))) ?_
                refine q_val (v := .pointer (some ⟨g1, 7, none⟩)) (wt0 rfl) rfl rfl (fun wx H => x_fieldAddr rfl rfl fo33_7 rfl) ?_
                refine q_val (v := .string data) (wt0 rfl) rfl rfl (fun wx H => x_load1 H 0 rfl rfl Try.underlying9 rfl rfl rfl) ?_
                have hsz38 : (((((root ++ (⟨(be 4 i4).toArray⟩ : ByteArray)) ++ (⟨(be 4 i1).toArray⟩ : ByteArray)) ++ (⟨(be 4 i3).toArray⟩ : ByteArray)) ++ (⟨(be 4 i5).toArray⟩ : ByteArray)) ++ data).size = ((((root ++ (⟨(be 4 i4).toArray⟩ : ByteArray)) ++ (⟨(be 4 i1).toArray⟩ : ByteArray)) ++ (⟨(be 4 i3).toArray⟩ : ByteArray)) ++ (⟨(be 4 i5).toArray⟩ : ByteArray)).size + data.size := ByteArray.size_append
                refine q_val (v := .string (((((root ++ (⟨(be 4 i4).toArray⟩ : ByteArray)) ++ (⟨(be 4 i1).toArray⟩ : ByteArray)) ++ (⟨(be 4 i3).toArray⟩ : ByteArray)) ++ (⟨(be 4 i5).toArray⟩ : ByteArray)) ++ data)) (wt0 rfl) rfl rfl (fun wx H => x_bin rfl rfl rfl (b_cat (by omega))) ?_
                refine q_val (v := .string (((((root ++ (⟨(be 4 i4).toArray⟩ : ByteArray)) ++ (⟨(be 4 i1).toArray⟩ : ByteArray)) ++ (⟨(be 4 i3).toArray⟩ : ByteArray)) ++ (⟨(be 4 i5).toArray⟩ : ByteArray)) ++ data)) (wt0 rfl) rfl rfl (fun wx H => x_assign rfl rfl) ?_
                refine q_nil (fun wq39 H40 => ?_)
                refine g_then ?_
                refine g_weak [(2, .string (((((root ++ (⟨(be 4 i4).toArray⟩ : ByteArray)) ++ (⟨(be 4 i1).toArray⟩ : ByteArray)) ++ (⟨(be 4 i3).toArray⟩ : ByteArray)) ++ (⟨(be 4 i5).toArray⟩ : ByteArray)) ++ data))] ⟨rfl, trivial⟩ ?_
                refine g_ret ?_
                refine g_in_ret ?_
                refine g_then_ret ?_
                refine fin_ret [.tmp 2] [.string (((((root ++ (⟨(be 4 i4).toArray⟩ : ByteArray)) ++ (⟨(be 4 i1).toArray⟩ : ByteArray)) ++ (⟨(be 4 i3).toArray⟩ : ByteArray)) ++ (⟨(be 4 i5).toArray⟩ : ByteArray)) ++ data)] rfl ⟨rfl, trivial⟩ ?_
                exact ⟨by simp only [bodyS, tupled, hb6, if_neg hb9, hb12, if_neg hb17, if_neg hb22, if_neg hb26, hb33, if_true, Bool.false_eq_true, if_false], H40.mask [false, true]⟩
              · skip
                refine g_cond_f rfl hb33 ?_
                refine g_skip ?_
                refine g_in ?_
                refine g_then ?_
                refine g_seq ?_
                refine g_region ?_
                refine l_of (s_val (v := .string (⟨#[]⟩)) (wt0 rfl) rfl rfl (x_assign rfl rfl) ?_)
                refine g_nil ?_
                refine g_then ?_
                refine g_ret ?_
                refine fin_ret [.tmp 2] [.string (⟨#[]⟩)] rfl ⟨rfl, trivial⟩ ?_
                exact ⟨by simp only [bodyS, tupled, hb6, if_neg hb9, hb12, if_neg hb17, if_neg hb22, if_neg hb26, hb33, if_true, Bool.false_eq_true, if_false], H3.mask [false, true]⟩
theorem bodyS_le (k i1 i2 i3 i4 i5 : Int) (root data : ByteArray) (hd : data.size ≤ 5000) (hr : root.size ≤ 100) : (bodyS k i1 i2 i3 i4 i5 root data).size ≤ 5200 := by
  have h : ∀ x : Int, (⟨(be 4 x).toArray⟩ : ByteArray).size = 4 := fun _ => rfl
  unfold bodyS
  repeat' split
  all_goals (try simp only [ByteArray.size_append, ByteArray.size_extract, h])
  all_goals first | omega | exact Nat.zero_le _
theorem numR_le (k : Int) (h : ¬ k = 1) (hv : 1 ≤ k ∧ k ≤ 20) : 0 ≤ numR k ∧ numR k ≤ 23 := by
  unfold numR
  rw [if_pos (by omega)]
  exact numb_range _
/-- What Encode answers, out of the document. -/
def encS (k i1 i2 i3 i4 i5 : Int) (root data : ByteArray) : ByteArray × Int :=
  if validP ⟨k, i1, i2, i3, i4, i5, root, data⟩ = true then
    if k = 1 then (⟨(be 4 0).toArray⟩, 0)
    else ((⟨(be 4 ((⟨[UInt8.ofNat (numR k).toNat].toArray⟩ : ByteArray) ++ bodyS k i1 i2 i3 i4 i5 root data).size).toArray⟩ : ByteArray) ++ ((⟨[UInt8.ofNat (numR k).toNat].toArray⟩ : ByteArray) ++ bodyS k i1 i2 i3 i4 i5 root data), 0)
  else (⟨#[]⟩, 1)
theorem vform_root {k i1 i2 i3 i4 i5 : Int} {root data : ByteArray} (h : VForm k i1 i2 i3 i4 i5 root data) : root.size ≤ 100 := by
  have e0 : E0.size = 0 := rfl
  rcases h with h | h | h | h | h | h | h | h | h
  all_goals first | (have : root = E0 := by simp only [h]); (rw [this]; omega) | omega
theorem vform_kind {k i1 i2 i3 i4 i5 : Int} {root data : ByteArray} (h : VForm k i1 i2 i3 i4 i5 root data) : 1 ≤ k ∧ k ≤ 20 := by
  rcases h with h | h | h | h | h | h | h | h | h
  · have := h.1; unfold isPlain at this; omega
  all_goals omega
set_option maxRecDepth 20000 in
set_option maxHeartbeats 4000000 in
theorem encode_r (k i1 i2 i3 i4 i5 : Int) (root data : ByteArray) (hd : data.size ≤ 5000) (w : World) : Calls Try.prog 19 #[.agg #[.int .i64 k, .int .i64 i1, .int .i64 i2, .int .i64 i3, .int .i64 i4, .int .i64 i5, .string root, .string data]] w fun e w' => e = .returned (.tuple #[.string (encS k i1 i2 i3 i4 i5 root data).1, .int .i64 (encS k i1 i2 i3 i4 i5 root data).2]) ∧ S w' [Old w no] := by
  have H0 := S.old w
  refine enter 26 Try.func19 rfl rfl rfl ?_
  refine g_weak [(0, .agg #[.int .i64 k, .int .i64 i1, .int .i64 i2, .int .i64 i3, .int .i64 i4, .int .i64 i5, .string root, .string data])] ⟨rfl, trivial⟩ ?_
  refine g_seq ?_
  refine g_region ?_
  refine l_of (s_box H0 (wt0 rfl) rfl rfl rfl rfl ?_)
  intro g1 wq2 (H3 : S wq2 [Ob g1 (.cells #[.int .i64 k, .int .i64 i1, .int .i64 i2, .int .i64 i3, .int .i64 i4, .int .i64 i5, .string root, .string data] 33 (0, 0)), Old w no])
  refine l_of (s_val (v := .string (⟨#[]⟩)) (wt0 rfl) rfl rfl (x_assign rfl rfl) ?_)
  refine l_of (s_val (v := .int .i64 0) (wt0 rfl) rfl rfl (x_assign rfl rfl) ?_)
  refine g_nil ?_
  refine g_then ?_
  refine g_seq ?_
  refine g_seq ?_
  refine g_region ?_
  refine l_of (s_val (v := .agg #[.int .i64 k, .int .i64 i1, .int .i64 i2, .int .i64 i3, .int .i64 i4, .int .i64 i5, .string root, .string data]) (wt0 rfl) rfl rfl (x_loadA H3 0 rfl rfl Try.underlying33 rfl sz33 rfl rfl rfl) ?_)
  refine l_of (s_call (wt0 rfl) (x_call' rfl rfl cl23) (valid_r ⟨k, i1, i2, i3, i4, i5, root, data⟩ _) ?_)
  rintro _ wq4 ⟨rfl, H5⟩
  replace H5 : S wq4 [Ob g1 (.cells #[.int .i64 k, .int .i64 i1, .int .i64 i2, .int .i64 i3, .int .i64 i4, .int .i64 i5, .string root, .string data] 33 (0, 0)), Old w no] := H3.absorb (new := []) (S.of_below H5)
  refine b_ret rfl rfl ?_
  refine l_of (s_val (v := .bool (!(validP ⟨k, i1, i2, i3, i4, i5, root, data⟩))) (wt0 rfl) rfl rfl (x_not (b := validP ⟨k, i1, i2, i3, i4, i5, root, data⟩) rfl rfl) ?_)
  refine g_nil ?_
  refine g_then ?_
  rcases Bool.eq_false_or_eq_true (validP ⟨k, i1, i2, i3, i4, i5, root, data⟩) with hb6 | hb6
  · skip
    have hf := (validP_form k i1 i2 i3 i4 i5 root data).1 hb6
    have hw := vform_words hf
    have hr := vform_root hf
    have hk := vform_kind hf
    clear hf
    refine g_cond_f rfl (neg_of hb6) ?_
    refine g_skip ?_
    refine g_then ?_
    refine g_seq ?_
    refine g_seq ?_
    refine g_region ?_
    refine l_of (s_val (v := .pointer (some ⟨g1, 0, none⟩)) (wt0 rfl) rfl rfl (x_fieldAddr rfl rfl fo33_0 rfl) ?_)
    refine l_of (s_val (v := .int .i64 k) (wt0 rfl) rfl rfl (x_load1 H5 0 rfl rfl Try.underlying3 rfl rfl rfl) ?_)
    refine l_of (s_val (v := .bool (decide ((k : Int) = 1))) (wt0 rfl) rfl rfl (x_bin rfl rfl rfl b_eql) ?_)
    refine g_nil ?_
    refine g_then ?_
    by_cases hb7 : (k : Int) = 1
    · skip
      refine g_cond_t rfl (decide_eq_true hb7) ?_
      refine g_seq ?_
      refine g_region ?_
      have : (⟨(be 4 0).toArray⟩ : ByteArray).size = 4 := rfl
      refine l_of (s_call (wt0 rfl) (x_call' rfl rfl cl47) (four_r _ (by omega) (by omega) _) ?_)
      rintro _ wq8 ⟨rfl, H9⟩
      replace H9 : S wq8 [Ob g1 (.cells #[.int .i64 k, .int .i64 i1, .int .i64 i2, .int .i64 i3, .int .i64 i4, .int .i64 i5, .string root, .string data] 33 (0, 0)), Old w no] := H5.absorb (new := []) (S.of_below H9)
      refine b_ret rfl rfl ?_
      refine l_of (s_val (v := .string ((⟨(be 4 0).toArray⟩ : ByteArray))) (wt0 rfl) rfl rfl (x_assign rfl rfl) ?_)
      refine l_of (s_val (v := .int .i64 0) (wt0 rfl) rfl rfl (x_assign rfl rfl) ?_)
      refine g_nil ?_
      refine g_then ?_
      refine g_ret ?_
      refine g_then_ret ?_
      refine fin_ret [.tmp 2, .tmp 3] [.string ((⟨(be 4 0).toArray⟩ : ByteArray)), .int .i64 0] rfl ⟨rfl, rfl, trivial⟩ ?_
      exact ⟨by simp only [encS, tupled, hb6, if_pos hb7, if_true, Bool.false_eq_true, if_false], H9.mask [false, true]⟩
    · skip
      have hnum := numR_le k hb7 hk
      refine g_cond_f rfl (decide_eq_false hb7) ?_
      refine g_skip ?_
      refine g_then ?_
      refine g_seq ?_
      refine g_any [] (fun wx => S wx [Ob g1 (.cells #[.int .i64 k, .int .i64 i1, .int .i64 i2, .int .i64 i3, .int .i64 i4, .int .i64 i5, .string root, .string data] 33 (0, 0))]) [] (by kernel_rfl) H5 (fun wq10 H11 => ?_)
      refine a_take (v := .pointer (some ⟨g1, 0, none⟩)) 0 rfl (wt0 rfl) rfl rfl rfl (by kernel_rfl) (by kernel_rfl) (by kernel_rfl) (by kernel_rfl) (H11.mask [true, false]) (fun wx H => x_fieldAddr rfl rfl fo33_0 rfl) ?_
      refine a_take (v := .int .i64 k) 1 rfl (wt0 rfl) rfl rfl rfl (by kernel_rfl) (by kernel_rfl) (by kernel_rfl) (by kernel_rfl) (H11.mask [true, false]) (fun wx H => x_load1 H 0 rfl rfl Try.underlying3 rfl rfl rfl) ?_
      refine a_take (v := .agg #[.int .i64 k, .int .i64 i1, .int .i64 i2, .int .i64 i3, .int .i64 i4, .int .i64 i5, .string root, .string data]) 6 rfl (wt0 rfl) rfl rfl rfl (by kernel_rfl) (by kernel_rfl) (by kernel_rfl) (by kernel_rfl) (H11.mask [true, false]) (fun wx H => x_loadA H 0 rfl rfl Try.underlying33 rfl sz33 rfl rfl rfl) ?_
      refine a_one (i := 2) (by kernel_rfl) rfl ?_
      refine s_call (wt0 rfl) (x_call' rfl rfl cl48) (number_r _ _) ?_
      rintro _ _ ⟨rfl, rfl⟩
      refine b_ret rfl rfl ?_
      refine a_k (H11.mask [true, false]) ?_
      refine a_take (v := .int .u8 (numR k)) 3 rfl (wt0 rfl) rfl rfl rfl (by kernel_rfl) (by kernel_rfl) (by kernel_rfl) (by kernel_rfl) (H11.mask [true, false]) (fun wx H => x_conv rfl rfl Try.underlying3 Try.underlying5 (wu8 (by omega))) ?_
      refine a_two (i := 4) (j := 7) (by kernel_rfl) rfl rfl ?_ ?_
      · skip
        refine s_buildSlice H11 (wt0 rfl) rfl rfl rfl (vs := [.int .u8 (numR k)]) rfl Try.underlying69 sz5 ze5 rfl rfl (cells := #[.int .u8 (numR k)]) (by kernel_rfl) ?_
        intro g14 wq15 (H16 : S wq15 [Ob g14 (.cells #[.int .u8 (numR k)] 5 (0, 0)), Ob g1 (.cells #[.int .i64 k, .int .i64 i1, .int .i64 i2, .int .i64 i3, .int .i64 i4, .int .i64 i5, .string root, .string data] 33 (0, 0)), Old w no])
        refine a_k (H16.mask [false, true, false]) ?_
        refine a_two (i := 5) (j := 7) (by kernel_rfl) rfl rfl ?_ ?_
        · skip
          have hz1 : (⟨[UInt8.ofNat (numR k).toNat].toArray⟩ : ByteArray).size = 1 := rfl
          refine s_val (v := .string ((⟨[UInt8.ofNat (numR k).toNat].toArray⟩ : ByteArray))) (wt0 rfl) rfl rfl (x_bytes (l := [UInt8.ofNat (numR k).toNat]) rfl rfl Try.underlying69 Try.underlying9 Try.underlying5 rfl (hc_ob (k := 0) H16 rfl (by rw [u8_cell _ (by omega)]; rfl))) ?_
          refine a_k (H16.mask [false, true, false]) ?_
          refine a_one (i := 7) (by kernel_rfl) rfl ?_
          have := bodyS_le k i1 i2 i3 i4 i5 root data hd hr
          refine s_call (wt0 rfl) (x_call' rfl rfl cl49) (body_r _ _ _ _ _ _ _ _ hw hd hr _) ?_
          rintro _ wq17 ⟨rfl, H18⟩
          replace H18 : S wq17 [Ob g14 (.cells #[.int .u8 (numR k)] 5 (0, 0)), Ob g1 (.cells #[.int .i64 k, .int .i64 i1, .int .i64 i2, .int .i64 i3, .int .i64 i4, .int .i64 i5, .string root, .string data] 33 (0, 0)), Old w no] := H16.absorb (new := []) H18
          refine b_ret rfl rfl ?_
          refine a_k (H18.mask [false, true, false]) ?_
          have hsz19 : ((⟨[UInt8.ofNat (numR k).toNat].toArray⟩ : ByteArray) ++ (bodyS k i1 i2 i3 i4 i5 root data)).size = (⟨[UInt8.ofNat (numR k).toNat].toArray⟩ : ByteArray).size + (bodyS k i1 i2 i3 i4 i5 root data).size := ByteArray.size_append
          refine a_take (v := .string ((⟨[UInt8.ofNat (numR k).toNat].toArray⟩ : ByteArray) ++ (bodyS k i1 i2 i3 i4 i5 root data))) 8 rfl (wt0 rfl) rfl rfl rfl (by kernel_rfl) (by kernel_rfl) (by kernel_rfl) (by kernel_rfl) (H18.mask [false, true, false]) (fun wx H => x_bin rfl rfl rfl (b_cat (by omega))) ?_
          refine a_take (v := .string ((⟨[UInt8.ofNat (numR k).toNat].toArray⟩ : ByteArray) ++ (bodyS k i1 i2 i3 i4 i5 root data))) 9 rfl (wt0 rfl) rfl rfl rfl (by kernel_rfl) (by kernel_rfl) (by kernel_rfl) (by kernel_rfl) (H18.mask [false, true, false]) (fun wx H => x_assign rfl rfl) ?_
          refine a_done (by kernel_rfl) ?_
          refine g_then ?_
          refine g_weak [(4, .string ((⟨[UInt8.ofNat (numR k).toNat].toArray⟩ : ByteArray) ++ (bodyS k i1 i2 i3 i4 i5 root data)))] ⟨rfl, trivial⟩ ?_
          refine g_seq ?_
          refine g_region ?_
          refine l_of (s_val (v := .string ((⟨[UInt8.ofNat (numR k).toNat].toArray⟩ : ByteArray) ++ (bodyS k i1 i2 i3 i4 i5 root data))) (wt0 rfl) rfl rfl (x_move rfl rfl) ?_)
          refine l_of (s_val (v := .int .i64 ((((⟨[UInt8.ofNat (numR k).toNat].toArray⟩ : ByteArray) ++ (bodyS k i1 i2 i3 i4 i5 root data)).size : Int))) (wt0 rfl) rfl rfl (x_lens rfl rfl Try.underlying9) ?_)
          have : (⟨(be 4 (((⟨[UInt8.ofNat (numR k).toNat].toArray⟩ : ByteArray) ++ (bodyS k i1 i2 i3 i4 i5 root data)).size : Int)).toArray⟩ : ByteArray).size = 4 := rfl
          refine l_of (s_call (wt0 rfl) (x_call' rfl rfl cl47) (four_r _ (by omega) (by omega) _) ?_)
          rintro _ wq20 ⟨rfl, H21⟩
          replace H21 : S wq20 [Ob g14 (.cells #[.int .u8 (numR k)] 5 (0, 0)), Ob g1 (.cells #[.int .i64 k, .int .i64 i1, .int .i64 i2, .int .i64 i3, .int .i64 i4, .int .i64 i5, .string root, .string data] 33 (0, 0)), Old w no] := H18.absorb (new := []) (S.of_below H21)
          refine b_ret rfl rfl ?_
          refine l_of (s_val (v := .string ((⟨[UInt8.ofNat (numR k).toNat].toArray⟩ : ByteArray) ++ (bodyS k i1 i2 i3 i4 i5 root data))) (wt0 rfl) rfl rfl (x_move rfl rfl) ?_)
          have hsz22 : ((⟨(be 4 (((⟨[UInt8.ofNat (numR k).toNat].toArray⟩ : ByteArray) ++ (bodyS k i1 i2 i3 i4 i5 root data)).size : Int)).toArray⟩ : ByteArray) ++ ((⟨[UInt8.ofNat (numR k).toNat].toArray⟩ : ByteArray) ++ (bodyS k i1 i2 i3 i4 i5 root data))).size = (⟨(be 4 (((⟨[UInt8.ofNat (numR k).toNat].toArray⟩ : ByteArray) ++ (bodyS k i1 i2 i3 i4 i5 root data)).size : Int)).toArray⟩ : ByteArray).size + ((⟨[UInt8.ofNat (numR k).toNat].toArray⟩ : ByteArray) ++ (bodyS k i1 i2 i3 i4 i5 root data)).size := ByteArray.size_append
          refine l_of (s_val (v := .string ((⟨(be 4 (((⟨[UInt8.ofNat (numR k).toNat].toArray⟩ : ByteArray) ++ (bodyS k i1 i2 i3 i4 i5 root data)).size : Int)).toArray⟩ : ByteArray) ++ ((⟨[UInt8.ofNat (numR k).toNat].toArray⟩ : ByteArray) ++ (bodyS k i1 i2 i3 i4 i5 root data)))) (wt0 rfl) rfl rfl (x_bin rfl rfl rfl (b_cat (by omega))) ?_)
          refine l_of (s_val (v := .string ((⟨(be 4 (((⟨[UInt8.ofNat (numR k).toNat].toArray⟩ : ByteArray) ++ (bodyS k i1 i2 i3 i4 i5 root data)).size : Int)).toArray⟩ : ByteArray) ++ ((⟨[UInt8.ofNat (numR k).toNat].toArray⟩ : ByteArray) ++ (bodyS k i1 i2 i3 i4 i5 root data)))) (wt0 rfl) rfl rfl (x_assign rfl rfl) ?_)
          refine l_of (s_val (v := .int .i64 0) (wt0 rfl) rfl rfl (x_assign rfl rfl) ?_)
          refine g_nil ?_
          refine g_then ?_
          refine g_ret ?_
          refine fin_ret [.tmp 2, .tmp 3] [.string ((⟨(be 4 (((⟨[UInt8.ofNat (numR k).toNat].toArray⟩ : ByteArray) ++ (bodyS k i1 i2 i3 i4 i5 root data)).size : Int)).toArray⟩ : ByteArray) ++ ((⟨[UInt8.ofNat (numR k).toNat].toArray⟩ : ByteArray) ++ (bodyS k i1 i2 i3 i4 i5 root data))), .int .i64 0] rfl ⟨rfl, rfl, trivial⟩ ?_
          exact ⟨by simp only [encS, tupled, hb6, if_neg hb7, if_true, Bool.false_eq_true, if_false], H21.mask [false, false, true]⟩
        · skip
          have := bodyS_le k i1 i2 i3 i4 i5 root data hd hr
          refine s_call (wt0 rfl) (x_call' rfl rfl cl49) (body_r _ _ _ _ _ _ _ _ hw hd hr _) ?_
          rintro _ wq23 ⟨rfl, H24⟩
          replace H24 : S wq23 [Ob g14 (.cells #[.int .u8 (numR k)] 5 (0, 0)), Ob g1 (.cells #[.int .i64 k, .int .i64 i1, .int .i64 i2, .int .i64 i3, .int .i64 i4, .int .i64 i5, .string root, .string data] 33 (0, 0)), Old w no] := H16.absorb (new := []) H24
          refine b_ret rfl rfl ?_
          refine a_k (H24.mask [false, true, false]) ?_
          refine a_one (i := 5) (by kernel_rfl) rfl ?_
          have hz1 : (⟨[UInt8.ofNat (numR k).toNat].toArray⟩ : ByteArray).size = 1 := rfl
          refine s_val (v := .string ((⟨[UInt8.ofNat (numR k).toNat].toArray⟩ : ByteArray))) (wt0 rfl) rfl rfl (x_bytes (l := [UInt8.ofNat (numR k).toNat]) rfl rfl Try.underlying69 Try.underlying9 Try.underlying5 rfl (hc_ob (k := 0) H24 rfl (by rw [u8_cell _ (by omega)]; rfl))) ?_
          refine a_k (H24.mask [false, true, false]) ?_
          have hsz25 : ((⟨[UInt8.ofNat (numR k).toNat].toArray⟩ : ByteArray) ++ (bodyS k i1 i2 i3 i4 i5 root data)).size = (⟨[UInt8.ofNat (numR k).toNat].toArray⟩ : ByteArray).size + (bodyS k i1 i2 i3 i4 i5 root data).size := ByteArray.size_append
          refine a_take (v := .string ((⟨[UInt8.ofNat (numR k).toNat].toArray⟩ : ByteArray) ++ (bodyS k i1 i2 i3 i4 i5 root data))) 8 rfl (wt0 rfl) rfl rfl rfl (by kernel_rfl) (by kernel_rfl) (by kernel_rfl) (by kernel_rfl) (H24.mask [false, true, false]) (fun wx H => x_bin rfl rfl rfl (b_cat (by omega))) ?_
          refine a_take (v := .string ((⟨[UInt8.ofNat (numR k).toNat].toArray⟩ : ByteArray) ++ (bodyS k i1 i2 i3 i4 i5 root data))) 9 rfl (wt0 rfl) rfl rfl rfl (by kernel_rfl) (by kernel_rfl) (by kernel_rfl) (by kernel_rfl) (H24.mask [false, true, false]) (fun wx H => x_assign rfl rfl) ?_
          refine a_done (by kernel_rfl) ?_
          refine g_then ?_
          refine g_weak [(4, .string ((⟨[UInt8.ofNat (numR k).toNat].toArray⟩ : ByteArray) ++ (bodyS k i1 i2 i3 i4 i5 root data)))] ⟨rfl, trivial⟩ ?_
          refine g_seq ?_
          refine g_region ?_
          refine l_of (s_val (v := .string ((⟨[UInt8.ofNat (numR k).toNat].toArray⟩ : ByteArray) ++ (bodyS k i1 i2 i3 i4 i5 root data))) (wt0 rfl) rfl rfl (x_move rfl rfl) ?_)
          refine l_of (s_val (v := .int .i64 ((((⟨[UInt8.ofNat (numR k).toNat].toArray⟩ : ByteArray) ++ (bodyS k i1 i2 i3 i4 i5 root data)).size : Int))) (wt0 rfl) rfl rfl (x_lens rfl rfl Try.underlying9) ?_)
          have : (⟨(be 4 (((⟨[UInt8.ofNat (numR k).toNat].toArray⟩ : ByteArray) ++ (bodyS k i1 i2 i3 i4 i5 root data)).size : Int)).toArray⟩ : ByteArray).size = 4 := rfl
          refine l_of (s_call (wt0 rfl) (x_call' rfl rfl cl47) (four_r _ (by omega) (by omega) _) ?_)
          rintro _ wq26 ⟨rfl, H27⟩
          replace H27 : S wq26 [Ob g14 (.cells #[.int .u8 (numR k)] 5 (0, 0)), Ob g1 (.cells #[.int .i64 k, .int .i64 i1, .int .i64 i2, .int .i64 i3, .int .i64 i4, .int .i64 i5, .string root, .string data] 33 (0, 0)), Old w no] := H24.absorb (new := []) (S.of_below H27)
          refine b_ret rfl rfl ?_
          refine l_of (s_val (v := .string ((⟨[UInt8.ofNat (numR k).toNat].toArray⟩ : ByteArray) ++ (bodyS k i1 i2 i3 i4 i5 root data))) (wt0 rfl) rfl rfl (x_move rfl rfl) ?_)
          have hsz28 : ((⟨(be 4 (((⟨[UInt8.ofNat (numR k).toNat].toArray⟩ : ByteArray) ++ (bodyS k i1 i2 i3 i4 i5 root data)).size : Int)).toArray⟩ : ByteArray) ++ ((⟨[UInt8.ofNat (numR k).toNat].toArray⟩ : ByteArray) ++ (bodyS k i1 i2 i3 i4 i5 root data))).size = (⟨(be 4 (((⟨[UInt8.ofNat (numR k).toNat].toArray⟩ : ByteArray) ++ (bodyS k i1 i2 i3 i4 i5 root data)).size : Int)).toArray⟩ : ByteArray).size + ((⟨[UInt8.ofNat (numR k).toNat].toArray⟩ : ByteArray) ++ (bodyS k i1 i2 i3 i4 i5 root data)).size := ByteArray.size_append
          refine l_of (s_val (v := .string ((⟨(be 4 (((⟨[UInt8.ofNat (numR k).toNat].toArray⟩ : ByteArray) ++ (bodyS k i1 i2 i3 i4 i5 root data)).size : Int)).toArray⟩ : ByteArray) ++ ((⟨[UInt8.ofNat (numR k).toNat].toArray⟩ : ByteArray) ++ (bodyS k i1 i2 i3 i4 i5 root data)))) (wt0 rfl) rfl rfl (x_bin rfl rfl rfl (b_cat (by omega))) ?_)
          refine l_of (s_val (v := .string ((⟨(be 4 (((⟨[UInt8.ofNat (numR k).toNat].toArray⟩ : ByteArray) ++ (bodyS k i1 i2 i3 i4 i5 root data)).size : Int)).toArray⟩ : ByteArray) ++ ((⟨[UInt8.ofNat (numR k).toNat].toArray⟩ : ByteArray) ++ (bodyS k i1 i2 i3 i4 i5 root data)))) (wt0 rfl) rfl rfl (x_assign rfl rfl) ?_)
          refine l_of (s_val (v := .int .i64 0) (wt0 rfl) rfl rfl (x_assign rfl rfl) ?_)
          refine g_nil ?_
          refine g_then ?_
          refine g_ret ?_
          refine fin_ret [.tmp 2, .tmp 3] [.string ((⟨(be 4 (((⟨[UInt8.ofNat (numR k).toNat].toArray⟩ : ByteArray) ++ (bodyS k i1 i2 i3 i4 i5 root data)).size : Int)).toArray⟩ : ByteArray) ++ ((⟨[UInt8.ofNat (numR k).toNat].toArray⟩ : ByteArray) ++ (bodyS k i1 i2 i3 i4 i5 root data))), .int .i64 0] rfl ⟨rfl, rfl, trivial⟩ ?_
          exact ⟨by simp only [encS, tupled, hb6, if_neg hb7, if_true, Bool.false_eq_true, if_false], H27.mask [false, false, true]⟩
      · skip
        have := bodyS_le k i1 i2 i3 i4 i5 root data hd hr
        refine s_call (wt0 rfl) (x_call' rfl rfl cl49) (body_r _ _ _ _ _ _ _ _ hw hd hr _) ?_
        rintro _ wq29 ⟨rfl, H30⟩
        replace H30 : S wq29 [Ob g1 (.cells #[.int .i64 k, .int .i64 i1, .int .i64 i2, .int .i64 i3, .int .i64 i4, .int .i64 i5, .string root, .string data] 33 (0, 0)), Old w no] := H11.absorb (new := []) H30
        refine b_ret rfl rfl ?_
        refine a_k (H30.mask [true, false]) ?_
        refine a_one (i := 4) (by kernel_rfl) rfl ?_
        refine s_buildSlice H30 (wt0 rfl) rfl rfl rfl (vs := [.int .u8 (numR k)]) rfl Try.underlying69 sz5 ze5 rfl rfl (cells := #[.int .u8 (numR k)]) (by kernel_rfl) ?_
        intro g31 wq32 (H33 : S wq32 [Ob g31 (.cells #[.int .u8 (numR k)] 5 (0, 0)), Ob g1 (.cells #[.int .i64 k, .int .i64 i1, .int .i64 i2, .int .i64 i3, .int .i64 i4, .int .i64 i5, .string root, .string data] 33 (0, 0)), Old w no])
        refine a_k (H33.mask [false, true, false]) ?_
        refine a_one (i := 5) (by kernel_rfl) rfl ?_
        have hz1 : (⟨[UInt8.ofNat (numR k).toNat].toArray⟩ : ByteArray).size = 1 := rfl
        refine s_val (v := .string ((⟨[UInt8.ofNat (numR k).toNat].toArray⟩ : ByteArray))) (wt0 rfl) rfl rfl (x_bytes (l := [UInt8.ofNat (numR k).toNat]) rfl rfl Try.underlying69 Try.underlying9 Try.underlying5 rfl (hc_ob (k := 0) H33 rfl (by rw [u8_cell _ (by omega)]; rfl))) ?_
        refine a_k (H33.mask [false, true, false]) ?_
        have hsz34 : ((⟨[UInt8.ofNat (numR k).toNat].toArray⟩ : ByteArray) ++ (bodyS k i1 i2 i3 i4 i5 root data)).size = (⟨[UInt8.ofNat (numR k).toNat].toArray⟩ : ByteArray).size + (bodyS k i1 i2 i3 i4 i5 root data).size := ByteArray.size_append
        refine a_take (v := .string ((⟨[UInt8.ofNat (numR k).toNat].toArray⟩ : ByteArray) ++ (bodyS k i1 i2 i3 i4 i5 root data))) 8 rfl (wt0 rfl) rfl rfl rfl (by kernel_rfl) (by kernel_rfl) (by kernel_rfl) (by kernel_rfl) (H33.mask [false, true, false]) (fun wx H => x_bin rfl rfl rfl (b_cat (by omega))) ?_
        refine a_take (v := .string ((⟨[UInt8.ofNat (numR k).toNat].toArray⟩ : ByteArray) ++ (bodyS k i1 i2 i3 i4 i5 root data))) 9 rfl (wt0 rfl) rfl rfl rfl (by kernel_rfl) (by kernel_rfl) (by kernel_rfl) (by kernel_rfl) (H33.mask [false, true, false]) (fun wx H => x_assign rfl rfl) ?_
        refine a_done (by kernel_rfl) ?_
        refine g_then ?_
        refine g_weak [(4, .string ((⟨[UInt8.ofNat (numR k).toNat].toArray⟩ : ByteArray) ++ (bodyS k i1 i2 i3 i4 i5 root data)))] ⟨rfl, trivial⟩ ?_
        refine g_seq ?_
        refine g_region ?_
        refine l_of (s_val (v := .string ((⟨[UInt8.ofNat (numR k).toNat].toArray⟩ : ByteArray) ++ (bodyS k i1 i2 i3 i4 i5 root data))) (wt0 rfl) rfl rfl (x_move rfl rfl) ?_)
        refine l_of (s_val (v := .int .i64 ((((⟨[UInt8.ofNat (numR k).toNat].toArray⟩ : ByteArray) ++ (bodyS k i1 i2 i3 i4 i5 root data)).size : Int))) (wt0 rfl) rfl rfl (x_lens rfl rfl Try.underlying9) ?_)
        have : (⟨(be 4 (((⟨[UInt8.ofNat (numR k).toNat].toArray⟩ : ByteArray) ++ (bodyS k i1 i2 i3 i4 i5 root data)).size : Int)).toArray⟩ : ByteArray).size = 4 := rfl
        refine l_of (s_call (wt0 rfl) (x_call' rfl rfl cl47) (four_r _ (by omega) (by omega) _) ?_)
        rintro _ wq35 ⟨rfl, H36⟩
        replace H36 : S wq35 [Ob g31 (.cells #[.int .u8 (numR k)] 5 (0, 0)), Ob g1 (.cells #[.int .i64 k, .int .i64 i1, .int .i64 i2, .int .i64 i3, .int .i64 i4, .int .i64 i5, .string root, .string data] 33 (0, 0)), Old w no] := H33.absorb (new := []) (S.of_below H36)
        refine b_ret rfl rfl ?_
        refine l_of (s_val (v := .string ((⟨[UInt8.ofNat (numR k).toNat].toArray⟩ : ByteArray) ++ (bodyS k i1 i2 i3 i4 i5 root data))) (wt0 rfl) rfl rfl (x_move rfl rfl) ?_)
        have hsz37 : ((⟨(be 4 (((⟨[UInt8.ofNat (numR k).toNat].toArray⟩ : ByteArray) ++ (bodyS k i1 i2 i3 i4 i5 root data)).size : Int)).toArray⟩ : ByteArray) ++ ((⟨[UInt8.ofNat (numR k).toNat].toArray⟩ : ByteArray) ++ (bodyS k i1 i2 i3 i4 i5 root data))).size = (⟨(be 4 (((⟨[UInt8.ofNat (numR k).toNat].toArray⟩ : ByteArray) ++ (bodyS k i1 i2 i3 i4 i5 root data)).size : Int)).toArray⟩ : ByteArray).size + ((⟨[UInt8.ofNat (numR k).toNat].toArray⟩ : ByteArray) ++ (bodyS k i1 i2 i3 i4 i5 root data)).size := ByteArray.size_append
        refine l_of (s_val (v := .string ((⟨(be 4 (((⟨[UInt8.ofNat (numR k).toNat].toArray⟩ : ByteArray) ++ (bodyS k i1 i2 i3 i4 i5 root data)).size : Int)).toArray⟩ : ByteArray) ++ ((⟨[UInt8.ofNat (numR k).toNat].toArray⟩ : ByteArray) ++ (bodyS k i1 i2 i3 i4 i5 root data)))) (wt0 rfl) rfl rfl (x_bin rfl rfl rfl (b_cat (by omega))) ?_)
        refine l_of (s_val (v := .string ((⟨(be 4 (((⟨[UInt8.ofNat (numR k).toNat].toArray⟩ : ByteArray) ++ (bodyS k i1 i2 i3 i4 i5 root data)).size : Int)).toArray⟩ : ByteArray) ++ ((⟨[UInt8.ofNat (numR k).toNat].toArray⟩ : ByteArray) ++ (bodyS k i1 i2 i3 i4 i5 root data)))) (wt0 rfl) rfl rfl (x_assign rfl rfl) ?_)
        refine l_of (s_val (v := .int .i64 0) (wt0 rfl) rfl rfl (x_assign rfl rfl) ?_)
        refine g_nil ?_
        refine g_then ?_
        refine g_ret ?_
        refine fin_ret [.tmp 2, .tmp 3] [.string ((⟨(be 4 (((⟨[UInt8.ofNat (numR k).toNat].toArray⟩ : ByteArray) ++ (bodyS k i1 i2 i3 i4 i5 root data)).size : Int)).toArray⟩ : ByteArray) ++ ((⟨[UInt8.ofNat (numR k).toNat].toArray⟩ : ByteArray) ++ (bodyS k i1 i2 i3 i4 i5 root data))), .int .i64 0] rfl ⟨rfl, rfl, trivial⟩ ?_
        exact ⟨by simp only [encS, tupled, hb6, if_neg hb7, if_true, Bool.false_eq_true, if_false], H36.mask [false, false, true]⟩
  · skip
    refine g_cond_t rfl (neg_of hb6) ?_
    refine g_seq ?_
    refine g_region ?_
    refine l_of (s_val (v := .string (⟨#[]⟩)) (wt0 rfl) rfl rfl (x_assign rfl rfl) ?_)
    refine l_of (s_val (v := .int .i64 1) (wt0 rfl) rfl rfl (x_assign rfl rfl) ?_)
    refine g_nil ?_
    refine g_then ?_
    refine g_ret ?_
    refine g_then_ret ?_
    refine fin_ret [.tmp 2, .tmp 3] [.string (⟨#[]⟩), .int .i64 1] rfl ⟨rfl, rfl, trivial⟩ ?_
    exact ⟨by simp only [encS, tupled, hb6, if_true, Bool.false_eq_true, if_false], H5.mask [false, true]⟩
end Go.Proofs.Ytcjmdkklbbollaa
