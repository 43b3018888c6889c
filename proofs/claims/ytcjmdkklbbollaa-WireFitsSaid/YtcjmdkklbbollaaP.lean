import Derived.Test.YtcjmdkklbbollaaO
set_option linter.unusedSimpArgs false
set_option linter.unusedVariables false
namespace Go.Proofs.Ytcjmdkklbbollaa
open Go.RowKit

theorem be8 (n : Int) : be 8 n = [beByte n 7, beByte n 6, beByte n 5, beByte n 4, beByte n 3, beByte n 2, beByte n 1, beByte n 0] := rfl
theorem beByte_div (n : Int) (h : 0 ≤ n) : ((beByte n 0).toNat : Int) = n % 256 ∧ ((beByte n 1).toNat : Int) = n / 256 % 256 ∧ ((beByte n 2).toNat : Int) = n / 256 / 256 % 256 ∧ ((beByte n 3).toNat : Int) = n / 256 / 256 / 256 % 256 ∧
    ((beByte n 4).toNat : Int) = n / 256 / 256 / 256 / 256 % 256 ∧ ((beByte n 5).toNat : Int) = n / 256 / 256 / 256 / 256 / 256 % 256 ∧ ((beByte n 6).toNat : Int) = n / 256 / 256 / 256 / 256 / 256 / 256 % 256 ∧ ((beByte n 7).toNat : Int) = n / 256 / 256 / 256 / 256 / 256 / 256 / 256 % 256 := by
  refine ⟨?_, ?_, ?_, ?_, ?_, ?_, ?_, ?_⟩ <;> rw [beByte_int h] <;> simp only [Nat.mul_zero, Nat.mul_one, Nat.reduceMul, Int.reducePow, Int.pow_zero] <;> omega

set_option maxRecDepth 20000 in
set_option maxHeartbeats 1000000 in
theorem eight_r (n : Int) (h0 : 0 ≤ n) (h1 : n ≤ 4294967295) (w : World) : Calls Try.prog 96 #[.int .u64 n] w fun e w' => e = .returned (.string ⟨(be 8 n).toArray⟩) ∧ Sub w w' := by
  have hmk := make8
  have hcv : (convert 69 9 (.slice (some ⟨w.heap.size, 0, none⟩) 8 8)).run Try.prog (w.alloc (.cells #[.int .u8 (n / 256 / 256 / 256 / 256 / 256 / 256 / 256 % 256), .int .u8 (n / 256 / 256 / 256 / 256 / 256 / 256 % 256), .int .u8 (n / 256 / 256 / 256 / 256 / 256 % 256), .int .u8 (n / 256 / 256 / 256 / 256 % 256), .int .u8 (n / 256 / 256 / 256 % 256), .int .u8 (n / 256 / 256 % 256), .int .u8 (n / 256 % 256), .int .u8 (n % 256)] 5)) =
      .ok (.string ⟨(be 8 n).toArray⟩) (w.alloc (.cells #[.int .u8 (n / 256 / 256 / 256 / 256 / 256 / 256 / 256 % 256), .int .u8 (n / 256 / 256 / 256 / 256 / 256 / 256 % 256), .int .u8 (n / 256 / 256 / 256 / 256 / 256 % 256), .int .u8 (n / 256 / 256 / 256 / 256 % 256), .int .u8 (n / 256 / 256 / 256 % 256), .int .u8 (n / 256 / 256 % 256), .int .u8 (n / 256 % 256), .int .u8 (n % 256)] 5)) := by
    obtain ⟨d0, d1, d2, d3, d4, d5, d6, d7⟩ := beByte_div n h0
    refine run_convert_bytes_back _ 69 9 5 ⟨w.heap.size, 0, none⟩ 8 (be 8 n) Try.underlying69 Try.underlying5 Try.underlying9 fun j hj => ?_
    rw [add_lit, Nat.zero_add, (Blk.new w 5 _).cell]
    simp only [be8, List.length_cons, List.length_nil] at hj
    rcases (by omega : j = 0 ∨ j = 1 ∨ j = 2 ∨ j = 3 ∨ j = 4 ∨ j = 5 ∨ j = 6 ∨ j = 7) with rfl | rfl | rfl | rfl | rfl | rfl | rfl | rfl <;> simp [be8, d0, d1, d2, d3, d4, d5, d6, d7]
  have Hcv := Lib.hid hcv; clear hcv
  go_enter Try.func96, Try.ntmps96
  go_wp2_with fail
  refine wp_loop_rounds 9 ?_
  iterate 9 (rw [rounds_succ]; go_wp2_with fail)
  rw [Hcv.out]
  go_wp2_with fail
  go_ret
  exact ⟨rfl, Sub.al Sub.rfl' _⟩

theorem be_drop (n : Int) : (be 8 n).drop 4 = be 4 n := rfl

set_option maxRecDepth 20000 in
theorem bytes_r (n : Int) (h0 : 0 ≤ n) (h1 : n ≤ 4294967295) (w : World) : Calls Try.prog 84 #[.int .i64 n] w fun e w' => e = .returned (.string ⟨(be 8 n).toArray⟩) ∧ Sub w w' := by
  go_enter Try.func84, Try.ntmps84
  go_wp2_with fail
  refine (eight_r n h0 h1 _).mono ?_; rintro e w1 ⟨rfl, hb1⟩
  go_wp2_with fail
  go_ret
  exact ⟨rfl, hb1⟩

set_option maxRecDepth 20000 in
theorem four_r (n : Int) (h0 : 0 ≤ n) (h1 : n ≤ 4294967295) (w : World) : Calls Try.prog 47 #[.int .i64 n] w fun e w' => e = .returned (.string ⟨(be 4 n).toArray⟩) ∧ Sub w w' := by
  have hsz : (⟨(be 8 n).toArray⟩ : ByteArray).size = 8 := rfl
  have hex : (⟨(be 8 n).toArray⟩ : ByteArray).extract 4 8 = ⟨(be 4 n).toArray⟩ := by
    apply ByteArray.ext
    rw [← Array.toList_inj, extract_list]
    rfl
  have Hex := Lib.hid hex; clear hex
  go_enter Try.func47, Try.ntmps47
  go_wp2_with fail
  refine (bytes_r n h0 h1 _).mono ?_; rintro e w1 ⟨rfl, hb1⟩
  generalize hX : (⟨(be 8 n).toArray⟩ : ByteArray) = X at *
  have HX := Lib.hid hX; clear hX
  have h48 : (4 : Int) ≤ X.size := by omega
  go_wp2_with fail
  go_ret
  exact ⟨by rw [← Hex.out]; simp [hsz], hb1⟩
end Go.Proofs.Ytcjmdkklbbollaa
