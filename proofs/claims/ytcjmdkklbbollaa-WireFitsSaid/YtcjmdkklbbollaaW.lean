import Derived.Test.YtcjmdkklbbollaaV
set_option linter.unusedSimpArgs false
set_option linter.unusedVariables false
namespace Go.Proofs.Ytcjmdkklbbollaa
open Go.RowKit

theorem numR_in {k : Nat} (h1 : 1 < k) (h2 : k ≤ 20) : numR (k : Int) = numb k := by
  unfold numR
  rw [if_pos (by omega)]; rfl
set_option maxRecDepth 20000 in
set_option maxHeartbeats 1000000 in
theorem kindOf_r (n : Int) (w : World) : Calls Try.prog 58 #[.int .i64 n] w fun e w' => e = .returned (.int .i64 (kindP n)) ∧ Sub w w' := by
  go_enter Try.func58, Try.ntmps58
  go_wp2_with fail
  go_loopw [3] (fun i wr => ∃ k : Nat, 2 ≤ k ∧ k ≤ 21 ∧ i = .int .i64 k ∧ NoKind n k ∧ Sub w wr) (fun i _ => 21 - (intOf i).toNat)
  case atStart => exact ⟨2, by omega, by omega, rfl, fun j h1 h2 => by omega, Sub.rfl'⟩
  case round =>
    obtain ⟨k, hk0, hk, rfl, hno, hsub⟩ := hrel
    by_cases hlt : k < 21
    · have hnr := numR_in (k := k) (by omega) (by omega)
      by_cases h2 : numb k = n
      · have h2' : (numR k == n) = true := by rw [hnr]; simp [h2]
        have H2 := Lib.hid h2; clear h2 hnr
        go_wp2_with ((with_reducible refine (number_r _ _).mono ?_); rintro e w' ⟨rfl, rfl⟩)
        go_ret
        exact ⟨by rw [kindP_hit hno (by omega) hlt H2.out]; rfl, hsub⟩
      · have h2' : (numR k == n) = false := by rw [hnr]; simpa using h2
        have H2 := Lib.hid h2; clear h2 hnr
        go_wp2_with ((with_reducible refine (number_r _ _).mono ?_); rintro e w' ⟨rfl, rfl⟩)
        go_roundw
        case rel => exact ⟨k + 1, by omega, by omega, by go_num, hno.step fun _ => H2.out, hsub⟩
        case measure => simp [intOf]; omega
    · obtain rfl : k = 21 := by omega
      have hz := kindP_none hno
      have Hz := Lib.hid hz; clear hz
      go_wp2_with fail
      go_ret
      exact ⟨by rw [Hz.out]; rfl, hsub⟩
end Go.Proofs.Ytcjmdkklbbollaa
