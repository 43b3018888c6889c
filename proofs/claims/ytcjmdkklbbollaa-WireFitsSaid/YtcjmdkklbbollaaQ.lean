import Derived.Test.YtcjmdkklbbollaaP
set_option linter.unusedSimpArgs false
set_option linter.unusedVariables false
namespace Go.Proofs.Ytcjmdkklbbollaa
open Go.RowKit

def wordR (n : Int) : Bool := decide (0 ≤ n) && decide (n ≤ 4294967295)
theorem word_r (n : Int) (w : World) : Calls Try.prog 62 #[.int .i64 n] w fun e w' => e = .returned (.bool (wordR n)) ∧ w = w' := by
  by_cases h1 : 0 ≤ n
  · by_cases h2 : n ≤ 4294967295
    · go_enter Try.func62, Try.ntmps62
      go_wp2_with fail
      go_ret
      exact ⟨by simp [wordR]; omega, rfl⟩
    · go_enter Try.func62, Try.ntmps62
      go_wp2_with fail
      go_ret
      exact ⟨by simp [wordR]; omega, rfl⟩
  · go_enter Try.func62, Try.ntmps62
    go_wp2_with fail
    go_ret
    exact ⟨by simp [wordR]; omega, rfl⟩

/-- One of three numbers. -/
def one3 (a b c k : Int) : Bool := k == a || (k == b || k == c)
def isIdx := one3 6 12 16
def isBlock := one3 8 10 15
def isHash := one3 18 19 20
theorem one3_cases (a b c k : Int) : (k == a) = true ∧ one3 a b c k = true ∨ ((k == a) = false ∧ ((k == b) = true ∧ one3 a b c k = true ∨ (k == b) = false ∧ ((k == c) = true ∧ one3 a b c k = true ∨ (k == c) = false ∧ one3 a b c k = false))) := by
  unfold one3
  cases k == a <;> cases k == b <;> cases k == c <;> simp
set_option maxRecDepth 20000 in
theorem indexed_r (k : Int) (w : World) : Calls Try.prog 63 #[.int .i64 k] w fun e w' => e = .returned (.bool (isIdx k)) ∧ w = w' := by
  rcases one3_cases 6 12 16 k with ⟨h1, h⟩ | ⟨h1, ⟨h2, h⟩ | ⟨h2, ⟨h3, h⟩ | ⟨h3, h⟩⟩⟩ <;>
  · have H := Lib.hid h; clear h
    go_enter Try.func63, Try.ntmps63
    go_wp2_with fail
    go_ret
    exact ⟨by rw [isIdx, H.out]; rfl, rfl⟩
set_option maxRecDepth 20000 in
theorem block_r (k : Int) (w : World) : Calls Try.prog 64 #[.int .i64 k] w fun e w' => e = .returned (.bool (isBlock k)) ∧ w = w' := by
  rcases one3_cases 8 10 15 k with ⟨h1, h⟩ | ⟨h1, ⟨h2, h⟩ | ⟨h2, ⟨h3, h⟩ | ⟨h3, h⟩⟩⟩ <;>
  · have H := Lib.hid h; clear h
    go_enter Try.func64, Try.ntmps64
    go_wp2_with fail
    go_ret
    exact ⟨by rw [isBlock, H.out]; rfl, rfl⟩
set_option maxRecDepth 20000 in
theorem hashed_r (k : Int) (w : World) : Calls Try.prog 65 #[.int .i64 k] w fun e w' => e = .returned (.bool (isHash k)) ∧ w = w' := by
  rcases one3_cases 18 19 20 k with ⟨h1, h⟩ | ⟨h1, ⟨h2, h⟩ | ⟨h2, ⟨h3, h⟩ | ⟨h3, h⟩⟩⟩ <;>
  · have H := Lib.hid h; clear h
    go_enter Try.func65, Try.ntmps65
    go_wp2_with fail
    go_ret
    exact ⟨by rw [isHash, H.out]; rfl, rfl⟩

def numR (k : Int) : Int := if 2 ≤ k ∧ k ≤ 20 then numb k.toNat else -1
set_option maxRecDepth 20000 in
set_option maxHeartbeats 2000000 in
theorem number_r (k : Int) (w : World) : Calls Try.prog 48 #[.int .i64 k] w fun e w' => e = .returned (.int .i64 (numR k)) ∧ w = w' := by
  by_cases hk : 2 ≤ k ∧ k ≤ 20
  · rcases (by omega : k = 2 ∨ k = 3 ∨ k = 4 ∨ k = 5 ∨ k = 6 ∨ k = 7 ∨ k = 8 ∨ k = 9 ∨ k = 10 ∨ k = 11 ∨ k = 12 ∨ k = 13 ∨ k = 14 ∨ k = 15 ∨ k = 16 ∨ k = 17 ∨ k = 18 ∨ k = 19 ∨ k = 20) with rfl | rfl | rfl | rfl | rfl | rfl | rfl | rfl | rfl | rfl | rfl | rfl | rfl | rfl | rfl | rfl | rfl | rfl | rfl <;>
    · go_enter Try.func48, Try.ntmps48
      go_wp2_with fail
      go_ret
      exact ⟨rfl, rfl⟩
  · have e : numR k = -1 := by simp [numR]; omega
    have hne : ∀ j : Int, 2 ≤ j → j ≤ 20 → (k == j) = false := fun j h1 h2 => by simp; omega
    have h2 := hne 2 (by decide) (by decide)
    have h3 := hne 3 (by decide) (by decide)
    have h4 := hne 4 (by decide) (by decide)
    have h5 := hne 5 (by decide) (by decide)
    have h6 := hne 6 (by decide) (by decide)
    have h7 := hne 7 (by decide) (by decide)
    have h8 := hne 8 (by decide) (by decide)
    have h9 := hne 9 (by decide) (by decide)
    have h10 := hne 10 (by decide) (by decide)
    have h11 := hne 11 (by decide) (by decide)
    have h12 := hne 12 (by decide) (by decide)
    have h13 := hne 13 (by decide) (by decide)
    have h14 := hne 14 (by decide) (by decide)
    have h15 := hne 15 (by decide) (by decide)
    have h16 := hne 16 (by decide) (by decide)
    have h17 := hne 17 (by decide) (by decide)
    have h18 := hne 18 (by decide) (by decide)
    have h19 := hne 19 (by decide) (by decide)
    have h20 := hne 20 (by decide) (by decide)
    have E := Lib.hid e; clear e hne hk
    go_enter Try.func48, Try.ntmps48
    go_wp2_with fail
    go_ret
    exact ⟨by rw [E.out]; rfl, rfl⟩
end Go.Proofs.Ytcjmdkklbbollaa
