import Derived.Test.YtcjmdkklbbollaaC
import Derived.Lib.Hide
set_option linter.unusedSimpArgs false
set_option linter.unusedVariables false
namespace Go.Proofs.Ytcjmdkklbbollaa
open Go.RowKit

theorem acc_p (k off : Nat) (h : (k = 76 ∧ off = 1) ∨ (k = 77 ∧ off = 2) ∨ (k = 78 ∧ off = 3) ∨ (k = 80 ∧ off = 4) ∨ (k = 81 ∧ off = 5) ∨ (k = 79 ∧ off = 6) ∨ (k = 95 ∧ off = 7)) (g : Nat) (w : World) :
    Calls Try.prog k #[.pointer (some ⟨g, 0, none⟩)] w fun e w' => e = .returned (.pointer (some ⟨g, off, none⟩)) ∧ w = w' := by
  rcases h with ⟨rfl, rfl⟩ | ⟨rfl, rfl⟩ | ⟨rfl, rfl⟩ | ⟨rfl, rfl⟩ | ⟨rfl, rfl⟩ | ⟨rfl, rfl⟩ | ⟨rfl, rfl⟩
  · go_enter Try.func76, Try.ntmps76
    go_wp2; go_ret; exact ⟨rfl, rfl⟩
  · go_enter Try.func77, Try.ntmps77
    go_wp2; go_ret; exact ⟨rfl, rfl⟩
  · go_enter Try.func78, Try.ntmps78
    go_wp2; go_ret; exact ⟨rfl, rfl⟩
  · go_enter Try.func80, Try.ntmps80
    go_wp2; go_ret; exact ⟨rfl, rfl⟩
  · go_enter Try.func81, Try.ntmps81
    go_wp2; go_ret; exact ⟨rfl, rfl⟩
  · go_enter Try.func79, Try.ntmps79
    go_wp2; go_ret; exact ⟨rfl, rfl⟩
  · go_enter Try.func95, Try.ntmps95
    go_wp2; go_ret; exact ⟨rfl, rfl⟩

abbrev AccOf (k off : Nat) : Prop := (k = 76 ∧ off = 1) ∨ (k = 77 ∧ off = 2) ∨ (k = 78 ∧ off = 3) ∨ (k = 80 ∧ off = 4) ∨ (k = 81 ∧ off = 5) ∨ (k = 79 ∧ off = 6) ∨ (k = 95 ∧ off = 7)
theorem acc_enters (k off : Nat) (h : AccOf k off) (v : Value) (w : World) : (callFunc k #[v]).run Try.prog w = .ok (.enter k #[v]) w := by
  rcases h with ⟨rfl, rfl⟩ | ⟨rfl, rfl⟩ | ⟨rfl, rfl⟩ | ⟨rfl, rfl⟩ | ⟨rfl, rfl⟩ | ⟨rfl, rfl⟩ | ⟨rfl, rfl⟩ <;> kernel_rfl

/-- the test of a number -/
def okNum (a b n : Int) : Bool := decide (a ≤ n) && decide (n ≤ b)
/-- the test of a text -/
def okText (a b c : Int) (n : Nat) : Bool := decide (a ≤ (n : Int)) && decide ((n : Int) ≤ b) && decide ((n : Int) % c = 0)

theorem fn_ne (t : TypeId) (ht : t = 76 ∨ t = 77) (k : Nat) (w : World) : (binOp .neq t (.func (.func k) #[] #[]) .nilFunc).run Try.prog w = .ok (.bool true) w := by
  rcases ht with rfl | rfl <;> kernel_rfl
theorem fn_eq (t : TypeId) (ht : t = 76 ∨ t = 77) (k : Nat) (w : World) : (binOp .eql t (.func (.func k) #[] #[]) .nilFunc).run Try.prog w = .ok (.bool false) w := by
  rcases ht with rfl | rfl <;> kernel_rfl
theorem nil_ne (w : World) : (binOp .neq 76 .nilFunc .nilFunc).run Try.prog w = .ok (.bool false) w := by kernel_rfl
theorem nil_eq (w : World) : (binOp .eql 76 .nilFunc .nilFunc).run Try.prog w = .ok (.bool true) w := by kernel_rfl

set_option maxRecDepth 20000 in
theorem right_num (k off : Nat) (H : AccOf k off) (sz a b c n : Int) (g : Nat) (w : World) (hc : w.cell? ⟨g, off, none⟩ = some (.int .i64 n)) (hg : g < w.heap.size) :
    Calls Try.prog 56 #[.agg #[.int .i64 sz, .func (.func k) #[] #[], .nilFunc, .int .i64 a, .int .i64 b, .int .i64 c], .pointer (some ⟨g, 0, none⟩)] w fun e w' => e = .returned (.bool (okNum a b n)) ∧ Sub w w' := by
  have hen := acc_enters k off H
  have Hh := Lib.hid (acc_p k off H)
  have H := Lib.hid H
  have hf := fn_ne 76 (by decide)
  by_cases h1 : a ≤ n <;> by_cases h2 : n ≤ b <;>
  · go_enter Try.func56, Try.ntmps56
    go_wp2_with ((with_reducible refine (Hh.out _ _).mono ?_); rintro e w' ⟨rfl, rfl⟩)
    go_ret
    exact ⟨by simp [okNum, h1, h2], Sub.al (Below.refl _ _) _⟩

set_option maxRecDepth 20000 in
set_option maxHeartbeats 1000000 in
theorem right_text (k off : Nat) (H : AccOf k off) (sz a b c : Int) (s : ByteArray) (g : Nat) (w : World) (hc : w.cell? ⟨g, off, none⟩ = some (.string s)) (hg : g < w.heap.size) (hc0 : 0 < c) :
    Calls Try.prog 56 #[.agg #[.int .i64 sz, .nilFunc, .func (.func k) #[] #[], .int .i64 a, .int .i64 b, .int .i64 c], .pointer (some ⟨g, 0, none⟩)] w fun e w' => e = .returned (.bool (okText a b c s.size)) ∧ Sub w w' := by
  have hen := acc_enters k off H
  have Hh := Lib.hid (acc_p k off H)
  have H := Lib.hid H
  have hf := nil_ne
  have hcs : (¬ a ≤ (s.size : Int)) ∨ (a ≤ (s.size : Int) ∧ ¬ (s.size : Int) ≤ b) ∨ (a ≤ (s.size : Int) ∧ (s.size : Int) ≤ b ∧ ((s.size : Int) % c == 0) = false ∧ ¬ (s.size : Int) % c = 0) ∨ (a ≤ (s.size : Int) ∧ (s.size : Int) ≤ b ∧ ((s.size : Int) % c == 0) = true ∧ (s.size : Int) % c = 0) := by
    simp; omega
  rcases hcs with h1 | ⟨h1, h2⟩ | ⟨h1, h2, h3, h4⟩ | ⟨h1, h2, h3, h4⟩ <;>
  · go_enter Try.func56, Try.ntmps56
    go_wp2_with ((with_reducible refine (Hh.out _ _).mono ?_); rintro e w' ⟨rfl, rfl⟩)
    go_ret
    exact ⟨by simp [okText]; omega, Sub.al (Below.refl _ _) _⟩

end Go.Proofs.Ytcjmdkklbbollaa
