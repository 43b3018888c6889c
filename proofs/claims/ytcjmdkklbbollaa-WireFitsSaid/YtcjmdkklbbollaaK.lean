import Derived.Test.YtcjmdkklbbollaaJ
import Derived.Deep.RegionHeld3
set_option linter.unusedSimpArgs false
set_option linter.unusedVariables false
namespace Go.Proofs.Ytcjmdkklbbollaa
open Go.RowKit

/-- A handshake. -/
structure Hs where
  e : Bool
  f : Bool
  n : Bool
  name : ByteArray
  peer : ByteArray
  deriving DecidableEq
def Hs.cells (h : Hs) : Array Value := #[.bool h.e, .bool h.f, .bool h.n, .string h.name, .string h.peer]
def greeting : List UInt8 := [19, 99, 111, 118, 101, 121, 32, 112, 101, 101, 114, 32, 112, 114, 111, 116, 111, 99, 111, 108]
def validH (h : Hs) : Bool := decide (h.name.size = 20) && decide (h.peer.size = 20)
def flag7 (f n : Bool) : UInt8 := (if f then 4 else 0) + (if n then 16 else 0)
def helloB (h : Hs) : List UInt8 := greeting ++ [0, 0, 0, 0, 0, if h.e then 16 else 0, 0, flag7 h.f h.n] ++ h.name.data.toList ++ h.peer.data.toList
def helloR (h : Hs) : List UInt8 × Int := if validH h then (helloB h, 0) else ([], 1)

set_option maxRecDepth 20000 in
theorem validHello_p (h : Hs) (w : World) : Calls Try.prog 15 #[.agg h.cells] w fun e w' => e = .returned (.bool (validH h)) ∧ Sub w w' := by
  obtain ⟨a, b, c, s, t⟩ := h
  unfold Hs.cells
  simp only
  by_cases h1 : s.size = 20
  · by_cases h2 : t.size = 20
    all_goals
      go_enter Try.func15, Try.ntmps15
      go_wp2
      go_ret
      exact ⟨by simp [validH, h1, h2]; try omega, Sub.al Sub.rfl' _⟩
  · go_enter Try.func15, Try.ntmps15
    go_wp2
    go_ret
    exact ⟨by simp [validH, h1], Sub.al Sub.rfl' _⟩
set_option maxRecDepth 20000 in
theorem validHello_r (h : Hs) (w : World) : Calls Try.prog 16 #[.agg h.cells] w fun e w' => e = .returned (.bool (validH h)) ∧ Sub w w' := by
  obtain ⟨a, b, c, s, t⟩ := h
  unfold Hs.cells
  simp only
  by_cases h1 : s.size = 20
  · by_cases h2 : t.size = 20
    all_goals
      go_enter Try.func16, Try.ntmps16
      go_wp2
      go_ret
      exact ⟨by simp [validH, h1, h2]; try omega, Sub.al Sub.rfl' _⟩
  · go_enter Try.func16, Try.ntmps16
    go_wp2
    go_ret
    exact ⟨by simp [validH, h1], Sub.al Sub.rfl' _⟩
theorem conv8 (w : World) (x5 x7 : UInt8) :
    (convert 69 9 (.slice (some ⟨w.heap.size, 0, none⟩) 8 8)).run Try.prog ((w.alloc (.cells #[.int .u8 0, .int .u8 0, .int .u8 0, .int .u8 0, .int .u8 0, .int .u8 x5.toNat, .int .u8 0, .int .u8 x7.toNat] 68)).drew) =
      .ok (.string ⟨#[0, 0, 0, 0, 0, x5, 0, x7]⟩) ((w.alloc (.cells #[.int .u8 0, .int .u8 0, .int .u8 0, .int .u8 0, .int .u8 0, .int .u8 x5.toNat, .int .u8 0, .int .u8 x7.toNat] 68)).drew) := by
  refine run_convert_bytes_back _ 69 9 5 ⟨w.heap.size, 0, none⟩ 8 [0, 0, 0, 0, 0, x5, 0, x7] Try.underlying69 Try.underlying5 Try.underlying9 fun j hj => ?_
  rw [add_lit, Nat.zero_add, ((Blk.new w 68 _).drew).cell]
  simp at hj
  rcases (by omega : j = 0 ∨ j = 1 ∨ j = 2 ∨ j = 3 ∨ j = 4 ∨ j = 5 ∨ j = 6 ∨ j = 7) with rfl | rfl | rfl | rfl | rfl | rfl | rfl | rfl <;> rfl

theorem make8 (w : World) : (Instr.makeSlice 69 (.int .i64 8) (.int .i64 8)).run Try.prog w = .ok (.slice (some ⟨w.heap.size, 0, none⟩) 8 8) (w.alloc (.cells #[.int .u8 0, .int .u8 0, .int .u8 0, .int .u8 0, .int .u8 0, .int .u8 0, .int .u8 0, .int .u8 0] 5)) := by kernel_rfl
theorem ba_append (a b : List UInt8) : (⟨a.toArray⟩ : ByteArray) ++ ⟨b.toArray⟩ = ⟨(a ++ b).toArray⟩ := by
  apply ByteArray.ext
  simp
theorem ba_self (s : ByteArray) : s = ⟨s.data.toList.toArray⟩ := by
  apply ByteArray.ext
  simp
theorem hello_bytes (h : Hs) : (⟨(helloB h).toArray⟩ : ByteArray) = (⟨greeting.toArray⟩ : ByteArray) ++ ⟨[0, 0, 0, 0, 0, if h.e then 16 else 0, 0, flag7 h.f h.n].toArray⟩ ++ h.name ++ h.peer := by
  apply ByteArray.ext
  simp [helloB]

set_option maxRecDepth 20000 in
set_option maxHeartbeats 4000000 in
theorem hello_p (h : Hs) (w : World) : Calls Try.prog 11 #[.agg h.cells] w fun e w' => e = .returned (.tuple #[.string ⟨(helloR h).1.toArray⟩, .int .i64 (helloR h).2]) ∧ Sub w w' := by
  by_cases hv : validH h = true
  · rw [helloR, if_pos hv]
    simp only
    rw [hello_bytes]
    have H := Lib.hid (fun w => validHello_p h w)
    have Hv := Lib.hid hv
    obtain ⟨a, b, c, s, t⟩ := h
    have hs : s.size = 20 ∧ t.size = 20 := by simpa [validH] using hv
    obtain ⟨hs1, hs2⟩ := hs
    clear hv
    unfold Hs.cells at H ⊢
    simp only at H ⊢
    go_enter Try.func11, Try.ntmps11
    go_wp2_with fail
    refine (H.out _).mono ?_
    rintro e w1 ⟨rfl, hb1⟩
    rw [Hv.out]
    have hblk := (Blk.new w 23 _).sub hb1
    have k0 : w1.cell? ⟨w.heap.size, 0, none⟩ = some (.bool a) := by rw [hblk.cell]; rfl
    have k1 : w1.cell? ⟨w.heap.size, 1, none⟩ = some (.bool b) := by rw [hblk.cell]; rfl
    have k2 : w1.cell? ⟨w.heap.size, 2, none⟩ = some (.bool c) := by rw [hblk.cell]; rfl
    have k3 : w1.cell? ⟨w.heap.size, 3, none⟩ = some (.string s) := by rw [hblk.cell]; rfl
    have k4 : w1.cell? ⟨w.heap.size, 4, none⟩ = some (.string t) := by rw [hblk.cell]; rfl
    have hlt := hblk.lt
    clear hblk
    have Hb := Lib.hid hb1; clear hb1
    have q1 : bits BinOp.or IntKind.u8 0 16 = 16 := by kernel_rfl
    have q2 : bits BinOp.or IntKind.u8 0 4 = 4 := by kernel_rfl
    have q3 : bits BinOp.or IntKind.u8 4 16 = 20 := by kernel_rfl
    have hmk := make8
    cases a <;> cases b <;> cases c
    · have hcv := conv8 w1 0 0
      simp only [show ((0 : UInt8).toNat : Int) = 0 from rfl, show ((0 : UInt8).toNat : Int) = 0 from rfl] at hcv
      go_wp2_with fail
      go_region
      go_wp2_with fail
      go_ret2
      exact ⟨rfl, (((Sub.al Sub.rfl' _).tr Hb.out).al _).drew'⟩
    · have hcv := conv8 w1 0 16
      simp only [show ((0 : UInt8).toNat : Int) = 0 from rfl, show ((16 : UInt8).toNat : Int) = 16 from rfl] at hcv
      go_wp2_with fail
      go_region
      go_wp2_with fail
      go_ret2
      exact ⟨rfl, (((Sub.al Sub.rfl' _).tr Hb.out).al _).drew'⟩
    · have hcv := conv8 w1 0 4
      simp only [show ((0 : UInt8).toNat : Int) = 0 from rfl, show ((4 : UInt8).toNat : Int) = 4 from rfl] at hcv
      go_wp2_with fail
      go_region
      go_wp2_with fail
      go_ret2
      exact ⟨rfl, (((Sub.al Sub.rfl' _).tr Hb.out).al _).drew'⟩
    · have hcv := conv8 w1 0 20
      simp only [show ((0 : UInt8).toNat : Int) = 0 from rfl, show ((20 : UInt8).toNat : Int) = 20 from rfl] at hcv
      go_wp2_with fail
      go_region
      go_wp2_with fail
      go_ret2
      exact ⟨rfl, (((Sub.al Sub.rfl' _).tr Hb.out).al _).drew'⟩
    · have hcv := conv8 w1 16 0
      simp only [show ((16 : UInt8).toNat : Int) = 16 from rfl, show ((0 : UInt8).toNat : Int) = 0 from rfl] at hcv
      go_wp2_with fail
      go_region
      go_wp2_with fail
      go_ret2
      exact ⟨rfl, (((Sub.al Sub.rfl' _).tr Hb.out).al _).drew'⟩
    · have hcv := conv8 w1 16 16
      simp only [show ((16 : UInt8).toNat : Int) = 16 from rfl, show ((16 : UInt8).toNat : Int) = 16 from rfl] at hcv
      go_wp2_with fail
      go_region
      go_wp2_with fail
      go_ret2
      exact ⟨rfl, (((Sub.al Sub.rfl' _).tr Hb.out).al _).drew'⟩
    · have hcv := conv8 w1 16 4
      simp only [show ((16 : UInt8).toNat : Int) = 16 from rfl, show ((4 : UInt8).toNat : Int) = 4 from rfl] at hcv
      go_wp2_with fail
      go_region
      go_wp2_with fail
      go_ret2
      exact ⟨rfl, (((Sub.al Sub.rfl' _).tr Hb.out).al _).drew'⟩
    · have hcv := conv8 w1 16 20
      simp only [show ((16 : UInt8).toNat : Int) = 16 from rfl, show ((20 : UInt8).toNat : Int) = 20 from rfl] at hcv
      go_wp2_with fail
      go_region
      go_wp2_with fail
      go_ret2
      exact ⟨rfl, (((Sub.al Sub.rfl' _).tr Hb.out).al _).drew'⟩
  · have hv' : validH h = false := by simpa using hv
    rw [helloR, if_neg hv]
    have H := Lib.hid (fun w => validHello_p h w)
    have Hv := Lib.hid hv'
    clear hv hv'
    obtain ⟨a, b, c, s, t⟩ := h
    unfold Hs.cells at H ⊢
    simp only at H ⊢
    go_enter Try.func11, Try.ntmps11
    go_wp2_with fail
    refine (H.out _).mono ?_
    rintro e w1 ⟨rfl, hb1⟩
    rw [Hv.out]
    go_wp2_with fail
    go_ret2
    exact ⟨rfl, (Sub.al Sub.rfl' _).tr hb1⟩

theorem conv8r (w : World) (x5 x7 : UInt8) (n : Nat) :
    (convert 69 9 (.slice (some ⟨w.heap.size, 0, none⟩) 8 8)).run Try.prog ((w.alloc (.cells #[.int .u8 0, .int .u8 0, .int .u8 0, .int .u8 0, .int .u8 0, .int .u8 x5.toNat, .int .u8 0, .int .u8 x7.toNat] 5)).drewN n) =
      .ok (.string ⟨#[0, 0, 0, 0, 0, x5, 0, x7]⟩) ((w.alloc (.cells #[.int .u8 0, .int .u8 0, .int .u8 0, .int .u8 0, .int .u8 0, .int .u8 x5.toNat, .int .u8 0, .int .u8 x7.toNat] 5)).drewN n) := by
  refine run_convert_bytes_back _ 69 9 5 ⟨w.heap.size, 0, none⟩ 8 [0, 0, 0, 0, 0, x5, 0, x7] Try.underlying69 Try.underlying5 Try.underlying9 fun j hj => ?_
  rw [add_lit, Nat.zero_add, ((Blk.new w 5 _).drewN n).cell]
  simp at hj
  rcases (by omega : j = 0 ∨ j = 1 ∨ j = 2 ∨ j = 3 ∨ j = 4 ∨ j = 5 ∨ j = 6 ∨ j = 7) with rfl | rfl | rfl | rfl | rfl | rfl | rfl | rfl <;> rfl

set_option maxRecDepth 20000 in
theorem intro_r (w : World) : Calls Try.prog 45 #[] w fun e w' => e = .returned (.string ⟨#[19, 99, 111, 118, 101, 121, 32, 112, 101, 101, 114, 32, 112, 114, 111, 116, 111, 99, 111, 108]⟩) ∧ w' = w := by
  go_enter Try.func45, Try.ntmps45
  go_wp2
  go_ret
  exact ⟨rfl, rfl⟩

set_option maxRecDepth 20000 in
set_option maxHeartbeats 4000000 in
theorem hello_r (h : Hs) (w : World) : Calls Try.prog 12 #[.agg h.cells] w fun e w' => e = .returned (.tuple #[.string ⟨(helloR h).1.toArray⟩, .int .i64 (helloR h).2]) ∧ Sub w w' := by
  by_cases hv : validH h = true
  · rw [helloR, if_pos hv]
    simp only
    rw [hello_bytes]
    have H := Lib.hid (fun w => validHello_r h w)
    have Hv := Lib.hid hv
    obtain ⟨a, b, c, s, t⟩ := h
    have hs : s.size = 20 ∧ t.size = 20 := by simpa [validH] using hv
    obtain ⟨hs1, hs2⟩ := hs
    clear hv
    unfold Hs.cells at H ⊢
    simp only at H ⊢
    go_enter Try.func12, Try.ntmps12
    go_wp2_with fail
    refine (H.out _).mono ?_
    rintro e w1 ⟨rfl, hb1⟩
    rw [Hv.out]
    have hblk := (Blk.new w 23 _).sub hb1
    have k0 : w1.cell? ⟨w.heap.size, 0, none⟩ = some (.bool a) := by rw [hblk.cell]; rfl
    have k1 : w1.cell? ⟨w.heap.size, 1, none⟩ = some (.bool b) := by rw [hblk.cell]; rfl
    have k2 : w1.cell? ⟨w.heap.size, 2, none⟩ = some (.bool c) := by rw [hblk.cell]; rfl
    have k3 : w1.cell? ⟨w.heap.size, 3, none⟩ = some (.string s) := by rw [hblk.cell]; rfl
    have k4 : w1.cell? ⟨w.heap.size, 4, none⟩ = some (.string t) := by rw [hblk.cell]; rfl
    have hlt := hblk.lt
    clear hblk
    have Hb := Lib.hid hb1; clear hb1
    have q1 : bits BinOp.or IntKind.u8 0 16 = 16 := by kernel_rfl
    have q2 : bits BinOp.or IntKind.u8 0 4 = 4 := by kernel_rfl
    have q3 : bits BinOp.or IntKind.u8 4 16 = 20 := by kernel_rfl
    have hmk := make8
    cases a <;> cases b <;> cases c
    · have hcv := fun n => conv8r w1 0 0 n
      simp only [show ((0 : UInt8).toNat : Int) = 0 from rfl, show ((0 : UInt8).toNat : Int) = 0 from rfl] at hcv
      go_wp2_with fail
      go_quiet ((go_at_call 45; exact Calls.quiet_of_same (intro_r _)))
      go_wp2_with fail
      go_ret2
      exact ⟨rfl, (((Sub.al Sub.rfl' _).tr Hb.out).al _).drawn _⟩
    · have hcv := fun n => conv8r w1 0 16 n
      simp only [show ((0 : UInt8).toNat : Int) = 0 from rfl, show ((16 : UInt8).toNat : Int) = 16 from rfl] at hcv
      go_wp2_with fail
      go_quiet ((go_at_call 45; exact Calls.quiet_of_same (intro_r _)))
      go_wp2_with fail
      go_ret2
      exact ⟨rfl, (((Sub.al Sub.rfl' _).tr Hb.out).al _).drawn _⟩
    · have hcv := fun n => conv8r w1 0 4 n
      simp only [show ((0 : UInt8).toNat : Int) = 0 from rfl, show ((4 : UInt8).toNat : Int) = 4 from rfl] at hcv
      go_wp2_with fail
      go_quiet ((go_at_call 45; exact Calls.quiet_of_same (intro_r _)))
      go_wp2_with fail
      go_ret2
      exact ⟨rfl, (((Sub.al Sub.rfl' _).tr Hb.out).al _).drawn _⟩
    · have hcv := fun n => conv8r w1 0 20 n
      simp only [show ((0 : UInt8).toNat : Int) = 0 from rfl, show ((20 : UInt8).toNat : Int) = 20 from rfl] at hcv
      go_wp2_with fail
      go_quiet ((go_at_call 45; exact Calls.quiet_of_same (intro_r _)))
      go_wp2_with fail
      go_ret2
      exact ⟨rfl, (((Sub.al Sub.rfl' _).tr Hb.out).al _).drawn _⟩
    · have hcv := fun n => conv8r w1 16 0 n
      simp only [show ((16 : UInt8).toNat : Int) = 16 from rfl, show ((0 : UInt8).toNat : Int) = 0 from rfl] at hcv
      go_wp2_with fail
      go_quiet ((go_at_call 45; exact Calls.quiet_of_same (intro_r _)))
      go_wp2_with fail
      go_ret2
      exact ⟨rfl, (((Sub.al Sub.rfl' _).tr Hb.out).al _).drawn _⟩
    · have hcv := fun n => conv8r w1 16 16 n
      simp only [show ((16 : UInt8).toNat : Int) = 16 from rfl, show ((16 : UInt8).toNat : Int) = 16 from rfl] at hcv
      go_wp2_with fail
      go_quiet ((go_at_call 45; exact Calls.quiet_of_same (intro_r _)))
      go_wp2_with fail
      go_ret2
      exact ⟨rfl, (((Sub.al Sub.rfl' _).tr Hb.out).al _).drawn _⟩
    · have hcv := fun n => conv8r w1 16 4 n
      simp only [show ((16 : UInt8).toNat : Int) = 16 from rfl, show ((4 : UInt8).toNat : Int) = 4 from rfl] at hcv
      go_wp2_with fail
      go_quiet ((go_at_call 45; exact Calls.quiet_of_same (intro_r _)))
      go_wp2_with fail
      go_ret2
      exact ⟨rfl, (((Sub.al Sub.rfl' _).tr Hb.out).al _).drawn _⟩
    · have hcv := fun n => conv8r w1 16 20 n
      simp only [show ((16 : UInt8).toNat : Int) = 16 from rfl, show ((20 : UInt8).toNat : Int) = 20 from rfl] at hcv
      go_wp2_with fail
      go_quiet ((go_at_call 45; exact Calls.quiet_of_same (intro_r _)))
      go_wp2_with fail
      go_ret2
      exact ⟨rfl, (((Sub.al Sub.rfl' _).tr Hb.out).al _).drawn _⟩
  · have hv' : validH h = false := by simpa using hv
    rw [helloR, if_neg hv]
    have H := Lib.hid (fun w => validHello_r h w)
    have Hv := Lib.hid hv'
    clear hv hv'
    obtain ⟨a, b, c, s, t⟩ := h
    unfold Hs.cells at H ⊢
    simp only at H ⊢
    go_enter Try.func12, Try.ntmps12
    go_wp2_with fail
    refine (H.out _).mono ?_
    rintro e w1 ⟨rfl, hb1⟩
    rw [Hv.out]
    go_wp2_with fail
    go_ret2
    exact ⟨rfl, (Sub.al Sub.rfl' _).tr hb1⟩


end Go.Proofs.Ytcjmdkklbbollaa
