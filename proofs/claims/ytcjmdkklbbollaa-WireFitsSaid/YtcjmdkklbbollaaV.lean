import Derived.Test.YtcjmdkklbbollaaU
set_option linter.unusedSimpArgs false
set_option linter.unusedVariables false
namespace Go.Proofs.Ytcjmdkklbbollaa
open Go.RowKit

section
variable {P : Program}
/-- A region that draws its order, whose operations read, or call what makes memory alone: one walk in the order of the text serves every order, each operation yielding one value in whatever world has grown from w. -/
theorem wp_region_sub {id : Nat} {Q : Exit → Act → World → Prop} {a : Act} {w : World} {l : List Oper} (hm : P.follows .mixedOrders = true) (hB : Region.lexB .any l.toArray = true)
    (h : wpQuiet P l.toArray (fun w' => Sub w w') (fun a' => ∀ w', Sub w w' → Q .normal a' w') l a) : (Code.region id l.toArray true).wp P Q a w :=
  wp_region_quiet (C := fun w' => Sub w w') hm hB (Sub.rfl'.drew') (by simpa using h)
end
def numStr (k : Nat) (n : Int) : ByteArray := ⟨(be k n).toArray⟩
set_option maxRecDepth 20000 in
set_option maxHeartbeats 2000000 in
theorem bo_idx (k i1 i2 i3 i4 i5 : Int) (root data : ByteArray) (h0 : isIdx k = true) (g1 : 0 ≤ i1 ∧ i1 ≤ 4294967295)  (w : World) :
    Calls Try.prog 49 #[.agg #[.int .i64 k, .int .i64 i1, .int .i64 i2, .int .i64 i3, .int .i64 i4, .int .i64 i5, .string root, .string data]] w fun e w' => e = .returned (.string (numStr 4 i1)) ∧ Sub w w' := by
  have F1 := Lib.hid (fun w => four_r i1 g1.1 g1.2 w); clear g1
  have l1 : (be 4 i1).length = 4 := rfl
  go_enter Try.func49, Try.ntmps49
  go_wp2_with (first | ((with_reducible refine (indexed_r _ _).mono ?_); rintro e w' ⟨rfl, rfl⟩) | ((with_reducible refine (block_r _ _).mono ?_); rintro e w' ⟨rfl, rfl⟩) | ((with_reducible refine (hashed_r _ _).mono ?_); rintro e w' ⟨rfl, rfl⟩) | ((with_reducible refine (F1.out _).mono ?_); rintro e w1 ⟨rfl, hb1⟩))
  go_ret
  exact ⟨rfl, (Sub.al Sub.rfl' _).tr hb1⟩

set_option maxRecDepth 20000 in
set_option maxHeartbeats 2000000 in
theorem bo_bits (k i1 i2 i3 i4 i5 : Int) (root data : ByteArray) (h0 : isIdx k = false) (h1 : (k == 7) = true)   (w : World) :
    Calls Try.prog 49 #[.agg #[.int .i64 k, .int .i64 i1, .int .i64 i2, .int .i64 i3, .int .i64 i4, .int .i64 i5, .string root, .string data]] w fun e w' => e = .returned (.string (data)) ∧ Sub w w' := by
  go_enter Try.func49, Try.ntmps49
  go_wp2_with (first | ((with_reducible refine (indexed_r _ _).mono ?_); rintro e w' ⟨rfl, rfl⟩) | ((with_reducible refine (block_r _ _).mono ?_); rintro e w' ⟨rfl, rfl⟩) | ((with_reducible refine (hashed_r _ _).mono ?_); rintro e w' ⟨rfl, rfl⟩))
  go_ret
  exact ⟨rfl, Sub.al Sub.rfl' _⟩

set_option maxRecDepth 20000 in
set_option maxHeartbeats 2000000 in
theorem bo_blk (k i1 i2 i3 i4 i5 : Int) (root data : ByteArray) (h0 : isIdx k = false) (h1 : (k == 7) = false) (h2 : isBlock k = true) (g1 : 0 ≤ i1 ∧ i1 ≤ 4294967295) (g2 : 0 ≤ i2 ∧ i2 ≤ 4294967295) (g3 : 0 ≤ i3 ∧ i3 ≤ 4294967295)  (w : World) :
    Calls Try.prog 49 #[.agg #[.int .i64 k, .int .i64 i1, .int .i64 i2, .int .i64 i3, .int .i64 i4, .int .i64 i5, .string root, .string data]] w fun e w' => e = .returned (.string (numStr 4 i1 ++ numStr 4 i2 ++ numStr 4 i3)) ∧ Sub w w' := by
  have F1 := Lib.hid (fun w => four_r i1 g1.1 g1.2 w); clear g1
  have l1 : (be 4 i1).length = 4 := rfl
  have F2 := Lib.hid (fun w => four_r i2 g2.1 g2.2 w); clear g2
  have l2 : (be 4 i2).length = 4 := rfl
  have F3 := Lib.hid (fun w => four_r i3 g3.1 g3.2 w); clear g3
  have l3 : (be 4 i3).length = 4 := rfl
  go_enter Try.func49, Try.ntmps49
  go_wp2_with (first | ((with_reducible refine (indexed_r _ _).mono ?_); rintro e w' ⟨rfl, rfl⟩) | ((with_reducible refine (block_r _ _).mono ?_); rintro e w' ⟨rfl, rfl⟩) | ((with_reducible refine (hashed_r _ _).mono ?_); rintro e w' ⟨rfl, rfl⟩))
  have hB := Blk.new w 33 #[.int .i64 k, .int .i64 i1, .int .i64 i2, .int .i64 i3, .int .i64 i4, .int .i64 i5, .string root, .string data]
  have hS : ∀ w', Sub (w.alloc (.cells #[.int .i64 k, .int .i64 i1, .int .i64 i2, .int .i64 i3, .int .i64 i4, .int .i64 i5, .string root, .string data] 33)) w' → w'.cell? ⟨w.heap.size, 1, none⟩ = some (.int .i64 i1) ∧ w'.cell? ⟨w.heap.size, 2, none⟩ = some (.int .i64 i2) ∧ w'.cell? ⟨w.heap.size, 3, none⟩ = some (.int .i64 i3) := by
    intro w' hw
    have := hB.sub hw
    exact ⟨by rw [this.cell]; rfl, by rw [this.cell]; rfl, by rw [this.cell]; rfl⟩
  have hsub : Sub w (w.alloc (.cells #[.int .i64 k, .int .i64 i1, .int .i64 i2, .int .i64 i3, .int .i64 i4, .int .i64 i5, .string root, .string data] 33)) := Sub.al Sub.rfl' _
  clear hB
  generalize w.alloc (.cells #[.int .i64 k, .int .i64 i1, .int .i64 i2, .int .i64 i3, .int .i64 i4, .int .i64 i5, .string root, .string data] 33) = W0 at *
  have HS := Lib.hid hS; clear hS
  have Hsub := Lib.hid hsub; clear hsub
  refine wp_region_sub (by kernel_rfl) (by kernel_rfl) ?_
  repeat
    refine BigFrame.wpQuiet_want (by kernel_rfl) (fun K hK => ?_)
    apply Exists.intro
    refine ⟨fun w' hw' => ?_, hK _ ?_⟩
    · obtain ⟨c1, c2, c3⟩ := HS.out w' hw'
      go_simp
      first
        | rfl
        | (rw [if_neg (by omega)]; exact ⟨rfl, rfl⟩)
        | exact (F1.out _).mono fun _ _ h => ⟨h.1, hw'.tr h.2⟩
        | exact (F2.out _).mono fun _ _ h => ⟨h.1, hw'.tr h.2⟩
        | exact (F3.out _).mono fun _ _ h => ⟨h.1, hw'.tr h.2⟩
    clear hK K
    simp only [Act.put, List.setIfInBounds_toArray, List.set_cons_zero, List.set_cons_succ]
  refine wpQuiet_nil ?_
  intro w1 hb
  go_wp2_with fail
  go_ret
  exact ⟨rfl, Hsub.out.tr hb⟩

set_option maxRecDepth 20000 in
set_option maxHeartbeats 2000000 in
theorem bo_pc (k i1 i2 i3 i4 i5 : Int) (root data : ByteArray) (h0 : isIdx k = false) (h1 : (k == 7) = false) (h2 : isBlock k = false) (h3 : (k == 9) = true) (g1 : 0 ≤ i1 ∧ i1 ≤ 4294967295) (g2 : 0 ≤ i2 ∧ i2 ≤ 4294967295) (z0 : data.size ≤ 5000) (w : World) :
    Calls Try.prog 49 #[.agg #[.int .i64 k, .int .i64 i1, .int .i64 i2, .int .i64 i3, .int .i64 i4, .int .i64 i5, .string root, .string data]] w fun e w' => e = .returned (.string (numStr 4 i1 ++ numStr 4 i2 ++ data)) ∧ Sub w w' := by
  have F1 := Lib.hid (fun w => four_r i1 g1.1 g1.2 w); clear g1
  have l1 : (be 4 i1).length = 4 := rfl
  have F2 := Lib.hid (fun w => four_r i2 g2.1 g2.2 w); clear g2
  have l2 : (be 4 i2).length = 4 := rfl
  go_enter Try.func49, Try.ntmps49
  go_wp2_with (first | ((with_reducible refine (indexed_r _ _).mono ?_); rintro e w' ⟨rfl, rfl⟩) | ((with_reducible refine (block_r _ _).mono ?_); rintro e w' ⟨rfl, rfl⟩) | ((with_reducible refine (hashed_r _ _).mono ?_); rintro e w' ⟨rfl, rfl⟩))
  have hB := Blk.new w 33 #[.int .i64 k, .int .i64 i1, .int .i64 i2, .int .i64 i3, .int .i64 i4, .int .i64 i5, .string root, .string data]
  have hS : ∀ w', Sub (w.alloc (.cells #[.int .i64 k, .int .i64 i1, .int .i64 i2, .int .i64 i3, .int .i64 i4, .int .i64 i5, .string root, .string data] 33)) w' → w'.cell? ⟨w.heap.size, 1, none⟩ = some (.int .i64 i1) ∧ w'.cell? ⟨w.heap.size, 2, none⟩ = some (.int .i64 i2) ∧ w'.cell? ⟨w.heap.size, 7, none⟩ = some (.string data) := by
    intro w' hw
    have := hB.sub hw
    exact ⟨by rw [this.cell]; rfl, by rw [this.cell]; rfl, by rw [this.cell]; rfl⟩
  have hsub : Sub w (w.alloc (.cells #[.int .i64 k, .int .i64 i1, .int .i64 i2, .int .i64 i3, .int .i64 i4, .int .i64 i5, .string root, .string data] 33)) := Sub.al Sub.rfl' _
  clear hB
  generalize w.alloc (.cells #[.int .i64 k, .int .i64 i1, .int .i64 i2, .int .i64 i3, .int .i64 i4, .int .i64 i5, .string root, .string data] 33) = W0 at *
  have HS := Lib.hid hS; clear hS
  have Hsub := Lib.hid hsub; clear hsub
  refine wp_region_sub (by kernel_rfl) (by kernel_rfl) ?_
  repeat
    refine BigFrame.wpQuiet_want (by kernel_rfl) (fun K hK => ?_)
    apply Exists.intro
    refine ⟨fun w' hw' => ?_, hK _ ?_⟩
    · obtain ⟨c1, c2, c7⟩ := HS.out w' hw'
      go_simp
      first
        | rfl
        | (rw [if_neg (by omega)]; exact ⟨rfl, rfl⟩)
        | exact (F1.out _).mono fun _ _ h => ⟨h.1, hw'.tr h.2⟩
        | exact (F2.out _).mono fun _ _ h => ⟨h.1, hw'.tr h.2⟩
    clear hK K
    simp only [Act.put, List.setIfInBounds_toArray, List.set_cons_zero, List.set_cons_succ]
  refine wpQuiet_nil ?_
  intro w1 hb
  go_wp2_with fail
  go_ret
  exact ⟨rfl, Hsub.out.tr hb⟩

set_option maxRecDepth 20000 in
set_option maxHeartbeats 2000000 in
theorem bo_pt (k i1 i2 i3 i4 i5 : Int) (root data : ByteArray) (h0 : isIdx k = false) (h1 : (k == 7) = false) (h2 : isBlock k = false) (h3 : (k == 9) = false) (h4 : (k == 11) = true) (g1 : 0 ≤ i1 ∧ i1 ≤ 4294967295)  (w : World) :
    Calls Try.prog 49 #[.agg #[.int .i64 k, .int .i64 i1, .int .i64 i2, .int .i64 i3, .int .i64 i4, .int .i64 i5, .string root, .string data]] w fun e w' => e = .returned (.string ((numStr 4 i1).extract 2 4)) ∧ Sub w w' := by
  have F1 := Lib.hid (fun w => four_r i1 g1.1 g1.2 w); clear g1
  have l1 : (be 4 i1).length = 4 := rfl
  go_enter Try.func49, Try.ntmps49
  go_wp2_with (first | ((with_reducible refine (indexed_r _ _).mono ?_); rintro e w' ⟨rfl, rfl⟩) | ((with_reducible refine (block_r _ _).mono ?_); rintro e w' ⟨rfl, rfl⟩) | ((with_reducible refine (hashed_r _ _).mono ?_); rintro e w' ⟨rfl, rfl⟩) | ((with_reducible refine (F1.out _).mono ?_); rintro e w1 ⟨rfl, hb1⟩))
  go_ret
  exact ⟨rfl, (Sub.al Sub.rfl' _).tr hb1⟩

set_option maxRecDepth 20000 in
set_option maxHeartbeats 2000000 in
theorem bo_ex (k i1 i2 i3 i4 i5 : Int) (root data : ByteArray) (h0 : isIdx k = false) (h1 : (k == 7) = false) (h2 : isBlock k = false) (h3 : (k == 9) = false) (h4 : (k == 11) = false) (h5 : (k == 17) = true) (g1 : 0 ≤ i1 ∧ i1 ≤ 4294967295) (z0 : data.size ≤ 5000) (w : World) :
    Calls Try.prog 49 #[.agg #[.int .i64 k, .int .i64 i1, .int .i64 i2, .int .i64 i3, .int .i64 i4, .int .i64 i5, .string root, .string data]] w fun e w' => e = .returned (.string ((numStr 4 i1).extract 3 4 ++ data)) ∧ Sub w w' := by
  have F1 := Lib.hid (fun w => four_r i1 g1.1 g1.2 w); clear g1
  have l1 : (be 4 i1).length = 4 := rfl
  go_enter Try.func49, Try.ntmps49
  go_wp2_with (first | ((with_reducible refine (indexed_r _ _).mono ?_); rintro e w' ⟨rfl, rfl⟩) | ((with_reducible refine (block_r _ _).mono ?_); rintro e w' ⟨rfl, rfl⟩) | ((with_reducible refine (hashed_r _ _).mono ?_); rintro e w' ⟨rfl, rfl⟩))
  have hB := Blk.new w 33 #[.int .i64 k, .int .i64 i1, .int .i64 i2, .int .i64 i3, .int .i64 i4, .int .i64 i5, .string root, .string data]
  have hS : ∀ w', Sub (w.alloc (.cells #[.int .i64 k, .int .i64 i1, .int .i64 i2, .int .i64 i3, .int .i64 i4, .int .i64 i5, .string root, .string data] 33)) w' → w'.cell? ⟨w.heap.size, 1, none⟩ = some (.int .i64 i1) ∧ w'.cell? ⟨w.heap.size, 7, none⟩ = some (.string data) := by
    intro w' hw
    have := hB.sub hw
    exact ⟨by rw [this.cell]; rfl, by rw [this.cell]; rfl⟩
  have hsub : Sub w (w.alloc (.cells #[.int .i64 k, .int .i64 i1, .int .i64 i2, .int .i64 i3, .int .i64 i4, .int .i64 i5, .string root, .string data] 33)) := Sub.al Sub.rfl' _
  clear hB
  generalize w.alloc (.cells #[.int .i64 k, .int .i64 i1, .int .i64 i2, .int .i64 i3, .int .i64 i4, .int .i64 i5, .string root, .string data] 33) = W0 at *
  have HS := Lib.hid hS; clear hS
  have Hsub := Lib.hid hsub; clear hsub
  refine wp_region_sub (by kernel_rfl) (by kernel_rfl) ?_
  repeat
    refine BigFrame.wpQuiet_want (by kernel_rfl) (fun K hK => ?_)
    apply Exists.intro
    refine ⟨fun w' hw' => ?_, hK _ ?_⟩
    · obtain ⟨c1, c7⟩ := HS.out w' hw'
      go_simp
      first
        | rfl
        | (rw [if_neg (by omega)]; exact ⟨rfl, rfl⟩)
        | exact (F1.out _).mono fun _ _ h => ⟨h.1, hw'.tr h.2⟩
    clear hK K
    simp only [Act.put, List.setIfInBounds_toArray, List.set_cons_zero, List.set_cons_succ]
  refine wpQuiet_nil ?_
  intro w1 hb
  go_wp2_with fail
  go_ret
  exact ⟨rfl, Hsub.out.tr hb⟩

set_option maxRecDepth 20000 in
set_option maxHeartbeats 2000000 in
theorem bo_h (k i1 i2 i3 i4 i5 : Int) (root data : ByteArray) (h0 : isIdx k = false) (h1 : (k == 7) = false) (h2 : isBlock k = false) (h3 : (k == 9) = false) (h4 : (k == 11) = false) (h5 : (k == 17) = false) (h6 : isHash k = true) (g4 : 0 ≤ i4 ∧ i4 ≤ 4294967295) (g1 : 0 ≤ i1 ∧ i1 ≤ 4294967295) (g3 : 0 ≤ i3 ∧ i3 ≤ 4294967295) (g5 : 0 ≤ i5 ∧ i5 ≤ 4294967295) (z0 : root.size = 32) (z1 : data.size ≤ 5000) (w : World) :
    Calls Try.prog 49 #[.agg #[.int .i64 k, .int .i64 i1, .int .i64 i2, .int .i64 i3, .int .i64 i4, .int .i64 i5, .string root, .string data]] w fun e w' => e = .returned (.string (root ++ numStr 4 i4 ++ numStr 4 i1 ++ numStr 4 i3 ++ numStr 4 i5 ++ data)) ∧ Sub w w' := by
  have F4 := Lib.hid (fun w => four_r i4 g4.1 g4.2 w); clear g4
  have l4 : (be 4 i4).length = 4 := rfl
  have F1 := Lib.hid (fun w => four_r i1 g1.1 g1.2 w); clear g1
  have l1 : (be 4 i1).length = 4 := rfl
  have F3 := Lib.hid (fun w => four_r i3 g3.1 g3.2 w); clear g3
  have l3 : (be 4 i3).length = 4 := rfl
  have F5 := Lib.hid (fun w => four_r i5 g5.1 g5.2 w); clear g5
  have l5 : (be 4 i5).length = 4 := rfl
  go_enter Try.func49, Try.ntmps49
  go_wp2_with (first | ((with_reducible refine (indexed_r _ _).mono ?_); rintro e w' ⟨rfl, rfl⟩) | ((with_reducible refine (block_r _ _).mono ?_); rintro e w' ⟨rfl, rfl⟩) | ((with_reducible refine (hashed_r _ _).mono ?_); rintro e w' ⟨rfl, rfl⟩))
  have hB := Blk.new w 33 #[.int .i64 k, .int .i64 i1, .int .i64 i2, .int .i64 i3, .int .i64 i4, .int .i64 i5, .string root, .string data]
  have hS : ∀ w', Sub (w.alloc (.cells #[.int .i64 k, .int .i64 i1, .int .i64 i2, .int .i64 i3, .int .i64 i4, .int .i64 i5, .string root, .string data] 33)) w' → w'.cell? ⟨w.heap.size, 6, none⟩ = some (.string root) ∧ w'.cell? ⟨w.heap.size, 4, none⟩ = some (.int .i64 i4) ∧ w'.cell? ⟨w.heap.size, 1, none⟩ = some (.int .i64 i1) ∧ w'.cell? ⟨w.heap.size, 3, none⟩ = some (.int .i64 i3) ∧ w'.cell? ⟨w.heap.size, 5, none⟩ = some (.int .i64 i5) ∧ w'.cell? ⟨w.heap.size, 7, none⟩ = some (.string data) := by
    intro w' hw
    have := hB.sub hw
    exact ⟨by rw [this.cell]; rfl, by rw [this.cell]; rfl, by rw [this.cell]; rfl, by rw [this.cell]; rfl, by rw [this.cell]; rfl, by rw [this.cell]; rfl⟩
  have hsub : Sub w (w.alloc (.cells #[.int .i64 k, .int .i64 i1, .int .i64 i2, .int .i64 i3, .int .i64 i4, .int .i64 i5, .string root, .string data] 33)) := Sub.al Sub.rfl' _
  clear hB
  generalize w.alloc (.cells #[.int .i64 k, .int .i64 i1, .int .i64 i2, .int .i64 i3, .int .i64 i4, .int .i64 i5, .string root, .string data] 33) = W0 at *
  have HS := Lib.hid hS; clear hS
  have Hsub := Lib.hid hsub; clear hsub
  refine wp_region_sub (by kernel_rfl) (by kernel_rfl) ?_
  repeat
    refine BigFrame.wpQuiet_want (by kernel_rfl) (fun K hK => ?_)
    apply Exists.intro
    refine ⟨fun w' hw' => ?_, hK _ ?_⟩
    · obtain ⟨c6, c4, c1, c3, c5, c7⟩ := HS.out w' hw'
      go_simp
      first
        | rfl
        | (rw [if_neg (by omega)]; exact ⟨rfl, rfl⟩)
        | exact (F4.out _).mono fun _ _ h => ⟨h.1, hw'.tr h.2⟩
        | exact (F1.out _).mono fun _ _ h => ⟨h.1, hw'.tr h.2⟩
        | exact (F3.out _).mono fun _ _ h => ⟨h.1, hw'.tr h.2⟩
        | exact (F5.out _).mono fun _ _ h => ⟨h.1, hw'.tr h.2⟩
    clear hK K
    simp only [Act.put, List.setIfInBounds_toArray, List.set_cons_zero, List.set_cons_succ]
  refine wpQuiet_nil ?_
  intro w1 hb
  go_wp2_with fail
  go_ret
  exact ⟨rfl, Hsub.out.tr hb⟩

set_option maxRecDepth 20000 in
set_option maxHeartbeats 2000000 in
theorem bo_none (k i1 i2 i3 i4 i5 : Int) (root data : ByteArray) (h0 : isIdx k = false) (h1 : (k == 7) = false) (h2 : isBlock k = false) (h3 : (k == 9) = false) (h4 : (k == 11) = false) (h5 : (k == 17) = false) (h6 : isHash k = false)   (w : World) :
    Calls Try.prog 49 #[.agg #[.int .i64 k, .int .i64 i1, .int .i64 i2, .int .i64 i3, .int .i64 i4, .int .i64 i5, .string root, .string data]] w fun e w' => e = .returned (.string (⟨#[]⟩)) ∧ Sub w w' := by
  go_enter Try.func49, Try.ntmps49
  go_wp2_with (first | ((with_reducible refine (indexed_r _ _).mono ?_); rintro e w' ⟨rfl, rfl⟩) | ((with_reducible refine (block_r _ _).mono ?_); rintro e w' ⟨rfl, rfl⟩) | ((with_reducible refine (hashed_r _ _).mono ?_); rintro e w' ⟨rfl, rfl⟩))
  go_ret
  exact ⟨rfl, Sub.al Sub.rfl' _⟩

end Go.Proofs.Ytcjmdkklbbollaa
