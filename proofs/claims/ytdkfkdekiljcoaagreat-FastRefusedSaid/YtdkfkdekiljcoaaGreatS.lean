import Derived.Test.YtdkfkdekiljcoaaGreatQ
set_option linter.unusedSimpArgs false
set_option linter.unusedVariables false
namespace Go.Proofs.YtdkfkdekiljcoaaGreat
open Go.RowKit
set_option maxRecDepth 20000 in
set_option maxHeartbeats 2000000 in
theorem vr_pc0 (k i1 i2 i3 i4 i5 : Int) (root data : ByteArray) (h0 : wordR i1 = true) (h1 : wordR i2 = true) (h2 : wordR i3 = true) (h3 : wordR i4 = true) (h4 : wordR i5 = true) (h5 : (k != 1) = true) (h6 : ¬ numR k < 0) (h7 : isIdx k = false) (h8 : (k == 7) = false) (h9 : isBlock k = false) (h10 : (k == 9) = true) (h11 : (data.size : Int) < 1) (w : World) :
    Calls Tryz.prog 45 #[.agg #[.int .i64 k, .int .i64 i1, .int .i64 i2, .int .i64 i3, .int .i64 i4, .int .i64 i5, .string root, .string data]] w fun e w' => e = .returned (.bool false) ∧ Sub w w' := by
  go_enter Tryz.func45, Tryz.ntmps45
  go_wp2_with ((with_reducible refine (word_r _ _).mono ?_); rintro e w' ⟨rfl, rfl⟩)
  have hB1 := (Blk.new w 26 #[.int .i64 k, .int .i64 i1, .int .i64 i2, .int .i64 i3, .int .i64 i4, .int .i64 i5, .string root, .string data]).alloc (.cells #[.int .i64 0, .int .i64 i1, .int .i64 i2, .int .i64 i3, .int .i64 i4, .int .i64 i5, .string root, .string data] 26)
  have hB3 := Blk.new (w.alloc (.cells #[.int .i64 k, .int .i64 i1, .int .i64 i2, .int .i64 i3, .int .i64 i4, .int .i64 i5, .string root, .string data] 26)) 26 #[.int .i64 0, .int .i64 i1, .int .i64 i2, .int .i64 i3, .int .i64 i4, .int .i64 i5, .string root, .string data]
  rw [World.size_alloc] at hB3
  have hsub : Sub w ((w.alloc (.cells #[.int .i64 k, .int .i64 i1, .int .i64 i2, .int .i64 i3, .int .i64 i4, .int .i64 i5, .string root, .string data] 26)).alloc (.cells #[.int .i64 0, .int .i64 i1, .int .i64 i2, .int .i64 i3, .int .i64 i4, .int .i64 i5, .string root, .string data] 26)) := Sub.al (Sub.al Sub.rfl' _) _
  generalize (w.alloc (.cells #[.int .i64 k, .int .i64 i1, .int .i64 i2, .int .i64 i3, .int .i64 i4, .int .i64 i5, .string root, .string data] 26)).alloc (.cells #[.int .i64 0, .int .i64 i1, .int .i64 i2, .int .i64 i3, .int .i64 i4, .int .i64 i5, .string root, .string data] 26) = W0 at *
  have c0 : W0.cell? ⟨w.heap.size, 0, none⟩ = some (.int .i64 k) := by rw [hB1.cell]; rfl
  have c1 : W0.cell? ⟨w.heap.size, 1, none⟩ = some (.int .i64 i1) := by rw [hB1.cell]; rfl
  have c2 : W0.cell? ⟨w.heap.size, 2, none⟩ = some (.int .i64 i2) := by rw [hB1.cell]; rfl
  have c3 : W0.cell? ⟨w.heap.size, 3, none⟩ = some (.int .i64 i3) := by rw [hB1.cell]; rfl
  have c4 : W0.cell? ⟨w.heap.size, 4, none⟩ = some (.int .i64 i4) := by rw [hB1.cell]; rfl
  have c5 : W0.cell? ⟨w.heap.size, 5, none⟩ = some (.int .i64 i5) := by rw [hB1.cell]; rfl
  have c6 : W0.cell? ⟨w.heap.size, 6, none⟩ = some (.string root) := by rw [hB1.cell]; rfl
  have c7 : W0.cell? ⟨w.heap.size, 7, none⟩ = some (.string data) := by rw [hB1.cell]; rfl
  have e0 : W0.cell? ⟨w.heap.size + 1, 0, none⟩ = some (.int .i64 0) := by rw [hB3.cell]; rfl
  have f0 := hB3.frozen 0
  have e1 : W0.cell? ⟨w.heap.size + 1, 1, none⟩ = some (.int .i64 i1) := by rw [hB3.cell]; rfl
  have f1 := hB3.frozen 1
  have e2 : W0.cell? ⟨w.heap.size + 1, 2, none⟩ = some (.int .i64 i2) := by rw [hB3.cell]; rfl
  have f2 := hB3.frozen 2
  have e3 : W0.cell? ⟨w.heap.size + 1, 3, none⟩ = some (.int .i64 i3) := by rw [hB3.cell]; rfl
  have f3 := hB3.frozen 3
  have e4 : W0.cell? ⟨w.heap.size + 1, 4, none⟩ = some (.int .i64 i4) := by rw [hB3.cell]; rfl
  have f4 := hB3.frozen 4
  have e5 : W0.cell? ⟨w.heap.size + 1, 5, none⟩ = some (.int .i64 i5) := by rw [hB3.cell]; rfl
  have f5 := hB3.frozen 5
  have e6 : W0.cell? ⟨w.heap.size + 1, 6, none⟩ = some (.string root) := by rw [hB3.cell]; rfl
  have f6 := hB3.frozen 6
  have e7 : W0.cell? ⟨w.heap.size + 1, 7, none⟩ = some (.string data) := by rw [hB3.cell]; rfl
  have f7 := hB3.frozen 7
  have hlt := hB3.lt
  clear hB1 hB3
  have Hsub := Lib.hid hsub; clear hsub
  go_wp2_with (first | ((with_reducible refine (word_r _ _).mono ?_); rintro e w' ⟨rfl, rfl⟩) | ((with_reducible refine (number_r _ _).mono ?_); rintro e w' ⟨rfl, rfl⟩) | ((with_reducible refine (indexed_r _ _).mono ?_); rintro e w' ⟨rfl, rfl⟩) | ((with_reducible refine (block_r _ _).mono ?_); rintro e w' ⟨rfl, rfl⟩) | ((with_reducible refine (hashed_r _ _).mono ?_); rintro e w' ⟨rfl, rfl⟩))
  go_ret
  exact ⟨rfl, (Below.setCell (Below.setCell (Below.setCell Hsub.out (Nat.le_add_right w.heap.size 1) _) (Nat.le_add_right w.heap.size 1) _) (Nat.le_add_right w.heap.size 1) _)⟩

set_option maxRecDepth 20000 in
set_option maxHeartbeats 2000000 in
theorem vr_pc1 (k i1 i2 i3 i4 i5 : Int) (root data : ByteArray) (h0 : wordR i1 = true) (h1 : wordR i2 = true) (h2 : wordR i3 = true) (h3 : wordR i4 = true) (h4 : wordR i5 = true) (h5 : (k != 1) = true) (h6 : ¬ numR k < 0) (h7 : isIdx k = false) (h8 : (k == 7) = false) (h9 : isBlock k = false) (h10 : (k == 9) = true) (h11 : ¬ (data.size : Int) < 1) (h12 : (1024 : Int) < data.size) (w : World) :
    Calls Tryz.prog 45 #[.agg #[.int .i64 k, .int .i64 i1, .int .i64 i2, .int .i64 i3, .int .i64 i4, .int .i64 i5, .string root, .string data]] w fun e w' => e = .returned (.bool false) ∧ Sub w w' := by
  go_enter Tryz.func45, Tryz.ntmps45
  go_wp2_with ((with_reducible refine (word_r _ _).mono ?_); rintro e w' ⟨rfl, rfl⟩)
  have hB1 := (Blk.new w 26 #[.int .i64 k, .int .i64 i1, .int .i64 i2, .int .i64 i3, .int .i64 i4, .int .i64 i5, .string root, .string data]).alloc (.cells #[.int .i64 0, .int .i64 i1, .int .i64 i2, .int .i64 i3, .int .i64 i4, .int .i64 i5, .string root, .string data] 26)
  have hB3 := Blk.new (w.alloc (.cells #[.int .i64 k, .int .i64 i1, .int .i64 i2, .int .i64 i3, .int .i64 i4, .int .i64 i5, .string root, .string data] 26)) 26 #[.int .i64 0, .int .i64 i1, .int .i64 i2, .int .i64 i3, .int .i64 i4, .int .i64 i5, .string root, .string data]
  rw [World.size_alloc] at hB3
  have hsub : Sub w ((w.alloc (.cells #[.int .i64 k, .int .i64 i1, .int .i64 i2, .int .i64 i3, .int .i64 i4, .int .i64 i5, .string root, .string data] 26)).alloc (.cells #[.int .i64 0, .int .i64 i1, .int .i64 i2, .int .i64 i3, .int .i64 i4, .int .i64 i5, .string root, .string data] 26)) := Sub.al (Sub.al Sub.rfl' _) _
  generalize (w.alloc (.cells #[.int .i64 k, .int .i64 i1, .int .i64 i2, .int .i64 i3, .int .i64 i4, .int .i64 i5, .string root, .string data] 26)).alloc (.cells #[.int .i64 0, .int .i64 i1, .int .i64 i2, .int .i64 i3, .int .i64 i4, .int .i64 i5, .string root, .string data] 26) = W0 at *
  have c0 : W0.cell? ⟨w.heap.size, 0, none⟩ = some (.int .i64 k) := by rw [hB1.cell]; rfl
  have c1 : W0.cell? ⟨w.heap.size, 1, none⟩ = some (.int .i64 i1) := by rw [hB1.cell]; rfl
  have c2 : W0.cell? ⟨w.heap.size, 2, none⟩ = some (.int .i64 i2) := by rw [hB1.cell]; rfl
  have c3 : W0.cell? ⟨w.heap.size, 3, none⟩ = some (.int .i64 i3) := by rw [hB1.cell]; rfl
  have c4 : W0.cell? ⟨w.heap.size, 4, none⟩ = some (.int .i64 i4) := by rw [hB1.cell]; rfl
  have c5 : W0.cell? ⟨w.heap.size, 5, none⟩ = some (.int .i64 i5) := by rw [hB1.cell]; rfl
  have c6 : W0.cell? ⟨w.heap.size, 6, none⟩ = some (.string root) := by rw [hB1.cell]; rfl
  have c7 : W0.cell? ⟨w.heap.size, 7, none⟩ = some (.string data) := by rw [hB1.cell]; rfl
  have e0 : W0.cell? ⟨w.heap.size + 1, 0, none⟩ = some (.int .i64 0) := by rw [hB3.cell]; rfl
  have f0 := hB3.frozen 0
  have e1 : W0.cell? ⟨w.heap.size + 1, 1, none⟩ = some (.int .i64 i1) := by rw [hB3.cell]; rfl
  have f1 := hB3.frozen 1
  have e2 : W0.cell? ⟨w.heap.size + 1, 2, none⟩ = some (.int .i64 i2) := by rw [hB3.cell]; rfl
  have f2 := hB3.frozen 2
  have e3 : W0.cell? ⟨w.heap.size + 1, 3, none⟩ = some (.int .i64 i3) := by rw [hB3.cell]; rfl
  have f3 := hB3.frozen 3
  have e4 : W0.cell? ⟨w.heap.size + 1, 4, none⟩ = some (.int .i64 i4) := by rw [hB3.cell]; rfl
  have f4 := hB3.frozen 4
  have e5 : W0.cell? ⟨w.heap.size + 1, 5, none⟩ = some (.int .i64 i5) := by rw [hB3.cell]; rfl
  have f5 := hB3.frozen 5
  have e6 : W0.cell? ⟨w.heap.size + 1, 6, none⟩ = some (.string root) := by rw [hB3.cell]; rfl
  have f6 := hB3.frozen 6
  have e7 : W0.cell? ⟨w.heap.size + 1, 7, none⟩ = some (.string data) := by rw [hB3.cell]; rfl
  have f7 := hB3.frozen 7
  have hlt := hB3.lt
  clear hB1 hB3
  have Hsub := Lib.hid hsub; clear hsub
  go_wp2_with (first | ((with_reducible refine (word_r _ _).mono ?_); rintro e w' ⟨rfl, rfl⟩) | ((with_reducible refine (number_r _ _).mono ?_); rintro e w' ⟨rfl, rfl⟩) | ((with_reducible refine (indexed_r _ _).mono ?_); rintro e w' ⟨rfl, rfl⟩) | ((with_reducible refine (block_r _ _).mono ?_); rintro e w' ⟨rfl, rfl⟩) | ((with_reducible refine (hashed_r _ _).mono ?_); rintro e w' ⟨rfl, rfl⟩))
  go_ret
  exact ⟨rfl, (Below.setCell (Below.setCell (Below.setCell Hsub.out (Nat.le_add_right w.heap.size 1) _) (Nat.le_add_right w.heap.size 1) _) (Nat.le_add_right w.heap.size 1) _)⟩

set_option maxRecDepth 20000 in
set_option maxHeartbeats 2000000 in
theorem vr_pc2 (k i1 i2 i3 i4 i5 : Int) (root data : ByteArray) (h0 : wordR i1 = true) (h1 : wordR i2 = true) (h2 : wordR i3 = true) (h3 : wordR i4 = true) (h4 : wordR i5 = true) (h5 : (k != 1) = true) (h6 : ¬ numR k < 0) (h7 : isIdx k = false) (h8 : (k == 7) = false) (h9 : isBlock k = false) (h10 : (k == 9) = true) (h11 : ¬ (data.size : Int) < 1) (h12 : ¬ (1024 : Int) < data.size) (w : World) :
    Calls Tryz.prog 45 #[.agg #[.int .i64 k, .int .i64 i1, .int .i64 i2, .int .i64 i3, .int .i64 i4, .int .i64 i5, .string root, .string data]] w fun e w' => e = .returned (.bool (decide ((⟨0, 0, 0, i3, i4, i5, root, ⟨#[]⟩⟩ : M) = M.only 0))) ∧ Sub w w' := by
  generalize hdd : decide ((⟨0, 0, 0, i3, i4, i5, root, ⟨#[]⟩⟩ : M) = M.only 0) = dd
  have Hdd := Lib.hid hdd; clear hdd
  go_enter Tryz.func45, Tryz.ntmps45
  go_wp2_with ((with_reducible refine (word_r _ _).mono ?_); rintro e w' ⟨rfl, rfl⟩)
  have hB1 := (Blk.new w 26 #[.int .i64 k, .int .i64 i1, .int .i64 i2, .int .i64 i3, .int .i64 i4, .int .i64 i5, .string root, .string data]).alloc (.cells #[.int .i64 0, .int .i64 i1, .int .i64 i2, .int .i64 i3, .int .i64 i4, .int .i64 i5, .string root, .string data] 26)
  have hB3 := Blk.new (w.alloc (.cells #[.int .i64 k, .int .i64 i1, .int .i64 i2, .int .i64 i3, .int .i64 i4, .int .i64 i5, .string root, .string data] 26)) 26 #[.int .i64 0, .int .i64 i1, .int .i64 i2, .int .i64 i3, .int .i64 i4, .int .i64 i5, .string root, .string data]
  rw [World.size_alloc] at hB3
  have hsub : Sub w ((w.alloc (.cells #[.int .i64 k, .int .i64 i1, .int .i64 i2, .int .i64 i3, .int .i64 i4, .int .i64 i5, .string root, .string data] 26)).alloc (.cells #[.int .i64 0, .int .i64 i1, .int .i64 i2, .int .i64 i3, .int .i64 i4, .int .i64 i5, .string root, .string data] 26)) := Sub.al (Sub.al Sub.rfl' _) _
  generalize (w.alloc (.cells #[.int .i64 k, .int .i64 i1, .int .i64 i2, .int .i64 i3, .int .i64 i4, .int .i64 i5, .string root, .string data] 26)).alloc (.cells #[.int .i64 0, .int .i64 i1, .int .i64 i2, .int .i64 i3, .int .i64 i4, .int .i64 i5, .string root, .string data] 26) = W0 at *
  have c0 : W0.cell? ⟨w.heap.size, 0, none⟩ = some (.int .i64 k) := by rw [hB1.cell]; rfl
  have c1 : W0.cell? ⟨w.heap.size, 1, none⟩ = some (.int .i64 i1) := by rw [hB1.cell]; rfl
  have c2 : W0.cell? ⟨w.heap.size, 2, none⟩ = some (.int .i64 i2) := by rw [hB1.cell]; rfl
  have c3 : W0.cell? ⟨w.heap.size, 3, none⟩ = some (.int .i64 i3) := by rw [hB1.cell]; rfl
  have c4 : W0.cell? ⟨w.heap.size, 4, none⟩ = some (.int .i64 i4) := by rw [hB1.cell]; rfl
  have c5 : W0.cell? ⟨w.heap.size, 5, none⟩ = some (.int .i64 i5) := by rw [hB1.cell]; rfl
  have c6 : W0.cell? ⟨w.heap.size, 6, none⟩ = some (.string root) := by rw [hB1.cell]; rfl
  have c7 : W0.cell? ⟨w.heap.size, 7, none⟩ = some (.string data) := by rw [hB1.cell]; rfl
  have e0 : W0.cell? ⟨w.heap.size + 1, 0, none⟩ = some (.int .i64 0) := by rw [hB3.cell]; rfl
  have f0 := hB3.frozen 0
  have e1 : W0.cell? ⟨w.heap.size + 1, 1, none⟩ = some (.int .i64 i1) := by rw [hB3.cell]; rfl
  have f1 := hB3.frozen 1
  have e2 : W0.cell? ⟨w.heap.size + 1, 2, none⟩ = some (.int .i64 i2) := by rw [hB3.cell]; rfl
  have f2 := hB3.frozen 2
  have e3 : W0.cell? ⟨w.heap.size + 1, 3, none⟩ = some (.int .i64 i3) := by rw [hB3.cell]; rfl
  have f3 := hB3.frozen 3
  have e4 : W0.cell? ⟨w.heap.size + 1, 4, none⟩ = some (.int .i64 i4) := by rw [hB3.cell]; rfl
  have f4 := hB3.frozen 4
  have e5 : W0.cell? ⟨w.heap.size + 1, 5, none⟩ = some (.int .i64 i5) := by rw [hB3.cell]; rfl
  have f5 := hB3.frozen 5
  have e6 : W0.cell? ⟨w.heap.size + 1, 6, none⟩ = some (.string root) := by rw [hB3.cell]; rfl
  have f6 := hB3.frozen 6
  have e7 : W0.cell? ⟨w.heap.size + 1, 7, none⟩ = some (.string data) := by rw [hB3.cell]; rfl
  have f7 := hB3.frozen 7
  have hlt := hB3.lt
  clear hB1 hB3
  have Hsub := Lib.hid hsub; clear hsub
  go_wp2_with (first | ((with_reducible refine (word_r _ _).mono ?_); rintro e w' ⟨rfl, rfl⟩) | ((with_reducible refine (number_r _ _).mono ?_); rintro e w' ⟨rfl, rfl⟩) | ((with_reducible refine (indexed_r _ _).mono ?_); rintro e w' ⟨rfl, rfl⟩) | ((with_reducible refine (block_r _ _).mono ?_); rintro e w' ⟨rfl, rfl⟩) | ((with_reducible refine (hashed_r _ _).mono ?_); rintro e w' ⟨rfl, rfl⟩) | (refine wpList_eq_agg rfl .eql 26 (.tmp 150) (.tmp 151) 26 rfl _ _ rfl rfl eqg33 dd (by rw [← Hdd.out]; exact msg_eql ⟨0, 0, 0, i3, i4, i5, root, ⟨#[]⟩⟩ (M.only 0) _) ?_))
  go_ret
  exact ⟨rfl, (Below.setCell (Below.setCell (Below.setCell Hsub.out (Nat.le_add_right w.heap.size 1) _) (Nat.le_add_right w.heap.size 1) _) (Nat.le_add_right w.heap.size 1) _)⟩

set_option maxRecDepth 20000 in
set_option maxHeartbeats 2000000 in
theorem vr_pt0 (k i1 i2 i3 i4 i5 : Int) (root data : ByteArray) (h0 : wordR i1 = true) (h1 : wordR i2 = true) (h2 : wordR i3 = true) (h3 : wordR i4 = true) (h4 : wordR i5 = true) (h5 : (k != 1) = true) (h6 : ¬ numR k < 0) (h7 : isIdx k = false) (h8 : (k == 7) = false) (h9 : isBlock k = false) (h10 : (k == 9) = false) (h11 : (k == 11) = true) (h12 : i1 < 1) (w : World) :
    Calls Tryz.prog 45 #[.agg #[.int .i64 k, .int .i64 i1, .int .i64 i2, .int .i64 i3, .int .i64 i4, .int .i64 i5, .string root, .string data]] w fun e w' => e = .returned (.bool false) ∧ Sub w w' := by
  go_enter Tryz.func45, Tryz.ntmps45
  go_wp2_with ((with_reducible refine (word_r _ _).mono ?_); rintro e w' ⟨rfl, rfl⟩)
  have hB1 := (Blk.new w 26 #[.int .i64 k, .int .i64 i1, .int .i64 i2, .int .i64 i3, .int .i64 i4, .int .i64 i5, .string root, .string data]).alloc (.cells #[.int .i64 0, .int .i64 i1, .int .i64 i2, .int .i64 i3, .int .i64 i4, .int .i64 i5, .string root, .string data] 26)
  have hB3 := Blk.new (w.alloc (.cells #[.int .i64 k, .int .i64 i1, .int .i64 i2, .int .i64 i3, .int .i64 i4, .int .i64 i5, .string root, .string data] 26)) 26 #[.int .i64 0, .int .i64 i1, .int .i64 i2, .int .i64 i3, .int .i64 i4, .int .i64 i5, .string root, .string data]
  rw [World.size_alloc] at hB3
  have hsub : Sub w ((w.alloc (.cells #[.int .i64 k, .int .i64 i1, .int .i64 i2, .int .i64 i3, .int .i64 i4, .int .i64 i5, .string root, .string data] 26)).alloc (.cells #[.int .i64 0, .int .i64 i1, .int .i64 i2, .int .i64 i3, .int .i64 i4, .int .i64 i5, .string root, .string data] 26)) := Sub.al (Sub.al Sub.rfl' _) _
  generalize (w.alloc (.cells #[.int .i64 k, .int .i64 i1, .int .i64 i2, .int .i64 i3, .int .i64 i4, .int .i64 i5, .string root, .string data] 26)).alloc (.cells #[.int .i64 0, .int .i64 i1, .int .i64 i2, .int .i64 i3, .int .i64 i4, .int .i64 i5, .string root, .string data] 26) = W0 at *
  have c0 : W0.cell? ⟨w.heap.size, 0, none⟩ = some (.int .i64 k) := by rw [hB1.cell]; rfl
  have c1 : W0.cell? ⟨w.heap.size, 1, none⟩ = some (.int .i64 i1) := by rw [hB1.cell]; rfl
  have c2 : W0.cell? ⟨w.heap.size, 2, none⟩ = some (.int .i64 i2) := by rw [hB1.cell]; rfl
  have c3 : W0.cell? ⟨w.heap.size, 3, none⟩ = some (.int .i64 i3) := by rw [hB1.cell]; rfl
  have c4 : W0.cell? ⟨w.heap.size, 4, none⟩ = some (.int .i64 i4) := by rw [hB1.cell]; rfl
  have c5 : W0.cell? ⟨w.heap.size, 5, none⟩ = some (.int .i64 i5) := by rw [hB1.cell]; rfl
  have c6 : W0.cell? ⟨w.heap.size, 6, none⟩ = some (.string root) := by rw [hB1.cell]; rfl
  have c7 : W0.cell? ⟨w.heap.size, 7, none⟩ = some (.string data) := by rw [hB1.cell]; rfl
  have e0 : W0.cell? ⟨w.heap.size + 1, 0, none⟩ = some (.int .i64 0) := by rw [hB3.cell]; rfl
  have f0 := hB3.frozen 0
  have e1 : W0.cell? ⟨w.heap.size + 1, 1, none⟩ = some (.int .i64 i1) := by rw [hB3.cell]; rfl
  have f1 := hB3.frozen 1
  have e2 : W0.cell? ⟨w.heap.size + 1, 2, none⟩ = some (.int .i64 i2) := by rw [hB3.cell]; rfl
  have f2 := hB3.frozen 2
  have e3 : W0.cell? ⟨w.heap.size + 1, 3, none⟩ = some (.int .i64 i3) := by rw [hB3.cell]; rfl
  have f3 := hB3.frozen 3
  have e4 : W0.cell? ⟨w.heap.size + 1, 4, none⟩ = some (.int .i64 i4) := by rw [hB3.cell]; rfl
  have f4 := hB3.frozen 4
  have e5 : W0.cell? ⟨w.heap.size + 1, 5, none⟩ = some (.int .i64 i5) := by rw [hB3.cell]; rfl
  have f5 := hB3.frozen 5
  have e6 : W0.cell? ⟨w.heap.size + 1, 6, none⟩ = some (.string root) := by rw [hB3.cell]; rfl
  have f6 := hB3.frozen 6
  have e7 : W0.cell? ⟨w.heap.size + 1, 7, none⟩ = some (.string data) := by rw [hB3.cell]; rfl
  have f7 := hB3.frozen 7
  have hlt := hB3.lt
  clear hB1 hB3
  have Hsub := Lib.hid hsub; clear hsub
  go_wp2_with (first | ((with_reducible refine (word_r _ _).mono ?_); rintro e w' ⟨rfl, rfl⟩) | ((with_reducible refine (number_r _ _).mono ?_); rintro e w' ⟨rfl, rfl⟩) | ((with_reducible refine (indexed_r _ _).mono ?_); rintro e w' ⟨rfl, rfl⟩) | ((with_reducible refine (block_r _ _).mono ?_); rintro e w' ⟨rfl, rfl⟩) | ((with_reducible refine (hashed_r _ _).mono ?_); rintro e w' ⟨rfl, rfl⟩))
  go_ret
  exact ⟨rfl, (Below.setCell Hsub.out (Nat.le_add_right w.heap.size 1) _)⟩

set_option maxRecDepth 20000 in
set_option maxHeartbeats 2000000 in
theorem vr_pt1 (k i1 i2 i3 i4 i5 : Int) (root data : ByteArray) (h0 : wordR i1 = true) (h1 : wordR i2 = true) (h2 : wordR i3 = true) (h3 : wordR i4 = true) (h4 : wordR i5 = true) (h5 : (k != 1) = true) (h6 : ¬ numR k < 0) (h7 : isIdx k = false) (h8 : (k == 7) = false) (h9 : isBlock k = false) (h10 : (k == 9) = false) (h11 : (k == 11) = true) (h12 : ¬ i1 < 1) (h13 : 65535 < i1) (w : World) :
    Calls Tryz.prog 45 #[.agg #[.int .i64 k, .int .i64 i1, .int .i64 i2, .int .i64 i3, .int .i64 i4, .int .i64 i5, .string root, .string data]] w fun e w' => e = .returned (.bool false) ∧ Sub w w' := by
  go_enter Tryz.func45, Tryz.ntmps45
  go_wp2_with ((with_reducible refine (word_r _ _).mono ?_); rintro e w' ⟨rfl, rfl⟩)
  have hB1 := (Blk.new w 26 #[.int .i64 k, .int .i64 i1, .int .i64 i2, .int .i64 i3, .int .i64 i4, .int .i64 i5, .string root, .string data]).alloc (.cells #[.int .i64 0, .int .i64 i1, .int .i64 i2, .int .i64 i3, .int .i64 i4, .int .i64 i5, .string root, .string data] 26)
  have hB3 := Blk.new (w.alloc (.cells #[.int .i64 k, .int .i64 i1, .int .i64 i2, .int .i64 i3, .int .i64 i4, .int .i64 i5, .string root, .string data] 26)) 26 #[.int .i64 0, .int .i64 i1, .int .i64 i2, .int .i64 i3, .int .i64 i4, .int .i64 i5, .string root, .string data]
  rw [World.size_alloc] at hB3
  have hsub : Sub w ((w.alloc (.cells #[.int .i64 k, .int .i64 i1, .int .i64 i2, .int .i64 i3, .int .i64 i4, .int .i64 i5, .string root, .string data] 26)).alloc (.cells #[.int .i64 0, .int .i64 i1, .int .i64 i2, .int .i64 i3, .int .i64 i4, .int .i64 i5, .string root, .string data] 26)) := Sub.al (Sub.al Sub.rfl' _) _
  generalize (w.alloc (.cells #[.int .i64 k, .int .i64 i1, .int .i64 i2, .int .i64 i3, .int .i64 i4, .int .i64 i5, .string root, .string data] 26)).alloc (.cells #[.int .i64 0, .int .i64 i1, .int .i64 i2, .int .i64 i3, .int .i64 i4, .int .i64 i5, .string root, .string data] 26) = W0 at *
  have c0 : W0.cell? ⟨w.heap.size, 0, none⟩ = some (.int .i64 k) := by rw [hB1.cell]; rfl
  have c1 : W0.cell? ⟨w.heap.size, 1, none⟩ = some (.int .i64 i1) := by rw [hB1.cell]; rfl
  have c2 : W0.cell? ⟨w.heap.size, 2, none⟩ = some (.int .i64 i2) := by rw [hB1.cell]; rfl
  have c3 : W0.cell? ⟨w.heap.size, 3, none⟩ = some (.int .i64 i3) := by rw [hB1.cell]; rfl
  have c4 : W0.cell? ⟨w.heap.size, 4, none⟩ = some (.int .i64 i4) := by rw [hB1.cell]; rfl
  have c5 : W0.cell? ⟨w.heap.size, 5, none⟩ = some (.int .i64 i5) := by rw [hB1.cell]; rfl
  have c6 : W0.cell? ⟨w.heap.size, 6, none⟩ = some (.string root) := by rw [hB1.cell]; rfl
  have c7 : W0.cell? ⟨w.heap.size, 7, none⟩ = some (.string data) := by rw [hB1.cell]; rfl
  have e0 : W0.cell? ⟨w.heap.size + 1, 0, none⟩ = some (.int .i64 0) := by rw [hB3.cell]; rfl
  have f0 := hB3.frozen 0
  have e1 : W0.cell? ⟨w.heap.size + 1, 1, none⟩ = some (.int .i64 i1) := by rw [hB3.cell]; rfl
  have f1 := hB3.frozen 1
  have e2 : W0.cell? ⟨w.heap.size + 1, 2, none⟩ = some (.int .i64 i2) := by rw [hB3.cell]; rfl
  have f2 := hB3.frozen 2
  have e3 : W0.cell? ⟨w.heap.size + 1, 3, none⟩ = some (.int .i64 i3) := by rw [hB3.cell]; rfl
  have f3 := hB3.frozen 3
  have e4 : W0.cell? ⟨w.heap.size + 1, 4, none⟩ = some (.int .i64 i4) := by rw [hB3.cell]; rfl
  have f4 := hB3.frozen 4
  have e5 : W0.cell? ⟨w.heap.size + 1, 5, none⟩ = some (.int .i64 i5) := by rw [hB3.cell]; rfl
  have f5 := hB3.frozen 5
  have e6 : W0.cell? ⟨w.heap.size + 1, 6, none⟩ = some (.string root) := by rw [hB3.cell]; rfl
  have f6 := hB3.frozen 6
  have e7 : W0.cell? ⟨w.heap.size + 1, 7, none⟩ = some (.string data) := by rw [hB3.cell]; rfl
  have f7 := hB3.frozen 7
  have hlt := hB3.lt
  clear hB1 hB3
  have Hsub := Lib.hid hsub; clear hsub
  go_wp2_with (first | ((with_reducible refine (word_r _ _).mono ?_); rintro e w' ⟨rfl, rfl⟩) | ((with_reducible refine (number_r _ _).mono ?_); rintro e w' ⟨rfl, rfl⟩) | ((with_reducible refine (indexed_r _ _).mono ?_); rintro e w' ⟨rfl, rfl⟩) | ((with_reducible refine (block_r _ _).mono ?_); rintro e w' ⟨rfl, rfl⟩) | ((with_reducible refine (hashed_r _ _).mono ?_); rintro e w' ⟨rfl, rfl⟩))
  go_ret
  exact ⟨rfl, (Below.setCell Hsub.out (Nat.le_add_right w.heap.size 1) _)⟩

set_option maxRecDepth 20000 in
set_option maxHeartbeats 2000000 in
theorem vr_pt2 (k i1 i2 i3 i4 i5 : Int) (root data : ByteArray) (h0 : wordR i1 = true) (h1 : wordR i2 = true) (h2 : wordR i3 = true) (h3 : wordR i4 = true) (h4 : wordR i5 = true) (h5 : (k != 1) = true) (h6 : ¬ numR k < 0) (h7 : isIdx k = false) (h8 : (k == 7) = false) (h9 : isBlock k = false) (h10 : (k == 9) = false) (h11 : (k == 11) = true) (h12 : ¬ i1 < 1) (h13 : ¬ 65535 < i1) (w : World) :
    Calls Tryz.prog 45 #[.agg #[.int .i64 k, .int .i64 i1, .int .i64 i2, .int .i64 i3, .int .i64 i4, .int .i64 i5, .string root, .string data]] w fun e w' => e = .returned (.bool (decide ((⟨0, 0, i2, i3, i4, i5, root, data⟩ : M) = M.only 0))) ∧ Sub w w' := by
  generalize hdd : decide ((⟨0, 0, i2, i3, i4, i5, root, data⟩ : M) = M.only 0) = dd
  have Hdd := Lib.hid hdd; clear hdd
  go_enter Tryz.func45, Tryz.ntmps45
  go_wp2_with ((with_reducible refine (word_r _ _).mono ?_); rintro e w' ⟨rfl, rfl⟩)
  have hB1 := (Blk.new w 26 #[.int .i64 k, .int .i64 i1, .int .i64 i2, .int .i64 i3, .int .i64 i4, .int .i64 i5, .string root, .string data]).alloc (.cells #[.int .i64 0, .int .i64 i1, .int .i64 i2, .int .i64 i3, .int .i64 i4, .int .i64 i5, .string root, .string data] 26)
  have hB3 := Blk.new (w.alloc (.cells #[.int .i64 k, .int .i64 i1, .int .i64 i2, .int .i64 i3, .int .i64 i4, .int .i64 i5, .string root, .string data] 26)) 26 #[.int .i64 0, .int .i64 i1, .int .i64 i2, .int .i64 i3, .int .i64 i4, .int .i64 i5, .string root, .string data]
  rw [World.size_alloc] at hB3
  have hsub : Sub w ((w.alloc (.cells #[.int .i64 k, .int .i64 i1, .int .i64 i2, .int .i64 i3, .int .i64 i4, .int .i64 i5, .string root, .string data] 26)).alloc (.cells #[.int .i64 0, .int .i64 i1, .int .i64 i2, .int .i64 i3, .int .i64 i4, .int .i64 i5, .string root, .string data] 26)) := Sub.al (Sub.al Sub.rfl' _) _
  generalize (w.alloc (.cells #[.int .i64 k, .int .i64 i1, .int .i64 i2, .int .i64 i3, .int .i64 i4, .int .i64 i5, .string root, .string data] 26)).alloc (.cells #[.int .i64 0, .int .i64 i1, .int .i64 i2, .int .i64 i3, .int .i64 i4, .int .i64 i5, .string root, .string data] 26) = W0 at *
  have c0 : W0.cell? ⟨w.heap.size, 0, none⟩ = some (.int .i64 k) := by rw [hB1.cell]; rfl
  have c1 : W0.cell? ⟨w.heap.size, 1, none⟩ = some (.int .i64 i1) := by rw [hB1.cell]; rfl
  have c2 : W0.cell? ⟨w.heap.size, 2, none⟩ = some (.int .i64 i2) := by rw [hB1.cell]; rfl
  have c3 : W0.cell? ⟨w.heap.size, 3, none⟩ = some (.int .i64 i3) := by rw [hB1.cell]; rfl
  have c4 : W0.cell? ⟨w.heap.size, 4, none⟩ = some (.int .i64 i4) := by rw [hB1.cell]; rfl
  have c5 : W0.cell? ⟨w.heap.size, 5, none⟩ = some (.int .i64 i5) := by rw [hB1.cell]; rfl
  have c6 : W0.cell? ⟨w.heap.size, 6, none⟩ = some (.string root) := by rw [hB1.cell]; rfl
  have c7 : W0.cell? ⟨w.heap.size, 7, none⟩ = some (.string data) := by rw [hB1.cell]; rfl
  have e0 : W0.cell? ⟨w.heap.size + 1, 0, none⟩ = some (.int .i64 0) := by rw [hB3.cell]; rfl
  have f0 := hB3.frozen 0
  have e1 : W0.cell? ⟨w.heap.size + 1, 1, none⟩ = some (.int .i64 i1) := by rw [hB3.cell]; rfl
  have f1 := hB3.frozen 1
  have e2 : W0.cell? ⟨w.heap.size + 1, 2, none⟩ = some (.int .i64 i2) := by rw [hB3.cell]; rfl
  have f2 := hB3.frozen 2
  have e3 : W0.cell? ⟨w.heap.size + 1, 3, none⟩ = some (.int .i64 i3) := by rw [hB3.cell]; rfl
  have f3 := hB3.frozen 3
  have e4 : W0.cell? ⟨w.heap.size + 1, 4, none⟩ = some (.int .i64 i4) := by rw [hB3.cell]; rfl
  have f4 := hB3.frozen 4
  have e5 : W0.cell? ⟨w.heap.size + 1, 5, none⟩ = some (.int .i64 i5) := by rw [hB3.cell]; rfl
  have f5 := hB3.frozen 5
  have e6 : W0.cell? ⟨w.heap.size + 1, 6, none⟩ = some (.string root) := by rw [hB3.cell]; rfl
  have f6 := hB3.frozen 6
  have e7 : W0.cell? ⟨w.heap.size + 1, 7, none⟩ = some (.string data) := by rw [hB3.cell]; rfl
  have f7 := hB3.frozen 7
  have hlt := hB3.lt
  clear hB1 hB3
  have Hsub := Lib.hid hsub; clear hsub
  go_wp2_with (first | ((with_reducible refine (word_r _ _).mono ?_); rintro e w' ⟨rfl, rfl⟩) | ((with_reducible refine (number_r _ _).mono ?_); rintro e w' ⟨rfl, rfl⟩) | ((with_reducible refine (indexed_r _ _).mono ?_); rintro e w' ⟨rfl, rfl⟩) | ((with_reducible refine (block_r _ _).mono ?_); rintro e w' ⟨rfl, rfl⟩) | ((with_reducible refine (hashed_r _ _).mono ?_); rintro e w' ⟨rfl, rfl⟩) | (refine wpList_eq_agg rfl .eql 26 (.tmp 150) (.tmp 151) 26 rfl _ _ rfl rfl eqg33 dd (by rw [← Hdd.out]; exact msg_eql ⟨0, 0, i2, i3, i4, i5, root, data⟩ (M.only 0) _) ?_))
  go_ret
  exact ⟨rfl, (Below.setCell Hsub.out (Nat.le_add_right w.heap.size 1) _)⟩

set_option maxRecDepth 20000 in
set_option maxHeartbeats 2000000 in
theorem vr_ex0 (k i1 i2 i3 i4 i5 : Int) (root data : ByteArray) (h0 : wordR i1 = true) (h1 : wordR i2 = true) (h2 : wordR i3 = true) (h3 : wordR i4 = true) (h4 : wordR i5 = true) (h5 : (k != 1) = true) (h6 : ¬ numR k < 0) (h7 : isIdx k = false) (h8 : (k == 7) = false) (h9 : isBlock k = false) (h10 : (k == 9) = false) (h11 : (k == 11) = false) (h12 : (k == 17) = true) (h13 : 255 < i1) (w : World) :
    Calls Tryz.prog 45 #[.agg #[.int .i64 k, .int .i64 i1, .int .i64 i2, .int .i64 i3, .int .i64 i4, .int .i64 i5, .string root, .string data]] w fun e w' => e = .returned (.bool false) ∧ Sub w w' := by
  go_enter Tryz.func45, Tryz.ntmps45
  go_wp2_with ((with_reducible refine (word_r _ _).mono ?_); rintro e w' ⟨rfl, rfl⟩)
  have hB1 := (Blk.new w 26 #[.int .i64 k, .int .i64 i1, .int .i64 i2, .int .i64 i3, .int .i64 i4, .int .i64 i5, .string root, .string data]).alloc (.cells #[.int .i64 0, .int .i64 i1, .int .i64 i2, .int .i64 i3, .int .i64 i4, .int .i64 i5, .string root, .string data] 26)
  have hB3 := Blk.new (w.alloc (.cells #[.int .i64 k, .int .i64 i1, .int .i64 i2, .int .i64 i3, .int .i64 i4, .int .i64 i5, .string root, .string data] 26)) 26 #[.int .i64 0, .int .i64 i1, .int .i64 i2, .int .i64 i3, .int .i64 i4, .int .i64 i5, .string root, .string data]
  rw [World.size_alloc] at hB3
  have hsub : Sub w ((w.alloc (.cells #[.int .i64 k, .int .i64 i1, .int .i64 i2, .int .i64 i3, .int .i64 i4, .int .i64 i5, .string root, .string data] 26)).alloc (.cells #[.int .i64 0, .int .i64 i1, .int .i64 i2, .int .i64 i3, .int .i64 i4, .int .i64 i5, .string root, .string data] 26)) := Sub.al (Sub.al Sub.rfl' _) _
  generalize (w.alloc (.cells #[.int .i64 k, .int .i64 i1, .int .i64 i2, .int .i64 i3, .int .i64 i4, .int .i64 i5, .string root, .string data] 26)).alloc (.cells #[.int .i64 0, .int .i64 i1, .int .i64 i2, .int .i64 i3, .int .i64 i4, .int .i64 i5, .string root, .string data] 26) = W0 at *
  have c0 : W0.cell? ⟨w.heap.size, 0, none⟩ = some (.int .i64 k) := by rw [hB1.cell]; rfl
  have c1 : W0.cell? ⟨w.heap.size, 1, none⟩ = some (.int .i64 i1) := by rw [hB1.cell]; rfl
  have c2 : W0.cell? ⟨w.heap.size, 2, none⟩ = some (.int .i64 i2) := by rw [hB1.cell]; rfl
  have c3 : W0.cell? ⟨w.heap.size, 3, none⟩ = some (.int .i64 i3) := by rw [hB1.cell]; rfl
  have c4 : W0.cell? ⟨w.heap.size, 4, none⟩ = some (.int .i64 i4) := by rw [hB1.cell]; rfl
  have c5 : W0.cell? ⟨w.heap.size, 5, none⟩ = some (.int .i64 i5) := by rw [hB1.cell]; rfl
  have c6 : W0.cell? ⟨w.heap.size, 6, none⟩ = some (.string root) := by rw [hB1.cell]; rfl
  have c7 : W0.cell? ⟨w.heap.size, 7, none⟩ = some (.string data) := by rw [hB1.cell]; rfl
  have e0 : W0.cell? ⟨w.heap.size + 1, 0, none⟩ = some (.int .i64 0) := by rw [hB3.cell]; rfl
  have f0 := hB3.frozen 0
  have e1 : W0.cell? ⟨w.heap.size + 1, 1, none⟩ = some (.int .i64 i1) := by rw [hB3.cell]; rfl
  have f1 := hB3.frozen 1
  have e2 : W0.cell? ⟨w.heap.size + 1, 2, none⟩ = some (.int .i64 i2) := by rw [hB3.cell]; rfl
  have f2 := hB3.frozen 2
  have e3 : W0.cell? ⟨w.heap.size + 1, 3, none⟩ = some (.int .i64 i3) := by rw [hB3.cell]; rfl
  have f3 := hB3.frozen 3
  have e4 : W0.cell? ⟨w.heap.size + 1, 4, none⟩ = some (.int .i64 i4) := by rw [hB3.cell]; rfl
  have f4 := hB3.frozen 4
  have e5 : W0.cell? ⟨w.heap.size + 1, 5, none⟩ = some (.int .i64 i5) := by rw [hB3.cell]; rfl
  have f5 := hB3.frozen 5
  have e6 : W0.cell? ⟨w.heap.size + 1, 6, none⟩ = some (.string root) := by rw [hB3.cell]; rfl
  have f6 := hB3.frozen 6
  have e7 : W0.cell? ⟨w.heap.size + 1, 7, none⟩ = some (.string data) := by rw [hB3.cell]; rfl
  have f7 := hB3.frozen 7
  have hlt := hB3.lt
  clear hB1 hB3
  have Hsub := Lib.hid hsub; clear hsub
  go_wp2_with (first | ((with_reducible refine (word_r _ _).mono ?_); rintro e w' ⟨rfl, rfl⟩) | ((with_reducible refine (number_r _ _).mono ?_); rintro e w' ⟨rfl, rfl⟩) | ((with_reducible refine (indexed_r _ _).mono ?_); rintro e w' ⟨rfl, rfl⟩) | ((with_reducible refine (block_r _ _).mono ?_); rintro e w' ⟨rfl, rfl⟩) | ((with_reducible refine (hashed_r _ _).mono ?_); rintro e w' ⟨rfl, rfl⟩))
  go_ret
  exact ⟨rfl, (Below.setCell (Below.setCell Hsub.out (Nat.le_add_right w.heap.size 1) _) (Nat.le_add_right w.heap.size 1) _)⟩

set_option maxRecDepth 20000 in
set_option maxHeartbeats 2000000 in
theorem vr_ex1 (k i1 i2 i3 i4 i5 : Int) (root data : ByteArray) (h0 : wordR i1 = true) (h1 : wordR i2 = true) (h2 : wordR i3 = true) (h3 : wordR i4 = true) (h4 : wordR i5 = true) (h5 : (k != 1) = true) (h6 : ¬ numR k < 0) (h7 : isIdx k = false) (h8 : (k == 7) = false) (h9 : isBlock k = false) (h10 : (k == 9) = false) (h11 : (k == 11) = false) (h12 : (k == 17) = true) (h13 : ¬ 255 < i1) (h14 : (4096 : Int) < data.size) (w : World) :
    Calls Tryz.prog 45 #[.agg #[.int .i64 k, .int .i64 i1, .int .i64 i2, .int .i64 i3, .int .i64 i4, .int .i64 i5, .string root, .string data]] w fun e w' => e = .returned (.bool false) ∧ Sub w w' := by
  go_enter Tryz.func45, Tryz.ntmps45
  go_wp2_with ((with_reducible refine (word_r _ _).mono ?_); rintro e w' ⟨rfl, rfl⟩)
  have hB1 := (Blk.new w 26 #[.int .i64 k, .int .i64 i1, .int .i64 i2, .int .i64 i3, .int .i64 i4, .int .i64 i5, .string root, .string data]).alloc (.cells #[.int .i64 0, .int .i64 i1, .int .i64 i2, .int .i64 i3, .int .i64 i4, .int .i64 i5, .string root, .string data] 26)
  have hB3 := Blk.new (w.alloc (.cells #[.int .i64 k, .int .i64 i1, .int .i64 i2, .int .i64 i3, .int .i64 i4, .int .i64 i5, .string root, .string data] 26)) 26 #[.int .i64 0, .int .i64 i1, .int .i64 i2, .int .i64 i3, .int .i64 i4, .int .i64 i5, .string root, .string data]
  rw [World.size_alloc] at hB3
  have hsub : Sub w ((w.alloc (.cells #[.int .i64 k, .int .i64 i1, .int .i64 i2, .int .i64 i3, .int .i64 i4, .int .i64 i5, .string root, .string data] 26)).alloc (.cells #[.int .i64 0, .int .i64 i1, .int .i64 i2, .int .i64 i3, .int .i64 i4, .int .i64 i5, .string root, .string data] 26)) := Sub.al (Sub.al Sub.rfl' _) _
  generalize (w.alloc (.cells #[.int .i64 k, .int .i64 i1, .int .i64 i2, .int .i64 i3, .int .i64 i4, .int .i64 i5, .string root, .string data] 26)).alloc (.cells #[.int .i64 0, .int .i64 i1, .int .i64 i2, .int .i64 i3, .int .i64 i4, .int .i64 i5, .string root, .string data] 26) = W0 at *
  have c0 : W0.cell? ⟨w.heap.size, 0, none⟩ = some (.int .i64 k) := by rw [hB1.cell]; rfl
  have c1 : W0.cell? ⟨w.heap.size, 1, none⟩ = some (.int .i64 i1) := by rw [hB1.cell]; rfl
  have c2 : W0.cell? ⟨w.heap.size, 2, none⟩ = some (.int .i64 i2) := by rw [hB1.cell]; rfl
  have c3 : W0.cell? ⟨w.heap.size, 3, none⟩ = some (.int .i64 i3) := by rw [hB1.cell]; rfl
  have c4 : W0.cell? ⟨w.heap.size, 4, none⟩ = some (.int .i64 i4) := by rw [hB1.cell]; rfl
  have c5 : W0.cell? ⟨w.heap.size, 5, none⟩ = some (.int .i64 i5) := by rw [hB1.cell]; rfl
  have c6 : W0.cell? ⟨w.heap.size, 6, none⟩ = some (.string root) := by rw [hB1.cell]; rfl
  have c7 : W0.cell? ⟨w.heap.size, 7, none⟩ = some (.string data) := by rw [hB1.cell]; rfl
  have e0 : W0.cell? ⟨w.heap.size + 1, 0, none⟩ = some (.int .i64 0) := by rw [hB3.cell]; rfl
  have f0 := hB3.frozen 0
  have e1 : W0.cell? ⟨w.heap.size + 1, 1, none⟩ = some (.int .i64 i1) := by rw [hB3.cell]; rfl
  have f1 := hB3.frozen 1
  have e2 : W0.cell? ⟨w.heap.size + 1, 2, none⟩ = some (.int .i64 i2) := by rw [hB3.cell]; rfl
  have f2 := hB3.frozen 2
  have e3 : W0.cell? ⟨w.heap.size + 1, 3, none⟩ = some (.int .i64 i3) := by rw [hB3.cell]; rfl
  have f3 := hB3.frozen 3
  have e4 : W0.cell? ⟨w.heap.size + 1, 4, none⟩ = some (.int .i64 i4) := by rw [hB3.cell]; rfl
  have f4 := hB3.frozen 4
  have e5 : W0.cell? ⟨w.heap.size + 1, 5, none⟩ = some (.int .i64 i5) := by rw [hB3.cell]; rfl
  have f5 := hB3.frozen 5
  have e6 : W0.cell? ⟨w.heap.size + 1, 6, none⟩ = some (.string root) := by rw [hB3.cell]; rfl
  have f6 := hB3.frozen 6
  have e7 : W0.cell? ⟨w.heap.size + 1, 7, none⟩ = some (.string data) := by rw [hB3.cell]; rfl
  have f7 := hB3.frozen 7
  have hlt := hB3.lt
  clear hB1 hB3
  have Hsub := Lib.hid hsub; clear hsub
  go_wp2_with (first | ((with_reducible refine (word_r _ _).mono ?_); rintro e w' ⟨rfl, rfl⟩) | ((with_reducible refine (number_r _ _).mono ?_); rintro e w' ⟨rfl, rfl⟩) | ((with_reducible refine (indexed_r _ _).mono ?_); rintro e w' ⟨rfl, rfl⟩) | ((with_reducible refine (block_r _ _).mono ?_); rintro e w' ⟨rfl, rfl⟩) | ((with_reducible refine (hashed_r _ _).mono ?_); rintro e w' ⟨rfl, rfl⟩))
  go_ret
  exact ⟨rfl, (Below.setCell (Below.setCell Hsub.out (Nat.le_add_right w.heap.size 1) _) (Nat.le_add_right w.heap.size 1) _)⟩

set_option maxRecDepth 20000 in
set_option maxHeartbeats 2000000 in
theorem vr_ex2 (k i1 i2 i3 i4 i5 : Int) (root data : ByteArray) (h0 : wordR i1 = true) (h1 : wordR i2 = true) (h2 : wordR i3 = true) (h3 : wordR i4 = true) (h4 : wordR i5 = true) (h5 : (k != 1) = true) (h6 : ¬ numR k < 0) (h7 : isIdx k = false) (h8 : (k == 7) = false) (h9 : isBlock k = false) (h10 : (k == 9) = false) (h11 : (k == 11) = false) (h12 : (k == 17) = true) (h13 : ¬ 255 < i1) (h14 : ¬ (4096 : Int) < data.size) (w : World) :
    Calls Tryz.prog 45 #[.agg #[.int .i64 k, .int .i64 i1, .int .i64 i2, .int .i64 i3, .int .i64 i4, .int .i64 i5, .string root, .string data]] w fun e w' => e = .returned (.bool (decide ((⟨0, 0, i2, i3, i4, i5, root, ⟨#[]⟩⟩ : M) = M.only 0))) ∧ Sub w w' := by
  generalize hdd : decide ((⟨0, 0, i2, i3, i4, i5, root, ⟨#[]⟩⟩ : M) = M.only 0) = dd
  have Hdd := Lib.hid hdd; clear hdd
  go_enter Tryz.func45, Tryz.ntmps45
  go_wp2_with ((with_reducible refine (word_r _ _).mono ?_); rintro e w' ⟨rfl, rfl⟩)
  have hB1 := (Blk.new w 26 #[.int .i64 k, .int .i64 i1, .int .i64 i2, .int .i64 i3, .int .i64 i4, .int .i64 i5, .string root, .string data]).alloc (.cells #[.int .i64 0, .int .i64 i1, .int .i64 i2, .int .i64 i3, .int .i64 i4, .int .i64 i5, .string root, .string data] 26)
  have hB3 := Blk.new (w.alloc (.cells #[.int .i64 k, .int .i64 i1, .int .i64 i2, .int .i64 i3, .int .i64 i4, .int .i64 i5, .string root, .string data] 26)) 26 #[.int .i64 0, .int .i64 i1, .int .i64 i2, .int .i64 i3, .int .i64 i4, .int .i64 i5, .string root, .string data]
  rw [World.size_alloc] at hB3
  have hsub : Sub w ((w.alloc (.cells #[.int .i64 k, .int .i64 i1, .int .i64 i2, .int .i64 i3, .int .i64 i4, .int .i64 i5, .string root, .string data] 26)).alloc (.cells #[.int .i64 0, .int .i64 i1, .int .i64 i2, .int .i64 i3, .int .i64 i4, .int .i64 i5, .string root, .string data] 26)) := Sub.al (Sub.al Sub.rfl' _) _
  generalize (w.alloc (.cells #[.int .i64 k, .int .i64 i1, .int .i64 i2, .int .i64 i3, .int .i64 i4, .int .i64 i5, .string root, .string data] 26)).alloc (.cells #[.int .i64 0, .int .i64 i1, .int .i64 i2, .int .i64 i3, .int .i64 i4, .int .i64 i5, .string root, .string data] 26) = W0 at *
  have c0 : W0.cell? ⟨w.heap.size, 0, none⟩ = some (.int .i64 k) := by rw [hB1.cell]; rfl
  have c1 : W0.cell? ⟨w.heap.size, 1, none⟩ = some (.int .i64 i1) := by rw [hB1.cell]; rfl
  have c2 : W0.cell? ⟨w.heap.size, 2, none⟩ = some (.int .i64 i2) := by rw [hB1.cell]; rfl
  have c3 : W0.cell? ⟨w.heap.size, 3, none⟩ = some (.int .i64 i3) := by rw [hB1.cell]; rfl
  have c4 : W0.cell? ⟨w.heap.size, 4, none⟩ = some (.int .i64 i4) := by rw [hB1.cell]; rfl
  have c5 : W0.cell? ⟨w.heap.size, 5, none⟩ = some (.int .i64 i5) := by rw [hB1.cell]; rfl
  have c6 : W0.cell? ⟨w.heap.size, 6, none⟩ = some (.string root) := by rw [hB1.cell]; rfl
  have c7 : W0.cell? ⟨w.heap.size, 7, none⟩ = some (.string data) := by rw [hB1.cell]; rfl
  have e0 : W0.cell? ⟨w.heap.size + 1, 0, none⟩ = some (.int .i64 0) := by rw [hB3.cell]; rfl
  have f0 := hB3.frozen 0
  have e1 : W0.cell? ⟨w.heap.size + 1, 1, none⟩ = some (.int .i64 i1) := by rw [hB3.cell]; rfl
  have f1 := hB3.frozen 1
  have e2 : W0.cell? ⟨w.heap.size + 1, 2, none⟩ = some (.int .i64 i2) := by rw [hB3.cell]; rfl
  have f2 := hB3.frozen 2
  have e3 : W0.cell? ⟨w.heap.size + 1, 3, none⟩ = some (.int .i64 i3) := by rw [hB3.cell]; rfl
  have f3 := hB3.frozen 3
  have e4 : W0.cell? ⟨w.heap.size + 1, 4, none⟩ = some (.int .i64 i4) := by rw [hB3.cell]; rfl
  have f4 := hB3.frozen 4
  have e5 : W0.cell? ⟨w.heap.size + 1, 5, none⟩ = some (.int .i64 i5) := by rw [hB3.cell]; rfl
  have f5 := hB3.frozen 5
  have e6 : W0.cell? ⟨w.heap.size + 1, 6, none⟩ = some (.string root) := by rw [hB3.cell]; rfl
  have f6 := hB3.frozen 6
  have e7 : W0.cell? ⟨w.heap.size + 1, 7, none⟩ = some (.string data) := by rw [hB3.cell]; rfl
  have f7 := hB3.frozen 7
  have hlt := hB3.lt
  clear hB1 hB3
  have Hsub := Lib.hid hsub; clear hsub
  go_wp2_with (first | ((with_reducible refine (word_r _ _).mono ?_); rintro e w' ⟨rfl, rfl⟩) | ((with_reducible refine (number_r _ _).mono ?_); rintro e w' ⟨rfl, rfl⟩) | ((with_reducible refine (indexed_r _ _).mono ?_); rintro e w' ⟨rfl, rfl⟩) | ((with_reducible refine (block_r _ _).mono ?_); rintro e w' ⟨rfl, rfl⟩) | ((with_reducible refine (hashed_r _ _).mono ?_); rintro e w' ⟨rfl, rfl⟩) | (refine wpList_eq_agg rfl .eql 26 (.tmp 150) (.tmp 151) 26 rfl _ _ rfl rfl eqg33 dd (by rw [← Hdd.out]; exact msg_eql ⟨0, 0, i2, i3, i4, i5, root, ⟨#[]⟩⟩ (M.only 0) _) ?_))
  go_ret
  exact ⟨rfl, (Below.setCell (Below.setCell Hsub.out (Nat.le_add_right w.heap.size 1) _) (Nat.le_add_right w.heap.size 1) _)⟩

set_option maxRecDepth 20000 in
set_option maxHeartbeats 2000000 in
theorem vr_h0 (k i1 i2 i3 i4 i5 : Int) (root data : ByteArray) (h0 : wordR i1 = true) (h1 : wordR i2 = true) (h2 : wordR i3 = true) (h3 : wordR i4 = true) (h4 : wordR i5 = true) (h5 : (k != 1) = true) (h6 : ¬ numR k < 0) (h7 : isIdx k = false) (h8 : (k == 7) = false) (h9 : isBlock k = false) (h10 : (k == 9) = false) (h11 : (k == 11) = false) (h12 : (k == 17) = false) (h13 : isHash k = true) (h14 : ((root.size : Int) != 32) = true) (w : World) :
    Calls Tryz.prog 45 #[.agg #[.int .i64 k, .int .i64 i1, .int .i64 i2, .int .i64 i3, .int .i64 i4, .int .i64 i5, .string root, .string data]] w fun e w' => e = .returned (.bool false) ∧ Sub w w' := by
  go_enter Tryz.func45, Tryz.ntmps45
  go_wp2_with ((with_reducible refine (word_r _ _).mono ?_); rintro e w' ⟨rfl, rfl⟩)
  have hB1 := (Blk.new w 26 #[.int .i64 k, .int .i64 i1, .int .i64 i2, .int .i64 i3, .int .i64 i4, .int .i64 i5, .string root, .string data]).alloc (.cells #[.int .i64 0, .int .i64 i1, .int .i64 i2, .int .i64 i3, .int .i64 i4, .int .i64 i5, .string root, .string data] 26)
  have hB3 := Blk.new (w.alloc (.cells #[.int .i64 k, .int .i64 i1, .int .i64 i2, .int .i64 i3, .int .i64 i4, .int .i64 i5, .string root, .string data] 26)) 26 #[.int .i64 0, .int .i64 i1, .int .i64 i2, .int .i64 i3, .int .i64 i4, .int .i64 i5, .string root, .string data]
  rw [World.size_alloc] at hB3
  have hsub : Sub w ((w.alloc (.cells #[.int .i64 k, .int .i64 i1, .int .i64 i2, .int .i64 i3, .int .i64 i4, .int .i64 i5, .string root, .string data] 26)).alloc (.cells #[.int .i64 0, .int .i64 i1, .int .i64 i2, .int .i64 i3, .int .i64 i4, .int .i64 i5, .string root, .string data] 26)) := Sub.al (Sub.al Sub.rfl' _) _
  generalize (w.alloc (.cells #[.int .i64 k, .int .i64 i1, .int .i64 i2, .int .i64 i3, .int .i64 i4, .int .i64 i5, .string root, .string data] 26)).alloc (.cells #[.int .i64 0, .int .i64 i1, .int .i64 i2, .int .i64 i3, .int .i64 i4, .int .i64 i5, .string root, .string data] 26) = W0 at *
  have c0 : W0.cell? ⟨w.heap.size, 0, none⟩ = some (.int .i64 k) := by rw [hB1.cell]; rfl
  have c1 : W0.cell? ⟨w.heap.size, 1, none⟩ = some (.int .i64 i1) := by rw [hB1.cell]; rfl
  have c2 : W0.cell? ⟨w.heap.size, 2, none⟩ = some (.int .i64 i2) := by rw [hB1.cell]; rfl
  have c3 : W0.cell? ⟨w.heap.size, 3, none⟩ = some (.int .i64 i3) := by rw [hB1.cell]; rfl
  have c4 : W0.cell? ⟨w.heap.size, 4, none⟩ = some (.int .i64 i4) := by rw [hB1.cell]; rfl
  have c5 : W0.cell? ⟨w.heap.size, 5, none⟩ = some (.int .i64 i5) := by rw [hB1.cell]; rfl
  have c6 : W0.cell? ⟨w.heap.size, 6, none⟩ = some (.string root) := by rw [hB1.cell]; rfl
  have c7 : W0.cell? ⟨w.heap.size, 7, none⟩ = some (.string data) := by rw [hB1.cell]; rfl
  have e0 : W0.cell? ⟨w.heap.size + 1, 0, none⟩ = some (.int .i64 0) := by rw [hB3.cell]; rfl
  have f0 := hB3.frozen 0
  have e1 : W0.cell? ⟨w.heap.size + 1, 1, none⟩ = some (.int .i64 i1) := by rw [hB3.cell]; rfl
  have f1 := hB3.frozen 1
  have e2 : W0.cell? ⟨w.heap.size + 1, 2, none⟩ = some (.int .i64 i2) := by rw [hB3.cell]; rfl
  have f2 := hB3.frozen 2
  have e3 : W0.cell? ⟨w.heap.size + 1, 3, none⟩ = some (.int .i64 i3) := by rw [hB3.cell]; rfl
  have f3 := hB3.frozen 3
  have e4 : W0.cell? ⟨w.heap.size + 1, 4, none⟩ = some (.int .i64 i4) := by rw [hB3.cell]; rfl
  have f4 := hB3.frozen 4
  have e5 : W0.cell? ⟨w.heap.size + 1, 5, none⟩ = some (.int .i64 i5) := by rw [hB3.cell]; rfl
  have f5 := hB3.frozen 5
  have e6 : W0.cell? ⟨w.heap.size + 1, 6, none⟩ = some (.string root) := by rw [hB3.cell]; rfl
  have f6 := hB3.frozen 6
  have e7 : W0.cell? ⟨w.heap.size + 1, 7, none⟩ = some (.string data) := by rw [hB3.cell]; rfl
  have f7 := hB3.frozen 7
  have hlt := hB3.lt
  clear hB1 hB3
  have Hsub := Lib.hid hsub; clear hsub
  go_wp2_with (first | ((with_reducible refine (word_r _ _).mono ?_); rintro e w' ⟨rfl, rfl⟩) | ((with_reducible refine (number_r _ _).mono ?_); rintro e w' ⟨rfl, rfl⟩) | ((with_reducible refine (indexed_r _ _).mono ?_); rintro e w' ⟨rfl, rfl⟩) | ((with_reducible refine (block_r _ _).mono ?_); rintro e w' ⟨rfl, rfl⟩) | ((with_reducible refine (hashed_r _ _).mono ?_); rintro e w' ⟨rfl, rfl⟩))
  go_ret
  exact ⟨rfl, (Below.setCell (Below.setCell (Below.setCell (Below.setCell (Below.setCell Hsub.out (Nat.le_add_right w.heap.size 1) _) (Nat.le_add_right w.heap.size 1) _) (Nat.le_add_right w.heap.size 1) _) (Nat.le_add_right w.heap.size 1) _) (Nat.le_add_right w.heap.size 1) _)⟩

set_option maxRecDepth 20000 in
set_option maxHeartbeats 2000000 in
theorem vr_h1 (k i1 i2 i3 i4 i5 : Int) (root data : ByteArray) (h0 : wordR i1 = true) (h1 : wordR i2 = true) (h2 : wordR i3 = true) (h3 : wordR i4 = true) (h4 : wordR i5 = true) (h5 : (k != 1) = true) (h6 : ¬ numR k < 0) (h7 : isIdx k = false) (h8 : (k == 7) = false) (h9 : isBlock k = false) (h10 : (k == 9) = false) (h11 : (k == 11) = false) (h12 : (k == 17) = false) (h13 : isHash k = true) (h14 : ((root.size : Int) != 32) = false) (h15 : (k == 19) = false) (w : World) :
    Calls Tryz.prog 45 #[.agg #[.int .i64 k, .int .i64 i1, .int .i64 i2, .int .i64 i3, .int .i64 i4, .int .i64 i5, .string root, .string data]] w fun e w' => e = .returned (.bool (decide ((⟨0, 0, i2, 0, 0, 0, ⟨#[]⟩, data⟩ : M) = M.only 0))) ∧ Sub w w' := by
  generalize hdd : decide ((⟨0, 0, i2, 0, 0, 0, ⟨#[]⟩, data⟩ : M) = M.only 0) = dd
  have Hdd := Lib.hid hdd; clear hdd
  go_enter Tryz.func45, Tryz.ntmps45
  go_wp2_with ((with_reducible refine (word_r _ _).mono ?_); rintro e w' ⟨rfl, rfl⟩)
  have hB1 := (Blk.new w 26 #[.int .i64 k, .int .i64 i1, .int .i64 i2, .int .i64 i3, .int .i64 i4, .int .i64 i5, .string root, .string data]).alloc (.cells #[.int .i64 0, .int .i64 i1, .int .i64 i2, .int .i64 i3, .int .i64 i4, .int .i64 i5, .string root, .string data] 26)
  have hB3 := Blk.new (w.alloc (.cells #[.int .i64 k, .int .i64 i1, .int .i64 i2, .int .i64 i3, .int .i64 i4, .int .i64 i5, .string root, .string data] 26)) 26 #[.int .i64 0, .int .i64 i1, .int .i64 i2, .int .i64 i3, .int .i64 i4, .int .i64 i5, .string root, .string data]
  rw [World.size_alloc] at hB3
  have hsub : Sub w ((w.alloc (.cells #[.int .i64 k, .int .i64 i1, .int .i64 i2, .int .i64 i3, .int .i64 i4, .int .i64 i5, .string root, .string data] 26)).alloc (.cells #[.int .i64 0, .int .i64 i1, .int .i64 i2, .int .i64 i3, .int .i64 i4, .int .i64 i5, .string root, .string data] 26)) := Sub.al (Sub.al Sub.rfl' _) _
  generalize (w.alloc (.cells #[.int .i64 k, .int .i64 i1, .int .i64 i2, .int .i64 i3, .int .i64 i4, .int .i64 i5, .string root, .string data] 26)).alloc (.cells #[.int .i64 0, .int .i64 i1, .int .i64 i2, .int .i64 i3, .int .i64 i4, .int .i64 i5, .string root, .string data] 26) = W0 at *
  have c0 : W0.cell? ⟨w.heap.size, 0, none⟩ = some (.int .i64 k) := by rw [hB1.cell]; rfl
  have c1 : W0.cell? ⟨w.heap.size, 1, none⟩ = some (.int .i64 i1) := by rw [hB1.cell]; rfl
  have c2 : W0.cell? ⟨w.heap.size, 2, none⟩ = some (.int .i64 i2) := by rw [hB1.cell]; rfl
  have c3 : W0.cell? ⟨w.heap.size, 3, none⟩ = some (.int .i64 i3) := by rw [hB1.cell]; rfl
  have c4 : W0.cell? ⟨w.heap.size, 4, none⟩ = some (.int .i64 i4) := by rw [hB1.cell]; rfl
  have c5 : W0.cell? ⟨w.heap.size, 5, none⟩ = some (.int .i64 i5) := by rw [hB1.cell]; rfl
  have c6 : W0.cell? ⟨w.heap.size, 6, none⟩ = some (.string root) := by rw [hB1.cell]; rfl
  have c7 : W0.cell? ⟨w.heap.size, 7, none⟩ = some (.string data) := by rw [hB1.cell]; rfl
  have e0 : W0.cell? ⟨w.heap.size + 1, 0, none⟩ = some (.int .i64 0) := by rw [hB3.cell]; rfl
  have f0 := hB3.frozen 0
  have e1 : W0.cell? ⟨w.heap.size + 1, 1, none⟩ = some (.int .i64 i1) := by rw [hB3.cell]; rfl
  have f1 := hB3.frozen 1
  have e2 : W0.cell? ⟨w.heap.size + 1, 2, none⟩ = some (.int .i64 i2) := by rw [hB3.cell]; rfl
  have f2 := hB3.frozen 2
  have e3 : W0.cell? ⟨w.heap.size + 1, 3, none⟩ = some (.int .i64 i3) := by rw [hB3.cell]; rfl
  have f3 := hB3.frozen 3
  have e4 : W0.cell? ⟨w.heap.size + 1, 4, none⟩ = some (.int .i64 i4) := by rw [hB3.cell]; rfl
  have f4 := hB3.frozen 4
  have e5 : W0.cell? ⟨w.heap.size + 1, 5, none⟩ = some (.int .i64 i5) := by rw [hB3.cell]; rfl
  have f5 := hB3.frozen 5
  have e6 : W0.cell? ⟨w.heap.size + 1, 6, none⟩ = some (.string root) := by rw [hB3.cell]; rfl
  have f6 := hB3.frozen 6
  have e7 : W0.cell? ⟨w.heap.size + 1, 7, none⟩ = some (.string data) := by rw [hB3.cell]; rfl
  have f7 := hB3.frozen 7
  have hlt := hB3.lt
  clear hB1 hB3
  have Hsub := Lib.hid hsub; clear hsub
  go_wp2_with (first | ((with_reducible refine (word_r _ _).mono ?_); rintro e w' ⟨rfl, rfl⟩) | ((with_reducible refine (number_r _ _).mono ?_); rintro e w' ⟨rfl, rfl⟩) | ((with_reducible refine (indexed_r _ _).mono ?_); rintro e w' ⟨rfl, rfl⟩) | ((with_reducible refine (block_r _ _).mono ?_); rintro e w' ⟨rfl, rfl⟩) | ((with_reducible refine (hashed_r _ _).mono ?_); rintro e w' ⟨rfl, rfl⟩) | (refine wpList_eq_agg rfl .eql 26 (.tmp 150) (.tmp 151) 26 rfl _ _ rfl rfl eqg33 dd (by rw [← Hdd.out]; exact msg_eql ⟨0, 0, i2, 0, 0, 0, ⟨#[]⟩, data⟩ (M.only 0) _) ?_))
  go_ret
  exact ⟨rfl, (Below.setCell (Below.setCell (Below.setCell (Below.setCell (Below.setCell Hsub.out (Nat.le_add_right w.heap.size 1) _) (Nat.le_add_right w.heap.size 1) _) (Nat.le_add_right w.heap.size 1) _) (Nat.le_add_right w.heap.size 1) _) (Nat.le_add_right w.heap.size 1) _)⟩

set_option maxRecDepth 20000 in
set_option maxHeartbeats 2000000 in
theorem vr_h2 (k i1 i2 i3 i4 i5 : Int) (root data : ByteArray) (h0 : wordR i1 = true) (h1 : wordR i2 = true) (h2 : wordR i3 = true) (h3 : wordR i4 = true) (h4 : wordR i5 = true) (h5 : (k != 1) = true) (h6 : ¬ numR k < 0) (h7 : isIdx k = false) (h8 : (k == 7) = false) (h9 : isBlock k = false) (h10 : (k == 9) = false) (h11 : (k == 11) = false) (h12 : (k == 17) = false) (h13 : isHash k = true) (h14 : ((root.size : Int) != 32) = false) (h15 : (k == 19) = true) (h16 : ((data.size : Int) % 32 != 0) = true) (w : World) :
    Calls Tryz.prog 45 #[.agg #[.int .i64 k, .int .i64 i1, .int .i64 i2, .int .i64 i3, .int .i64 i4, .int .i64 i5, .string root, .string data]] w fun e w' => e = .returned (.bool false) ∧ Sub w w' := by
  go_enter Tryz.func45, Tryz.ntmps45
  go_wp2_with ((with_reducible refine (word_r _ _).mono ?_); rintro e w' ⟨rfl, rfl⟩)
  have hB1 := (Blk.new w 26 #[.int .i64 k, .int .i64 i1, .int .i64 i2, .int .i64 i3, .int .i64 i4, .int .i64 i5, .string root, .string data]).alloc (.cells #[.int .i64 0, .int .i64 i1, .int .i64 i2, .int .i64 i3, .int .i64 i4, .int .i64 i5, .string root, .string data] 26)
  have hB3 := Blk.new (w.alloc (.cells #[.int .i64 k, .int .i64 i1, .int .i64 i2, .int .i64 i3, .int .i64 i4, .int .i64 i5, .string root, .string data] 26)) 26 #[.int .i64 0, .int .i64 i1, .int .i64 i2, .int .i64 i3, .int .i64 i4, .int .i64 i5, .string root, .string data]
  rw [World.size_alloc] at hB3
  have hsub : Sub w ((w.alloc (.cells #[.int .i64 k, .int .i64 i1, .int .i64 i2, .int .i64 i3, .int .i64 i4, .int .i64 i5, .string root, .string data] 26)).alloc (.cells #[.int .i64 0, .int .i64 i1, .int .i64 i2, .int .i64 i3, .int .i64 i4, .int .i64 i5, .string root, .string data] 26)) := Sub.al (Sub.al Sub.rfl' _) _
  generalize (w.alloc (.cells #[.int .i64 k, .int .i64 i1, .int .i64 i2, .int .i64 i3, .int .i64 i4, .int .i64 i5, .string root, .string data] 26)).alloc (.cells #[.int .i64 0, .int .i64 i1, .int .i64 i2, .int .i64 i3, .int .i64 i4, .int .i64 i5, .string root, .string data] 26) = W0 at *
  have c0 : W0.cell? ⟨w.heap.size, 0, none⟩ = some (.int .i64 k) := by rw [hB1.cell]; rfl
  have c1 : W0.cell? ⟨w.heap.size, 1, none⟩ = some (.int .i64 i1) := by rw [hB1.cell]; rfl
  have c2 : W0.cell? ⟨w.heap.size, 2, none⟩ = some (.int .i64 i2) := by rw [hB1.cell]; rfl
  have c3 : W0.cell? ⟨w.heap.size, 3, none⟩ = some (.int .i64 i3) := by rw [hB1.cell]; rfl
  have c4 : W0.cell? ⟨w.heap.size, 4, none⟩ = some (.int .i64 i4) := by rw [hB1.cell]; rfl
  have c5 : W0.cell? ⟨w.heap.size, 5, none⟩ = some (.int .i64 i5) := by rw [hB1.cell]; rfl
  have c6 : W0.cell? ⟨w.heap.size, 6, none⟩ = some (.string root) := by rw [hB1.cell]; rfl
  have c7 : W0.cell? ⟨w.heap.size, 7, none⟩ = some (.string data) := by rw [hB1.cell]; rfl
  have e0 : W0.cell? ⟨w.heap.size + 1, 0, none⟩ = some (.int .i64 0) := by rw [hB3.cell]; rfl
  have f0 := hB3.frozen 0
  have e1 : W0.cell? ⟨w.heap.size + 1, 1, none⟩ = some (.int .i64 i1) := by rw [hB3.cell]; rfl
  have f1 := hB3.frozen 1
  have e2 : W0.cell? ⟨w.heap.size + 1, 2, none⟩ = some (.int .i64 i2) := by rw [hB3.cell]; rfl
  have f2 := hB3.frozen 2
  have e3 : W0.cell? ⟨w.heap.size + 1, 3, none⟩ = some (.int .i64 i3) := by rw [hB3.cell]; rfl
  have f3 := hB3.frozen 3
  have e4 : W0.cell? ⟨w.heap.size + 1, 4, none⟩ = some (.int .i64 i4) := by rw [hB3.cell]; rfl
  have f4 := hB3.frozen 4
  have e5 : W0.cell? ⟨w.heap.size + 1, 5, none⟩ = some (.int .i64 i5) := by rw [hB3.cell]; rfl
  have f5 := hB3.frozen 5
  have e6 : W0.cell? ⟨w.heap.size + 1, 6, none⟩ = some (.string root) := by rw [hB3.cell]; rfl
  have f6 := hB3.frozen 6
  have e7 : W0.cell? ⟨w.heap.size + 1, 7, none⟩ = some (.string data) := by rw [hB3.cell]; rfl
  have f7 := hB3.frozen 7
  have hlt := hB3.lt
  clear hB1 hB3
  have Hsub := Lib.hid hsub; clear hsub
  go_wp2_with (first | ((with_reducible refine (word_r _ _).mono ?_); rintro e w' ⟨rfl, rfl⟩) | ((with_reducible refine (number_r _ _).mono ?_); rintro e w' ⟨rfl, rfl⟩) | ((with_reducible refine (indexed_r _ _).mono ?_); rintro e w' ⟨rfl, rfl⟩) | ((with_reducible refine (block_r _ _).mono ?_); rintro e w' ⟨rfl, rfl⟩) | ((with_reducible refine (hashed_r _ _).mono ?_); rintro e w' ⟨rfl, rfl⟩))
  go_ret
  exact ⟨rfl, (Below.setCell (Below.setCell (Below.setCell (Below.setCell (Below.setCell (Below.setCell Hsub.out (Nat.le_add_right w.heap.size 1) _) (Nat.le_add_right w.heap.size 1) _) (Nat.le_add_right w.heap.size 1) _) (Nat.le_add_right w.heap.size 1) _) (Nat.le_add_right w.heap.size 1) _) (Nat.le_add_right w.heap.size 1) _)⟩

set_option maxRecDepth 20000 in
set_option maxHeartbeats 2000000 in
theorem vr_h3 (k i1 i2 i3 i4 i5 : Int) (root data : ByteArray) (h0 : wordR i1 = true) (h1 : wordR i2 = true) (h2 : wordR i3 = true) (h3 : wordR i4 = true) (h4 : wordR i5 = true) (h5 : (k != 1) = true) (h6 : ¬ numR k < 0) (h7 : isIdx k = false) (h8 : (k == 7) = false) (h9 : isBlock k = false) (h10 : (k == 9) = false) (h11 : (k == 11) = false) (h12 : (k == 17) = false) (h13 : isHash k = true) (h14 : ((root.size : Int) != 32) = false) (h15 : (k == 19) = true) (h16 : ((data.size : Int) % 32 != 0) = false) (h17 : (data.size : Int) < 32) (w : World) :
    Calls Tryz.prog 45 #[.agg #[.int .i64 k, .int .i64 i1, .int .i64 i2, .int .i64 i3, .int .i64 i4, .int .i64 i5, .string root, .string data]] w fun e w' => e = .returned (.bool false) ∧ Sub w w' := by
  go_enter Tryz.func45, Tryz.ntmps45
  go_wp2_with ((with_reducible refine (word_r _ _).mono ?_); rintro e w' ⟨rfl, rfl⟩)
  have hB1 := (Blk.new w 26 #[.int .i64 k, .int .i64 i1, .int .i64 i2, .int .i64 i3, .int .i64 i4, .int .i64 i5, .string root, .string data]).alloc (.cells #[.int .i64 0, .int .i64 i1, .int .i64 i2, .int .i64 i3, .int .i64 i4, .int .i64 i5, .string root, .string data] 26)
  have hB3 := Blk.new (w.alloc (.cells #[.int .i64 k, .int .i64 i1, .int .i64 i2, .int .i64 i3, .int .i64 i4, .int .i64 i5, .string root, .string data] 26)) 26 #[.int .i64 0, .int .i64 i1, .int .i64 i2, .int .i64 i3, .int .i64 i4, .int .i64 i5, .string root, .string data]
  rw [World.size_alloc] at hB3
  have hsub : Sub w ((w.alloc (.cells #[.int .i64 k, .int .i64 i1, .int .i64 i2, .int .i64 i3, .int .i64 i4, .int .i64 i5, .string root, .string data] 26)).alloc (.cells #[.int .i64 0, .int .i64 i1, .int .i64 i2, .int .i64 i3, .int .i64 i4, .int .i64 i5, .string root, .string data] 26)) := Sub.al (Sub.al Sub.rfl' _) _
  generalize (w.alloc (.cells #[.int .i64 k, .int .i64 i1, .int .i64 i2, .int .i64 i3, .int .i64 i4, .int .i64 i5, .string root, .string data] 26)).alloc (.cells #[.int .i64 0, .int .i64 i1, .int .i64 i2, .int .i64 i3, .int .i64 i4, .int .i64 i5, .string root, .string data] 26) = W0 at *
  have c0 : W0.cell? ⟨w.heap.size, 0, none⟩ = some (.int .i64 k) := by rw [hB1.cell]; rfl
  have c1 : W0.cell? ⟨w.heap.size, 1, none⟩ = some (.int .i64 i1) := by rw [hB1.cell]; rfl
  have c2 : W0.cell? ⟨w.heap.size, 2, none⟩ = some (.int .i64 i2) := by rw [hB1.cell]; rfl
  have c3 : W0.cell? ⟨w.heap.size, 3, none⟩ = some (.int .i64 i3) := by rw [hB1.cell]; rfl
  have c4 : W0.cell? ⟨w.heap.size, 4, none⟩ = some (.int .i64 i4) := by rw [hB1.cell]; rfl
  have c5 : W0.cell? ⟨w.heap.size, 5, none⟩ = some (.int .i64 i5) := by rw [hB1.cell]; rfl
  have c6 : W0.cell? ⟨w.heap.size, 6, none⟩ = some (.string root) := by rw [hB1.cell]; rfl
  have c7 : W0.cell? ⟨w.heap.size, 7, none⟩ = some (.string data) := by rw [hB1.cell]; rfl
  have e0 : W0.cell? ⟨w.heap.size + 1, 0, none⟩ = some (.int .i64 0) := by rw [hB3.cell]; rfl
  have f0 := hB3.frozen 0
  have e1 : W0.cell? ⟨w.heap.size + 1, 1, none⟩ = some (.int .i64 i1) := by rw [hB3.cell]; rfl
  have f1 := hB3.frozen 1
  have e2 : W0.cell? ⟨w.heap.size + 1, 2, none⟩ = some (.int .i64 i2) := by rw [hB3.cell]; rfl
  have f2 := hB3.frozen 2
  have e3 : W0.cell? ⟨w.heap.size + 1, 3, none⟩ = some (.int .i64 i3) := by rw [hB3.cell]; rfl
  have f3 := hB3.frozen 3
  have e4 : W0.cell? ⟨w.heap.size + 1, 4, none⟩ = some (.int .i64 i4) := by rw [hB3.cell]; rfl
  have f4 := hB3.frozen 4
  have e5 : W0.cell? ⟨w.heap.size + 1, 5, none⟩ = some (.int .i64 i5) := by rw [hB3.cell]; rfl
  have f5 := hB3.frozen 5
  have e6 : W0.cell? ⟨w.heap.size + 1, 6, none⟩ = some (.string root) := by rw [hB3.cell]; rfl
  have f6 := hB3.frozen 6
  have e7 : W0.cell? ⟨w.heap.size + 1, 7, none⟩ = some (.string data) := by rw [hB3.cell]; rfl
  have f7 := hB3.frozen 7
  have hlt := hB3.lt
  clear hB1 hB3
  have Hsub := Lib.hid hsub; clear hsub
  go_wp2_with (first | ((with_reducible refine (word_r _ _).mono ?_); rintro e w' ⟨rfl, rfl⟩) | ((with_reducible refine (number_r _ _).mono ?_); rintro e w' ⟨rfl, rfl⟩) | ((with_reducible refine (indexed_r _ _).mono ?_); rintro e w' ⟨rfl, rfl⟩) | ((with_reducible refine (block_r _ _).mono ?_); rintro e w' ⟨rfl, rfl⟩) | ((with_reducible refine (hashed_r _ _).mono ?_); rintro e w' ⟨rfl, rfl⟩))
  go_ret
  exact ⟨rfl, (Below.setCell (Below.setCell (Below.setCell (Below.setCell (Below.setCell (Below.setCell Hsub.out (Nat.le_add_right w.heap.size 1) _) (Nat.le_add_right w.heap.size 1) _) (Nat.le_add_right w.heap.size 1) _) (Nat.le_add_right w.heap.size 1) _) (Nat.le_add_right w.heap.size 1) _) (Nat.le_add_right w.heap.size 1) _)⟩

set_option maxRecDepth 20000 in
set_option maxHeartbeats 2000000 in
theorem vr_h4 (k i1 i2 i3 i4 i5 : Int) (root data : ByteArray) (h0 : wordR i1 = true) (h1 : wordR i2 = true) (h2 : wordR i3 = true) (h3 : wordR i4 = true) (h4 : wordR i5 = true) (h5 : (k != 1) = true) (h6 : ¬ numR k < 0) (h7 : isIdx k = false) (h8 : (k == 7) = false) (h9 : isBlock k = false) (h10 : (k == 9) = false) (h11 : (k == 11) = false) (h12 : (k == 17) = false) (h13 : isHash k = true) (h14 : ((root.size : Int) != 32) = false) (h15 : (k == 19) = true) (h16 : ((data.size : Int) % 32 != 0) = false) (h17 : ¬ (data.size : Int) < 32) (h18 : (2048 : Int) < data.size) (w : World) :
    Calls Tryz.prog 45 #[.agg #[.int .i64 k, .int .i64 i1, .int .i64 i2, .int .i64 i3, .int .i64 i4, .int .i64 i5, .string root, .string data]] w fun e w' => e = .returned (.bool false) ∧ Sub w w' := by
  go_enter Tryz.func45, Tryz.ntmps45
  go_wp2_with ((with_reducible refine (word_r _ _).mono ?_); rintro e w' ⟨rfl, rfl⟩)
  have hB1 := (Blk.new w 26 #[.int .i64 k, .int .i64 i1, .int .i64 i2, .int .i64 i3, .int .i64 i4, .int .i64 i5, .string root, .string data]).alloc (.cells #[.int .i64 0, .int .i64 i1, .int .i64 i2, .int .i64 i3, .int .i64 i4, .int .i64 i5, .string root, .string data] 26)
  have hB3 := Blk.new (w.alloc (.cells #[.int .i64 k, .int .i64 i1, .int .i64 i2, .int .i64 i3, .int .i64 i4, .int .i64 i5, .string root, .string data] 26)) 26 #[.int .i64 0, .int .i64 i1, .int .i64 i2, .int .i64 i3, .int .i64 i4, .int .i64 i5, .string root, .string data]
  rw [World.size_alloc] at hB3
  have hsub : Sub w ((w.alloc (.cells #[.int .i64 k, .int .i64 i1, .int .i64 i2, .int .i64 i3, .int .i64 i4, .int .i64 i5, .string root, .string data] 26)).alloc (.cells #[.int .i64 0, .int .i64 i1, .int .i64 i2, .int .i64 i3, .int .i64 i4, .int .i64 i5, .string root, .string data] 26)) := Sub.al (Sub.al Sub.rfl' _) _
  generalize (w.alloc (.cells #[.int .i64 k, .int .i64 i1, .int .i64 i2, .int .i64 i3, .int .i64 i4, .int .i64 i5, .string root, .string data] 26)).alloc (.cells #[.int .i64 0, .int .i64 i1, .int .i64 i2, .int .i64 i3, .int .i64 i4, .int .i64 i5, .string root, .string data] 26) = W0 at *
  have c0 : W0.cell? ⟨w.heap.size, 0, none⟩ = some (.int .i64 k) := by rw [hB1.cell]; rfl
  have c1 : W0.cell? ⟨w.heap.size, 1, none⟩ = some (.int .i64 i1) := by rw [hB1.cell]; rfl
  have c2 : W0.cell? ⟨w.heap.size, 2, none⟩ = some (.int .i64 i2) := by rw [hB1.cell]; rfl
  have c3 : W0.cell? ⟨w.heap.size, 3, none⟩ = some (.int .i64 i3) := by rw [hB1.cell]; rfl
  have c4 : W0.cell? ⟨w.heap.size, 4, none⟩ = some (.int .i64 i4) := by rw [hB1.cell]; rfl
  have c5 : W0.cell? ⟨w.heap.size, 5, none⟩ = some (.int .i64 i5) := by rw [hB1.cell]; rfl
  have c6 : W0.cell? ⟨w.heap.size, 6, none⟩ = some (.string root) := by rw [hB1.cell]; rfl
  have c7 : W0.cell? ⟨w.heap.size, 7, none⟩ = some (.string data) := by rw [hB1.cell]; rfl
  have e0 : W0.cell? ⟨w.heap.size + 1, 0, none⟩ = some (.int .i64 0) := by rw [hB3.cell]; rfl
  have f0 := hB3.frozen 0
  have e1 : W0.cell? ⟨w.heap.size + 1, 1, none⟩ = some (.int .i64 i1) := by rw [hB3.cell]; rfl
  have f1 := hB3.frozen 1
  have e2 : W0.cell? ⟨w.heap.size + 1, 2, none⟩ = some (.int .i64 i2) := by rw [hB3.cell]; rfl
  have f2 := hB3.frozen 2
  have e3 : W0.cell? ⟨w.heap.size + 1, 3, none⟩ = some (.int .i64 i3) := by rw [hB3.cell]; rfl
  have f3 := hB3.frozen 3
  have e4 : W0.cell? ⟨w.heap.size + 1, 4, none⟩ = some (.int .i64 i4) := by rw [hB3.cell]; rfl
  have f4 := hB3.frozen 4
  have e5 : W0.cell? ⟨w.heap.size + 1, 5, none⟩ = some (.int .i64 i5) := by rw [hB3.cell]; rfl
  have f5 := hB3.frozen 5
  have e6 : W0.cell? ⟨w.heap.size + 1, 6, none⟩ = some (.string root) := by rw [hB3.cell]; rfl
  have f6 := hB3.frozen 6
  have e7 : W0.cell? ⟨w.heap.size + 1, 7, none⟩ = some (.string data) := by rw [hB3.cell]; rfl
  have f7 := hB3.frozen 7
  have hlt := hB3.lt
  clear hB1 hB3
  have Hsub := Lib.hid hsub; clear hsub
  go_wp2_with (first | ((with_reducible refine (word_r _ _).mono ?_); rintro e w' ⟨rfl, rfl⟩) | ((with_reducible refine (number_r _ _).mono ?_); rintro e w' ⟨rfl, rfl⟩) | ((with_reducible refine (indexed_r _ _).mono ?_); rintro e w' ⟨rfl, rfl⟩) | ((with_reducible refine (block_r _ _).mono ?_); rintro e w' ⟨rfl, rfl⟩) | ((with_reducible refine (hashed_r _ _).mono ?_); rintro e w' ⟨rfl, rfl⟩))
  go_ret
  exact ⟨rfl, (Below.setCell (Below.setCell (Below.setCell (Below.setCell (Below.setCell (Below.setCell Hsub.out (Nat.le_add_right w.heap.size 1) _) (Nat.le_add_right w.heap.size 1) _) (Nat.le_add_right w.heap.size 1) _) (Nat.le_add_right w.heap.size 1) _) (Nat.le_add_right w.heap.size 1) _) (Nat.le_add_right w.heap.size 1) _)⟩

set_option maxRecDepth 20000 in
set_option maxHeartbeats 2000000 in
theorem vr_h5 (k i1 i2 i3 i4 i5 : Int) (root data : ByteArray) (h0 : wordR i1 = true) (h1 : wordR i2 = true) (h2 : wordR i3 = true) (h3 : wordR i4 = true) (h4 : wordR i5 = true) (h5 : (k != 1) = true) (h6 : ¬ numR k < 0) (h7 : isIdx k = false) (h8 : (k == 7) = false) (h9 : isBlock k = false) (h10 : (k == 9) = false) (h11 : (k == 11) = false) (h12 : (k == 17) = false) (h13 : isHash k = true) (h14 : ((root.size : Int) != 32) = false) (h15 : (k == 19) = true) (h16 : ((data.size : Int) % 32 != 0) = false) (h17 : ¬ (data.size : Int) < 32) (h18 : ¬ (2048 : Int) < data.size) (w : World) :
    Calls Tryz.prog 45 #[.agg #[.int .i64 k, .int .i64 i1, .int .i64 i2, .int .i64 i3, .int .i64 i4, .int .i64 i5, .string root, .string data]] w fun e w' => e = .returned (.bool (decide ((⟨0, 0, i2, 0, 0, 0, ⟨#[]⟩, ⟨#[]⟩⟩ : M) = M.only 0))) ∧ Sub w w' := by
  generalize hdd : decide ((⟨0, 0, i2, 0, 0, 0, ⟨#[]⟩, ⟨#[]⟩⟩ : M) = M.only 0) = dd
  have Hdd := Lib.hid hdd; clear hdd
  go_enter Tryz.func45, Tryz.ntmps45
  go_wp2_with ((with_reducible refine (word_r _ _).mono ?_); rintro e w' ⟨rfl, rfl⟩)
  have hB1 := (Blk.new w 26 #[.int .i64 k, .int .i64 i1, .int .i64 i2, .int .i64 i3, .int .i64 i4, .int .i64 i5, .string root, .string data]).alloc (.cells #[.int .i64 0, .int .i64 i1, .int .i64 i2, .int .i64 i3, .int .i64 i4, .int .i64 i5, .string root, .string data] 26)
  have hB3 := Blk.new (w.alloc (.cells #[.int .i64 k, .int .i64 i1, .int .i64 i2, .int .i64 i3, .int .i64 i4, .int .i64 i5, .string root, .string data] 26)) 26 #[.int .i64 0, .int .i64 i1, .int .i64 i2, .int .i64 i3, .int .i64 i4, .int .i64 i5, .string root, .string data]
  rw [World.size_alloc] at hB3
  have hsub : Sub w ((w.alloc (.cells #[.int .i64 k, .int .i64 i1, .int .i64 i2, .int .i64 i3, .int .i64 i4, .int .i64 i5, .string root, .string data] 26)).alloc (.cells #[.int .i64 0, .int .i64 i1, .int .i64 i2, .int .i64 i3, .int .i64 i4, .int .i64 i5, .string root, .string data] 26)) := Sub.al (Sub.al Sub.rfl' _) _
  generalize (w.alloc (.cells #[.int .i64 k, .int .i64 i1, .int .i64 i2, .int .i64 i3, .int .i64 i4, .int .i64 i5, .string root, .string data] 26)).alloc (.cells #[.int .i64 0, .int .i64 i1, .int .i64 i2, .int .i64 i3, .int .i64 i4, .int .i64 i5, .string root, .string data] 26) = W0 at *
  have c0 : W0.cell? ⟨w.heap.size, 0, none⟩ = some (.int .i64 k) := by rw [hB1.cell]; rfl
  have c1 : W0.cell? ⟨w.heap.size, 1, none⟩ = some (.int .i64 i1) := by rw [hB1.cell]; rfl
  have c2 : W0.cell? ⟨w.heap.size, 2, none⟩ = some (.int .i64 i2) := by rw [hB1.cell]; rfl
  have c3 : W0.cell? ⟨w.heap.size, 3, none⟩ = some (.int .i64 i3) := by rw [hB1.cell]; rfl
  have c4 : W0.cell? ⟨w.heap.size, 4, none⟩ = some (.int .i64 i4) := by rw [hB1.cell]; rfl
  have c5 : W0.cell? ⟨w.heap.size, 5, none⟩ = some (.int .i64 i5) := by rw [hB1.cell]; rfl
  have c6 : W0.cell? ⟨w.heap.size, 6, none⟩ = some (.string root) := by rw [hB1.cell]; rfl
  have c7 : W0.cell? ⟨w.heap.size, 7, none⟩ = some (.string data) := by rw [hB1.cell]; rfl
  have e0 : W0.cell? ⟨w.heap.size + 1, 0, none⟩ = some (.int .i64 0) := by rw [hB3.cell]; rfl
  have f0 := hB3.frozen 0
  have e1 : W0.cell? ⟨w.heap.size + 1, 1, none⟩ = some (.int .i64 i1) := by rw [hB3.cell]; rfl
  have f1 := hB3.frozen 1
  have e2 : W0.cell? ⟨w.heap.size + 1, 2, none⟩ = some (.int .i64 i2) := by rw [hB3.cell]; rfl
  have f2 := hB3.frozen 2
  have e3 : W0.cell? ⟨w.heap.size + 1, 3, none⟩ = some (.int .i64 i3) := by rw [hB3.cell]; rfl
  have f3 := hB3.frozen 3
  have e4 : W0.cell? ⟨w.heap.size + 1, 4, none⟩ = some (.int .i64 i4) := by rw [hB3.cell]; rfl
  have f4 := hB3.frozen 4
  have e5 : W0.cell? ⟨w.heap.size + 1, 5, none⟩ = some (.int .i64 i5) := by rw [hB3.cell]; rfl
  have f5 := hB3.frozen 5
  have e6 : W0.cell? ⟨w.heap.size + 1, 6, none⟩ = some (.string root) := by rw [hB3.cell]; rfl
  have f6 := hB3.frozen 6
  have e7 : W0.cell? ⟨w.heap.size + 1, 7, none⟩ = some (.string data) := by rw [hB3.cell]; rfl
  have f7 := hB3.frozen 7
  have hlt := hB3.lt
  clear hB1 hB3
  have Hsub := Lib.hid hsub; clear hsub
  go_wp2_with (first | ((with_reducible refine (word_r _ _).mono ?_); rintro e w' ⟨rfl, rfl⟩) | ((with_reducible refine (number_r _ _).mono ?_); rintro e w' ⟨rfl, rfl⟩) | ((with_reducible refine (indexed_r _ _).mono ?_); rintro e w' ⟨rfl, rfl⟩) | ((with_reducible refine (block_r _ _).mono ?_); rintro e w' ⟨rfl, rfl⟩) | ((with_reducible refine (hashed_r _ _).mono ?_); rintro e w' ⟨rfl, rfl⟩) | (refine wpList_eq_agg rfl .eql 26 (.tmp 150) (.tmp 151) 26 rfl _ _ rfl rfl eqg33 dd (by rw [← Hdd.out]; exact msg_eql ⟨0, 0, i2, 0, 0, 0, ⟨#[]⟩, ⟨#[]⟩⟩ (M.only 0) _) ?_))
  go_ret
  exact ⟨rfl, (Below.setCell (Below.setCell (Below.setCell (Below.setCell (Below.setCell (Below.setCell Hsub.out (Nat.le_add_right w.heap.size 1) _) (Nat.le_add_right w.heap.size 1) _) (Nat.le_add_right w.heap.size 1) _) (Nat.le_add_right w.heap.size 1) _) (Nat.le_add_right w.heap.size 1) _) (Nat.le_add_right w.heap.size 1) _)⟩
end Go.Proofs.YtdkfkdekiljcoaaGreat
