import Derived.Test.YtpbjekdjebjbkaaGreatProg
import Derived.Test.YtpbjekdjebjbkaaGreatFj
set_option linter.unusedSimpArgs false
set_option linter.unusedVariables false
namespace Go.Proofs.YtpbjekdjebjbkaaGreat
open Go.RowKit

/-! ## The hash, in plain words -/
def mixT (h b : Nat) : Nat := (h ^^^ b) * 1099511628211 % 18446744073709551616 ^^^ ((h ^^^ b) * 1099511628211 % 18446744073709551616) / 536870912
def endT (h n : Nat) : Nat := ((h ^^^ n) * 1099511628211 % 18446744073709551616 ^^^ ((h ^^^ n) * 1099511628211 % 18446744073709551616) / 4294967296) * 1099511628211 % 18446744073709551616
def startT (k : Nat) : Nat := (14695981039346656037 + k * 11400714819323198485 % 18446744073709551616) % 18446744073709551616
/-- A lane, when i bytes are taken. -/
def laneP (s : ByteArray) (h : Nat) : Nat → Nat
  | 0 => h
  | i + 1 => mixT (laneP s h i) (bt' s i)
theorem u64_xor {a b : Nat} (ha : a < 18446744073709551616) (hb : b < 18446744073709551616) : a ^^^ b < 18446744073709551616 := Nat.xor_lt_two_pow (n := 64) ha hb
theorem mixT_lt (h b : Nat) : mixT h b < 18446744073709551616 := by
  have h1 : (h ^^^ b) * 1099511628211 % 18446744073709551616 < 18446744073709551616 := Nat.mod_lt _ (by omega)
  have h2 : (h ^^^ b) * 1099511628211 % 18446744073709551616 / 536870912 ≤ (h ^^^ b) * 1099511628211 % 18446744073709551616 := Nat.div_le_self _ _
  exact u64_xor h1 (by omega)
theorem endT_lt (h n : Nat) : endT h n < 18446744073709551616 := Nat.mod_lt _ (by omega)
theorem laneP_lt {s : ByteArray} {h : Nat} (hh : h < 18446744073709551616) : ∀ i, laneP s h i < 18446744073709551616
  | 0 => hh
  | i + 1 => mixT_lt _ _
def nbL (b : List Nat) : List Value := b.map (fun (x : Nat) => Value.int .u8 (x : Int))
def nbV (b : List Nat) : Array Value := (nbL b).toArray
theorem nbL_app (a b : List Nat) : nbL (a ++ b) = nbL a ++ nbL b := by unfold nbL; simp
theorem nbL_one (b : List Nat) : (nbL b).all (·.oneCell') = true := by
  unfold nbL; rw [List.all_eq_true]; intro v hv
  obtain ⟨x, _, rfl⟩ := List.mem_map.1 hv; rfl
def nbS (b : List Nat) : ByteArray := ⟨(b.map UInt8.ofNat).toArray⟩
theorem nbS_size (b : List Nat) : (nbS b).size = b.length := by show ((b.map UInt8.ofNat).toArray).size = _; simp
theorem nbL_bytes {b : List Nat} (h : ∀ x ∈ b, x < 256) : nbL b = bytesV (b.map UInt8.ofNat) := by
  unfold nbL bytesV
  rw [List.map_map]
  refine List.map_congr_left fun x hx => ?_
  have := h x hx
  simp only [Function.comp]
  congr 1
  rw [UInt8.toNat_ofNat']
  omega
/-- A number in eight bytes: the first i. -/
def eightTo (n i : Nat) : List Nat := (List.range i).map (fun j => n / 2 ^ (56 - 8 * j) % 256)
def eightT (n : Nat) : List Nat := eightTo n 8
theorem eightTo_len (n i : Nat) : (eightTo n i).length = i := by unfold eightTo; simp
theorem eightTo_next (n i : Nat) : eightTo n (i + 1) = eightTo n i ++ [n / 2 ^ (56 - 8 * i) % 256] := by unfold eightTo; rw [List.range_succ, List.map_append]; rfl
theorem eightTo_lt (n i : Nat) : ∀ x ∈ eightTo n i, x < 256 := fun x hx => by
  unfold eightTo at hx
  obtain ⟨j, _, rfl⟩ := List.mem_map.1 hx
  exact Nat.mod_lt _ (by omega)
/-- The digest: what its first k lanes give. -/
def sumTo (l : List Nat) (n k : Nat) : List Nat := (l.take k).flatMap (fun h => eightT (endT h n))
theorem sumTo_len (l : List Nat) (n : Nat) : ∀ k, k ≤ l.length → (sumTo l n k).length = 8 * k := fun k hk => by
  unfold sumTo
  have : ∀ q : List Nat, (q.flatMap (fun h => eightT (endT h n))).length = 8 * q.length := fun q => by
    induction q with
    | nil => rfl
    | cons a q ih => rw [List.flatMap_cons, List.length_append, ih, List.length_cons]; unfold eightT; rw [eightTo_len]; omega
  rw [this, List.length_take]; omega
theorem sumTo_next {l : List Nat} {n k : Nat} (hk : k < l.length) : sumTo l n (k + 1) = sumTo l n k ++ eightT (endT (l.getD k 0) n) := by
  unfold sumTo
  rw [List.take_succ_eq_append_getElem hk, List.flatMap_append, List.getD_eq_getElem?_getD, List.getElem?_eq_getElem hk]
  simp
theorem sumTo_lt (l : List Nat) (n k : Nat) : ∀ x ∈ sumTo l n k, x < 256 := fun x hx => by
  unfold sumTo at hx
  obtain ⟨h, _, hx⟩ := List.mem_flatMap.1 hx
  exact eightTo_lt _ _ x hx
def lanesT (s : ByteArray) : List Nat := [laneP s (startT 0) s.size, laneP s (startT 1) s.size, laneP s (startT 2) s.size, laneP s (startT 3) s.size]
def sumS (s : ByteArray) : ByteArray := nbS (sumTo (lanesT s) s.size 4)
theorem sumS_size (s : ByteArray) : (sumS s).size = 32 := by unfold sumS; rw [nbS_size, sumTo_len _ _ 4 (by simp [lanesT])]
def pairS (a b : ByteArray) : ByteArray := sumS (a ++ b)
def zeroB : ByteArray := nbS (List.replicate 32 0)
/-- The lanes of a hasher, as cells. -/
def uV (l : List Nat) : List Value := l.map (fun (x : Nat) => Value.int .u64 (x : Int))
def hashV (l : List Nat) (n : Nat) : Array Value := (uV l ++ [Value.int .i64 (n : Int)]).toArray
def lanV (l : List Nat) : Array Value := (uV l).toArray
/-- The first k lanes have taken a byte. -/
def takeTo (k b : Nat) (l : List Nat) : List Nat := (l.take k).map (mixT · b) ++ l.drop k
theorem uV_len (l : List Nat) : (uV l).length = l.length := by unfold uV; simp
theorem uV_at {l : List Nat} {i : Nat} (h : i < l.length) : (uV l)[i]? = some (.int .u64 ((l.getD i 0 : Nat) : Int)) := by
  unfold uV; simp [List.getD, h]
theorem lanV_at {l : List Nat} {i : Nat} (h : i < l.length) : (lanV l)[i]? = some (.int .u64 ((l.getD i 0 : Nat) : Int)) := by
  unfold lanV; rw [List.getElem?_toArray]; exact uV_at h
theorem hashV_ext {l : List Nat} {n : Nat} (hl : l.length = 4) : (hashV l n).extract 0 (0 + 4) = lanV l := by
  unfold hashV lanV
  apply Array.ext'
  have := uV_len l
  simp [List.take_append_of_le_length, this, hl]
theorem hashV_at {l : List Nat} {n : Nat} (hl : l.length = 4) : (hashV l n)[4]? = some (.int .i64 (n : Int)) := by
  unfold hashV
  rw [List.getElem?_toArray, List.getElem?_append_right (by rw [uV_len]; omega), uV_len, hl]; rfl
theorem hashV_size (l : List Nat) (n : Nat) : (hashV l n).size = l.length + 1 := by unfold hashV; simp [uV_len]
theorem hashV_set {l : List Nat} {n i x : Nat} (h : i < l.length) : (hashV l n).setIfInBounds i (.int .u64 (x : Int)) = hashV (l.set i x) n := by
  unfold hashV uV
  apply Array.ext'
  simp only [List.setIfInBounds_toArray]
  rw [List.set_append_left _ _ (by simpa using h), List.map_set]
theorem hashV_setN {l : List Nat} {n m : Nat} (hl : l.length = 4) : (hashV l n).setIfInBounds 4 (.int .i64 (m : Int)) = hashV l m := by
  unfold hashV
  apply Array.ext'
  simp only [List.setIfInBounds_toArray]
  rw [List.set_append_right _ _ (by rw [uV_len]; omega), uV_len, hl]; rfl
theorem lanV_size (l : List Nat) : (lanV l).size = l.length := by unfold lanV; simp [uV_len]
theorem lanV_set {l : List Nat} {i x : Nat} (h : i < l.length) : (lanV l).setIfInBounds i (.int .u64 (x : Int)) = lanV (l.set i x) := by
  unfold lanV uV
  apply Array.ext'
  simp [List.map_set]
theorem takeTo_len (k b : Nat) (l : List Nat) : (takeTo k b l).length = l.length := by unfold takeTo; simp; omega
theorem takeTo_zero (b : Nat) (l : List Nat) : takeTo 0 b l = l := by unfold takeTo; simp
theorem takeTo_all (b : Nat) (l : List Nat) : takeTo l.length b l = l.map (mixT · b) := by unfold takeTo; simp
theorem takeTo_next {k b : Nat} {l : List Nat} (h : k < l.length) : (takeTo k b l).set k (mixT (l.getD k 0) b) = takeTo (k + 1) b l := by
  unfold takeTo
  have e1 : ((l.take k).map (mixT · b)).length = k := by simp; omega
  have hx : l.drop k = l.getD k 0 :: l.drop (k + 1) := by
    rw [List.getD_eq_getElem?_getD, List.getElem?_eq_getElem h, Option.getD_some]
    exact List.drop_eq_getElem_cons h
  rw [List.set_append_right _ _ (by omega), e1, Nat.sub_self, hx, List.set_cons_zero, List.take_succ_eq_append_getElem h]
  simp only [List.map_append, List.map_cons, List.map_nil, List.append_assoc, List.cons_append, List.nil_append]
  rw [List.getD_eq_getElem?_getD, List.getElem?_eq_getElem h, Option.getD_some]
end Go.Proofs.YtpbjekdjebjbkaaGreat
namespace Go.Proofs.YtpbjekdjebjbkaaGreat
open Go.RowKit

/-- A number in eight bytes, from the back: i are laid. -/
def eR (h i : Nat) : List Nat := (List.range 8).map (fun p => if 8 - i ≤ p then h / 256 ^ (7 - p) % 256 else 0)
end Go.Proofs.YtpbjekdjebjbkaaGreat
namespace Go.Proofs.YtpbjekdjebjbkaaGreat
open Go.RowKit

theorem cl147 : callable Tryz.prog 147 = true := by kernel_rfl
theorem cl148 : callable Tryz.prog 148 = true := by kernel_rfl
theorem cl149 : callable Tryz.prog 149 = true := by kernel_rfl
theorem fo189_0 : foO Tryz.prog 189 0 = some 0 := by kernel_rfl
theorem fo192_0 : foO Tryz.prog 192 0 = some 0 := by kernel_rfl
theorem fo192_1 : foO Tryz.prog 192 1 = some 4 := by kernel_rfl
theorem sz144 : szO Tryz.prog 144 = some 1 := by kernel_rfl
theorem sz187 : szO Tryz.prog 187 = some 4 := by kernel_rfl
theorem sz189 : szO Tryz.prog 189 = some 4 := by kernel_rfl
theorem sz3 : szO Tryz.prog 3 = some 1 := by kernel_rfl
theorem ze189 : zeO Tryz.prog 189 = some (.agg #[.int .u64 0, .int .u64 0, .int .u64 0, .int .u64 0]) := by kernel_rfl
theorem begL_lt : ∀ x ∈ [startT 0, startT 1, startT 2, startT 3], x < 18446744073709551616 := by decide
/-- What begun lays: the first k lanes. -/
def begTo (k : Nat) : List Nat := (List.range 4).map (fun i => if i < k then startT i else 0)
theorem begTo_len (k : Nat) : (begTo k).length = 4 := by unfold begTo; simp
theorem begTo_at {k p : Nat} (hp : p < 4) : (begTo k)[p]? = some (if p < k then startT p else 0) := by
  unfold begTo; rw [List.getElem?_map, List.getElem?_range hp]; rfl
theorem begTo_next {k : Nat} (hk : k < 4) : (begTo k).set k (startT k) = begTo (k + 1) := by
  apply List.ext_getElem?
  intro p
  rw [List.getElem?_set, begTo_len]
  by_cases hp : p < 4
  · rw [begTo_at hp, begTo_at hp]
    by_cases e : k = p
    · subst e; rw [if_pos rfl, if_pos hk, if_pos (by omega)]
    · rw [if_neg e]
      by_cases e2 : p < k
      · rw [if_pos e2, if_pos (by omega)]
      · rw [if_neg e2, if_neg (by omega)]
  · rw [if_neg (by omega), List.getElem?_eq_none (by rw [begTo_len]; omega), List.getElem?_eq_none (by rw [begTo_len]; omega)]
def begL : List Nat := begTo 4
theorem begL_len : begL.length = 4 := begTo_len 4
theorem lanV_ext {l : List Nat} (hl : l.length = 4) : (lanV l).extract 0 (0 + 4) = lanV l := by
  apply Array.ext'
  have := uV_len l
  unfold lanV
  simp
  exact List.take_of_length_le (by omega)
set_option maxRecDepth 20000 in
set_option maxHeartbeats 4000000 in
theorem begun_h   (w : World) : Calls Tryz.prog 147 #[] w fun e w' => e = .returned (.agg (lanV begL)) ∧ S w' [Old w no] := by
  have H0 := S.old w
  refine enter 15 Tryz.func147 rfl rfl rfl ?_
  refine g_weak [] trivial ?_
  refine g_seq ?_
  refine g_region ?_
  refine l_of (s_alloc H0 (wt0 rfl) rfl rfl rfl ze189 ?_)
  intro g1 wq2 H3
  replace H3 : S wq2 [Ob g1 (.cells (lanV (begTo 0)) 189 (0, 0)), Old w no] := H3
  refine g_nil ?_
  refine g_then ?_
  refine g_seq ?_
  refine g_region ?_
  refine l_of (s_alloc H3 (wt0 rfl) rfl rfl rfl ze189 ?_)
  intro g4 wq5 H6
  replace H6 : S wq5 [Ob g4 (.cells (lanV (begTo 0)) 189 (0, 0)), Ob g1 (.cells (lanV (begTo 0)) 189 (0, 0)), Old w no] := H6
  refine g_nil ?_
  refine g_then ?_
  refine g_seq ?_
  refine g_seq ?_
  refine g_region ?_
  refine l_of (s_val (v := .int .i64 0) (wt0 rfl) rfl rfl (x_move rfl rfl) ?_)
  refine g_nil ?_
  refine g_then ?_
  refine g_block ?_
  refine g_loop (ι := Nat) (fun k => [(0, .pointer (some ⟨g1, 0, none⟩)), (1, .pointer (some ⟨g4, 0, none⟩)), (3, .int .i64 ((k : Int)))]) (fun k wx => (k ≤ 4) ∧ S wx [Ob g4 (.cells (lanV (begTo k)) 189 (0, 0)), Ob g1 (.cells (lanV (begTo 0)) 189 (0, 0)), Old w no]) (fun k => 4 - k) (0) ⟨rfl, rfl, rfl, trivial⟩ ⟨Nat.zero_le _, (H6.takes [0, 1, 2] (by decide))⟩ ?_
  rintro k wq7 ⟨hk, H8⟩
  replace H8 : S wq7 [Ob g4 (.cells (lanV (begTo k)) 189 (0, 0)), Ob g1 (.cells (lanV (begTo 0)) 189 (0, 0)), Old w no] := H8
  refine g_weak [(0, .pointer (some ⟨g1, 0, none⟩)), (1, .pointer (some ⟨g4, 0, none⟩)), (3, .int .i64 ((k : Int)))] ⟨rfl, rfl, rfl, trivial⟩ ?_
  refine g_seq ?_
  refine g_region ?_
  refine l_of (s_val (v := .bool (decide (((k : Int) : Int) < 4))) (wt0 rfl) rfl rfl (x_bin rfl rfl rfl b_lss) ?_)
  refine g_nil ?_
  refine g_then ?_
  refine g_seq ?_
  by_cases hb9 : ((k : Int) : Int) < 4
  · skip
    refine g_cond_t rfl (decide_eq_true hb9) ?_
    refine g_skip ?_
    refine g_then ?_
    refine g_seq ?_
    refine g_block ?_
    refine g_seq ?_
    refine g_region ?_
    refine l_of (s_val (v := .int .i64 ((k : Int))) (wt0 rfl) rfl rfl (x_move rfl rfl) ?_)
    refine l_of (s_val (v := .int .i64 ((k : Int))) (wt0 rfl) rfl rfl (x_assign rfl rfl) ?_)
    refine g_nil ?_
    refine g_then ?_
    refine g_region ?_
    refine l_of (s_val (v := .int .i64 ((k : Int))) (wt0 rfl) rfl rfl (x_move rfl rfl) ?_)
    refine l_of (s_val (v := .int .i64 ((k : Int))) (wt0 rfl) rfl rfl (x_move rfl rfl) ?_)
    refine l_of (s_val (v := .int .u64 ((k : Int))) (wt0 rfl) rfl rfl (x_conv rfl rfl Tryz.underlying3 Tryz.underlying144 (wrapU (by omega))) ?_)
    refine l_of (s_val (v := .int .u64 (((k * 11400714819323198485 % 18446744073709551616 : Nat) : Int))) (wt0 rfl) rfl rfl (x_bin rfl rfl rfl (b_mulU k 11400714819323198485)) ?_)
    refine l_of (s_val (v := .int .u64 (((startT k : Nat) : Int))) (wt0 rfl) rfl rfl (x_bin rfl rfl rfl (b_addU 14695981039346656037 (k * 11400714819323198485 % 18446744073709551616))) ?_)
    refine l_of (s_val (v := .pointer (some ⟨g4, 0, none⟩)) (wt0 rfl) rfl rfl (x_fieldAddr rfl rfl fo189_0 rfl) ?_)
    refine l_of (s_val (v := .pointer (some ⟨g4, k, none⟩)) (wt0 rfl) rfl rfl (x_indexAddrA k rfl rfl rfl Tryz.underlying187 sz144 (by omega) (off' := k) (by omega)) ?_)
    refine l_of (s_store1 H8 0 (wt0 rfl) rfl rfl rfl rfl rfl sz144 rfl rfl (by rw [lanV_size]; simp [begTo_len]; omega) ?_)
    intro wq10 H11
    rw [lanV_set (l := (begTo k)) (i := k) (x := (startT k)) (by simp [begTo_len]; omega)] at H11
    replace H11 : S wq10 [Ob g4 (.cells (lanV ((begTo k).set k (startT k))) 189 (0, 0)), Ob g1 (.cells (lanV (begTo 0)) 189 (0, 0)), Old w no] := H11
    refine g_nil ?_
    refine g_in ?_
    refine g_then ?_
    refine g_region ?_
    refine l_of (s_val (v := .int .i64 ((k : Int) + 1)) (wt0 rfl) rfl rfl (x_bin rfl rfl rfl (b_add (w64 (by omega)))) ?_)
    refine l_of (s_val (v := .int .i64 ((k : Int) + 1)) (wt0 rfl) rfl rfl (x_move rfl rfl) ?_)
    refine g_nil ?_
    refine g_then ?_
    refine g_round (i := (k)) (k + 1) ?_ ?_ ?_
    · exact ⟨rfl, rfl, rfl, trivial⟩
    · exact ⟨by omega, (by rw [← begTo_next (by omega)]; exact (H11.takes [0, 1, 2] (by decide)))⟩
    · (try dsimp only); omega
  · skip
    refine g_cond_f rfl (decide_eq_false hb9) ?_
    refine g_exit ?_
    refine g_then_exit ?_
    refine g_then_exit ?_
    refine g_in_hit ?_
    refine g_then ?_
    refine g_seq ?_
    refine g_region ?_
    refine l_of (s_val (v := .agg (lanV (begTo k))) (wt0 rfl) rfl rfl (x_loadA H8 0 rfl rfl Tryz.underlying189 rfl sz189 rfl (Nat.ble_eq_true_of_le (by rw [lanV_size, begTo_len]; omega)) (lanV_ext (begTo_len _))) ?_)
    refine l_of (s_store H8 1 (wt0 rfl) rfl rfl rfl rfl rfl sz189 rfl rfl (cs' := lanV (begTo k)) (by simp [Value.cells, lanV, uV_len, begTo_len]) ?_)
    intro wq12 H13
    replace H13 : S wq12 [Ob g4 (.cells (lanV (begTo k)) 189 (0, 0)), Ob g1 (.cells (lanV (begTo k)) 189 (0, 0)), Old w no] := H13
    refine g_nil ?_
    refine g_then ?_
    refine g_ret ?_
    refine fin_ret [.cell 0 189] [.agg (lanV (begTo k))] rfl ⟨⟨_, rfl, run_loadA (H13.ob (k := 1) rfl) Tryz.underlying189 rfl sz189 rfl rfl⟩, trivial⟩ ?_
    have hk4 : k = 4 := by omega
    subst hk4
    exact ⟨rfl, H13.mask [false, false, true]⟩
set_option maxRecDepth 20000 in
set_option maxHeartbeats 4000000 in
theorem newh_h   (w : World) : Calls Tryz.prog 144 #[] w fun e w' => ∃ g, e = .returned (.pointer (some ⟨g, 0, none⟩)) ∧ S w' ([Ob g (.cells (hashV begL 0) 192 (0, 0))] ++ [Old w no]) := by
  have H0 := S.old w
  refine enter 4 Tryz.func144 rfl rfl rfl ?_
  refine g_weak [] trivial ?_
  refine g_seq ?_
  refine g_region ?_
  refine l_of (s_val (v := .pointer none) (wt0 rfl) rfl rfl (x_assign rfl rfl) ?_)
  refine g_nil ?_
  refine g_then ?_
  refine g_seq ?_
  refine g_region ?_
  refine l_of (s_call (wt0 rfl) (x_call' rfl rfl cl147) (begun_h _) ?_)
  rintro _ wq1 ⟨rfl, H2⟩
  replace H2 : S wq1 [Old w no] := H0.absorb (new := []) H2
  refine b_ret rfl rfl ?_
  refine l_of (s_val (v := .agg (hashV begL 0)) (wt0 rfl) rfl rfl (x_build (vs := [.agg (lanV begL)]) rfl rfl (cells := hashV begL 0) (by kernel_rfl)) ?_)
  refine l_of (s_box H2 (wt0 rfl) rfl rfl rfl rfl ?_)
  intro g3 wq4 H5
  replace H5 : S wq4 [Ob g3 (.cells (hashV begL 0) 192 (0, 0)), Old w no] := H5
  refine l_of (s_val (v := .pointer (some ⟨g3, 0, none⟩)) (wt0 rfl) rfl rfl (x_assign rfl rfl) ?_)
  refine g_nil ?_
  refine g_then ?_
  refine g_ret ?_
  refine fin_ret [.tmp 0] [.pointer (some ⟨g3, 0, none⟩)] rfl ⟨rfl, trivial⟩ ?_
  exact ⟨_, rfl, H5⟩
theorem getD_u {l : List Nat} (h : ∀ x ∈ l, x < 18446744073709551616) (i : Nat) : l.getD i 0 < 18446744073709551616 := by
  rw [List.getD_eq_getElem?_getD]
  cases hq : l[i]? with
  | none => show (0 : Nat) < _; omega
  | some x => exact h x (List.mem_of_getElem? hq)
set_option maxRecDepth 20000 in
set_option maxHeartbeats 4000000 in
set_option maxRecDepth 20000 in
set_option maxHeartbeats 4000000 in
theorem take_h (gh n : Nat) (l : List Nat) (hl : l.length = 4) (hlt : ∀ x ∈ l, x < 18446744073709551616) (b : Nat) (hb : b < 256) (w : World) (HB : S w [Ob gh (.cells (hashV l n) 192 (0, 0))]) : Calls Tryz.prog 149 #[.pointer (some ⟨gh, 0, none⟩), .int .u8 (b : Int)] w fun e w' => e = .returned (.tuple #[]) ∧ S w' ([Ob gh (.cells (hashV (l.map (mixT · b)) n) 192 (0, 0))] ++ [Old w (fps [Ob gh (.cells (hashV l n) 192 (0, 0))])]) := by
  have H0 : S w [Ob gh (.cells (hashV l n) 192 (0, 0)), Old w (fps [Ob gh (.cells (hashV l n) 192 (0, 0))])] := HB.beginI
  refine enter 29 Tryz.func149 rfl rfl rfl ?_
  refine g_weak [(0, .pointer (some ⟨gh, 0, none⟩)), (1, .int .u8 ((b : Int)))] ⟨rfl, rfl, trivial⟩ ?_
  refine g_seq ?_
  refine g_region ?_
  refine l_of (s_val (v := .pointer (some ⟨gh, 0, none⟩)) (wt0 rfl) rfl rfl (x_move rfl rfl) ?_)
  refine l_of (s_val (v := .pointer (some ⟨gh, 0, none⟩)) (wt0 rfl) rfl rfl (x_nilCheck rfl rfl) ?_)
  refine l_of (s_val (v := .pointer (some ⟨gh, 0, none⟩)) (wt0 rfl) rfl rfl (x_fieldAddr rfl rfl fo189_0 rfl) ?_)
  refine l_of (s_val (v := .agg (lanV l)) (wt0 rfl) rfl rfl (x_loadA H0 0 rfl rfl Tryz.underlying187 rfl sz187 rfl (Nat.ble_eq_true_of_le (by rw [hashV_size]; omega)) (hashV_ext hl)) ?_)
  refine l_of (s_val (v := .int .i64 0) (wt0 rfl) rfl rfl (x_move rfl rfl) ?_)
  refine g_nil ?_
  refine g_then ?_
  refine g_block ?_
  refine g_loop (ι := Nat) (fun k => [(0, .pointer (some ⟨gh, 0, none⟩)), (1, .int .u8 ((b : Int))), (9, .agg (lanV l)), (10, .int .i64 ((k : Int)))]) (fun k wx => (k ≤ 4) ∧ S wx [Ob gh (.cells (hashV (takeTo k b l) n) 192 (0, 0)), Old w (fps [Ob gh (.cells (hashV l n) 192 (0, 0))])]) (fun k => 4 - k) (0) ⟨rfl, rfl, rfl, rfl, trivial⟩ ⟨Nat.zero_le _, (by rw [takeTo_zero]; exact H0)⟩ ?_
  rintro k wq1 ⟨hk, H2⟩
  replace H2 : S wq1 [Ob gh (.cells (hashV (takeTo k b l) n) 192 (0, 0)), Old w (fps [Ob gh (.cells (hashV l n) 192 (0, 0))])] := H2
  refine g_weak [(0, .pointer (some ⟨gh, 0, none⟩)), (1, .int .u8 ((b : Int))), (9, .agg (lanV l)), (10, .int .i64 ((k : Int)))] ⟨rfl, rfl, rfl, rfl, trivial⟩ ?_
  have hgl : l.getD k 0 < 18446744073709551616 := getD_u hlt k
  have hx := u64_xor hgl (show b < 18446744073709551616 by omega)
  have hX : ((l.getD k 0 ^^^ b) * 1099511628211 % 18446744073709551616) < 18446744073709551616 := Nat.mod_lt _ (by omega)
  have hX2 : ((l.getD k 0 ^^^ b) * 1099511628211 % 18446744073709551616) / 536870912 ≤ ((l.getD k 0 ^^^ b) * 1099511628211 % 18446744073709551616) := Nat.div_le_self _ _
  refine g_seq ?_
  refine g_region ?_
  refine l_of (s_val (v := .bool (decide (((k : Int) : Int) < 4))) (wt0 rfl) rfl rfl (x_bin rfl rfl rfl b_lss) ?_)
  refine g_nil ?_
  refine g_then ?_
  refine g_seq ?_
  by_cases hb3 : ((k : Int) : Int) < 4
  · skip
    refine g_cond_t rfl (decide_eq_true hb3) ?_
    refine g_skip ?_
    refine g_then ?_
    refine g_seq ?_
    refine g_block ?_
    refine g_seq ?_
    refine g_region ?_
    refine l_of (s_val (v := .int .i64 ((k : Int))) (wt0 rfl) rfl rfl (x_move rfl rfl) ?_)
    refine l_of (s_val (v := .int .u64 (((l.getD k 0 : Nat) : Int))) (wt0 rfl) rfl rfl (x_indexW k rfl rfl rfl Tryz.underlying187 sz144 Tryz.underlying144 rfl (by omega) (lanV_at (by omega))) ?_)
    refine l_of (s_val (v := .int .i64 ((k : Int))) (wt0 rfl) rfl rfl (x_assign rfl rfl) ?_)
    refine l_of (s_val (v := .int .u64 (((l.getD k 0 : Nat) : Int))) (wt0 rfl) rfl rfl (x_assign rfl rfl) ?_)
    refine g_nil ?_
    refine g_then ?_
    refine g_seq ?_
    refine g_region ?_
    refine l_of (s_val (v := .int .u64 (((l.getD k 0 : Nat) : Int))) (wt0 rfl) rfl rfl (x_move rfl rfl) ?_)
    refine l_of (s_val (v := .int .u8 ((b : Int))) (wt0 rfl) rfl rfl (x_move rfl rfl) ?_)
    refine l_of (s_val (v := .int .u64 ((b : Int))) (wt0 rfl) rfl rfl (x_conv rfl rfl Tryz.underlying5 Tryz.underlying144 (wrapU (by omega))) ?_)
    refine l_of (s_val (v := .int .u64 (((l.getD k 0 ^^^ b : Nat) : Int))) (wt0 rfl) rfl rfl (x_bin rfl rfl rfl (b_xorU (a := l.getD k 0) (b := b) (by omega))) ?_)
    refine l_of (s_val (v := .int .u64 (((((l.getD k 0 ^^^ b) * 1099511628211 % 18446744073709551616) : Nat) : Int))) (wt0 rfl) rfl rfl (x_bin rfl rfl rfl (b_mulU (l.getD k 0 ^^^ b) 1099511628211)) ?_)
    refine l_of (s_val (v := .int .u64 (((((l.getD k 0 ^^^ b) * 1099511628211 % 18446744073709551616) : Nat) : Int))) (wt0 rfl) rfl rfl (x_assign rfl rfl) ?_)
    refine g_nil ?_
    refine g_then ?_
    refine g_region ?_
    refine l_of (s_val (v := .pointer (some ⟨gh, 0, none⟩)) (wt0 rfl) rfl rfl (x_move rfl rfl) ?_)
    refine l_of (s_val (v := .int .i64 ((k : Int))) (wt0 rfl) rfl rfl (x_move rfl rfl) ?_)
    refine l_of (s_val (v := .int .u64 (((((l.getD k 0 ^^^ b) * 1099511628211 % 18446744073709551616) : Nat) : Int))) (wt0 rfl) rfl rfl (x_move rfl rfl) ?_)
    refine l_of (s_val (v := .int .u64 (((((l.getD k 0 ^^^ b) * 1099511628211 % 18446744073709551616) : Nat) : Int))) (wt0 rfl) rfl rfl (x_move rfl rfl) ?_)
    refine l_of (s_val (v := .int .u64 (((((l.getD k 0 ^^^ b) * 1099511628211 % 18446744073709551616) / 536870912 : Nat) : Int))) (wt0 rfl) rfl rfl (x_bin rfl rfl rfl (b_shrN (a := ((l.getD k 0 ^^^ b) * 1099511628211 % 18446744073709551616)) (n := 29) (by decide))) ?_)
    refine l_of (s_val (v := .int .u64 (((mixT (l.getD k 0) b : Nat) : Int))) (wt0 rfl) rfl rfl (x_bin rfl rfl rfl (b_xorU (a := ((l.getD k 0 ^^^ b) * 1099511628211 % 18446744073709551616)) (b := ((l.getD k 0 ^^^ b) * 1099511628211 % 18446744073709551616) / 536870912) (by omega))) ?_)
    refine l_of (s_val (v := .pointer (some ⟨gh, 0, none⟩)) (wt0 rfl) rfl rfl (x_nilCheck rfl rfl) ?_)
    refine l_of (s_val (v := .pointer (some ⟨gh, 0, none⟩)) (wt0 rfl) rfl rfl (x_fieldAddr rfl rfl fo189_0 rfl) ?_)
    refine l_of (s_val (v := .pointer (some ⟨gh, k, none⟩)) (wt0 rfl) rfl rfl (x_indexAddrA k rfl rfl rfl Tryz.underlying187 sz144 (by omega) (off' := k) (by omega)) ?_)
    refine l_of (s_store1 H2 0 (wt0 rfl) rfl rfl rfl rfl rfl sz144 rfl rfl (by rw [hashV_size, takeTo_len]; omega) ?_)
    intro wq4 H5
    rw [hashV_set (l := (takeTo k b l)) (i := k) (x := (mixT (l.getD k 0) b)) (by rw [takeTo_len]; omega)] at H5
    replace H5 : S wq4 [Ob gh (.cells (hashV ((takeTo k b l).set k (mixT (l.getD k 0) b)) n) 192 (0, 0)), Old w (fps [Ob gh (.cells (hashV l n) 192 (0, 0))])] := H5
    refine g_nil ?_
    refine g_in ?_
    refine g_then ?_
    refine g_weak [(0, .pointer (some ⟨gh, 0, none⟩)), (1, .int .u8 ((b : Int))), (9, .agg (lanV l)), (10, .int .i64 ((k : Int)))] ⟨rfl, rfl, rfl, rfl, trivial⟩ ?_
    refine g_region ?_
    refine l_of (s_val (v := .int .i64 ((k : Int) + 1)) (wt0 rfl) rfl rfl (x_bin rfl rfl rfl (b_add (w64 (by omega)))) ?_)
    refine l_of (s_val (v := .int .i64 ((k : Int) + 1)) (wt0 rfl) rfl rfl (x_move rfl rfl) ?_)
    refine g_nil ?_
    refine g_then ?_
    refine g_round (i := (k)) (k + 1) ?_ ?_ ?_
    · exact ⟨rfl, rfl, rfl, rfl, trivial⟩
    · exact ⟨by omega, (by rw [← takeTo_next (by omega)]; exact H5)⟩
    · (try dsimp only); omega
  · skip
    refine g_cond_f rfl (decide_eq_false hb3) ?_
    refine g_exit ?_
    refine g_then_exit ?_
    refine g_then_exit ?_
    refine g_in_hit ?_
    refine fin_end [] [] rfl trivial ?_
    have hk4 : k = l.length := by omega
    subst hk4
    exact ⟨rfl, by rw [← takeTo_all]; exact H2.mask [true, true]⟩
theorem lanes_lt {s : ByteArray} {l : List Nat} (h : ∀ x ∈ l, x < 18446744073709551616) (i : Nat) : ∀ x ∈ l.map (laneP s · i), x < 18446744073709551616 := fun x hx => by
  obtain ⟨y, hy, rfl⟩ := List.mem_map.1 hx
  exact laneP_lt (h y hy) i
theorem lanes_next (s : ByteArray) (l : List Nat) (i : Nat) : (l.map (laneP s · i)).map (mixT · (bt' s i)) = l.map (laneP s · (i + 1)) := by rw [List.map_map]; rfl
theorem lanes_zero (s : ByteArray) (l : List Nat) : l.map (laneP s · 0) = l := by
  conv => rhs; rw [← List.map_id l]
  rfl
set_option maxRecDepth 20000 in
set_option maxHeartbeats 4000000 in
set_option maxRecDepth 20000 in
set_option maxHeartbeats 4000000 in
theorem each_h (gh n : Nat) (l : List Nat) (hl : l.length = 4) (hlt : ∀ x ∈ l, x < 18446744073709551616) (s : ByteArray) (hs : s.size ≤ 1099511627776) (w : World) (HB : S w [Ob gh (.cells (hashV l n) 192 (0, 0))]) : Calls Tryz.prog 148 #[.string s, .func (.func 149) #[.pointer (some ⟨gh, 0, none⟩)] #[]] w fun e w' => e = .returned (.tuple #[]) ∧ S w' ([Ob gh (.cells (hashV (l.map (laneP s · s.size)) n) 192 (0, 0))] ++ [Old w (fps [Ob gh (.cells (hashV l n) 192 (0, 0))])]) := by
  have H0 : S w [Ob gh (.cells (hashV l n) 192 (0, 0)), Old w (fps [Ob gh (.cells (hashV l n) 192 (0, 0))])] := HB.beginI
  refine enter 16 Tryz.func148 rfl rfl rfl ?_
  refine g_weak [(0, .string s), (1, .func (.func 149) #[.pointer (some ⟨gh, 0, none⟩)] #[])] ⟨rfl, rfl, trivial⟩ ?_
  refine g_seq ?_
  refine g_region ?_
  refine l_of (s_val (v := .string s) (wt0 rfl) rfl rfl (x_move rfl rfl) ?_)
  refine l_of (s_val (v := .int .i64 ((s.size : Int))) (wt0 rfl) rfl rfl (x_lens rfl rfl Tryz.underlying9) ?_)
  refine l_of (s_val (v := .int .i64 0) (wt0 rfl) rfl rfl (x_move rfl rfl) ?_)
  refine g_nil ?_
  refine g_then ?_
  refine g_block ?_
  refine g_loop (ι := Nat) (fun i => [(0, .string s), (1, .func (.func 149) #[.pointer (some ⟨gh, 0, none⟩)] #[]), (6, .int .i64 ((s.size : Int))), (7, .int .i64 ((i : Int)))]) (fun i wx => (i ≤ s.size) ∧ S wx [Ob gh (.cells (hashV (l.map (laneP s · i)) n) 192 (0, 0)), Old w (fps [Ob gh (.cells (hashV l n) 192 (0, 0))])]) (fun i => s.size - i) (0) ⟨rfl, rfl, rfl, rfl, trivial⟩ ⟨Nat.zero_le _, (by rw [lanes_zero]; exact H0)⟩ ?_
  rintro i wq1 ⟨hi, H2⟩
  replace H2 : S wq1 [Ob gh (.cells (hashV (l.map (laneP s · i)) n) 192 (0, 0)), Old w (fps [Ob gh (.cells (hashV l n) 192 (0, 0))])] := H2
  refine g_weak [(0, .string s), (1, .func (.func 149) #[.pointer (some ⟨gh, 0, none⟩)] #[]), (6, .int .i64 ((s.size : Int))), (7, .int .i64 ((i : Int)))] ⟨rfl, rfl, rfl, rfl, trivial⟩ ?_
  refine g_seq ?_
  refine g_region ?_
  refine l_of (s_val (v := .bool (decide (((i : Int) : Int) < (s.size : Int)))) (wt0 rfl) rfl rfl (x_bin rfl rfl rfl b_lss) ?_)
  refine g_nil ?_
  refine g_then ?_
  refine g_seq ?_
  by_cases hb3 : ((i : Int) : Int) < (s.size : Int)
  · skip
    refine g_cond_t rfl (decide_eq_true hb3) ?_
    refine g_skip ?_
    refine g_then ?_
    refine g_seq ?_
    refine g_block ?_
    refine g_seq ?_
    refine g_region ?_
    refine l_of (s_val (v := .int .i64 ((i : Int))) (wt0 rfl) rfl rfl (x_move rfl rfl) ?_)
    refine l_of (s_val (v := .int .i64 ((i : Int))) (wt0 rfl) rfl rfl (x_assign rfl rfl) ?_)
    refine g_nil ?_
    refine g_then ?_
    refine g_region ?_
    refine l_of (s_val (v := .func (.func 149) #[.pointer (some ⟨gh, 0, none⟩)] #[]) (wt0 rfl) rfl rfl (x_move rfl rfl) ?_)
    refine l_of (s_val (v := .string s) (wt0 rfl) rfl rfl (x_move rfl rfl) ?_)
    refine l_of (s_val (v := .int .i64 ((i : Int))) (wt0 rfl) rfl rfl (x_move rfl rfl) ?_)
    have hbt4 := bt'_lt s i
    refine l_of (s_val (v := .int .u8 ((bt' s i : Int))) (wt0 rfl) rfl rfl (x_index i rfl rfl rfl Tryz.underlying9 (by omega)) ?_)
    refine l_of (s_call (wt0 rfl) (x_call rfl rfl rfl cl149) (take_h gh n (l.map (laneP s · i)) (by simp [hl]) (lanes_lt hlt i) (bt' s i) (bt'_lt s i) _ (H2.takes [0] (by decide))) ?_)
    rintro _ wq5 ⟨rfl, H6⟩
    rw [lanes_next] at H6
    replace H6 : S wq5 [Ob gh (.cells (hashV (l.map (laneP s · (i + 1))) n) 192 (0, 0)), Old w (fps [Ob gh (.cells (hashV l n) 192 (0, 0))])] := H2.absorbI (new := [Ob gh (.cells (hashV (l.map (laneP s · (i + 1))) n) 192 (0, 0))]) [0] H6
    refine b_ret rfl rfl ?_
    refine g_nil ?_
    refine g_in ?_
    refine g_then ?_
    refine g_region ?_
    refine l_of (s_val (v := .int .i64 ((i : Int) + 1)) (wt0 rfl) rfl rfl (x_bin rfl rfl rfl (b_add (w64 (by omega)))) ?_)
    refine l_of (s_val (v := .int .i64 ((i : Int) + 1)) (wt0 rfl) rfl rfl (x_move rfl rfl) ?_)
    refine g_nil ?_
    refine g_then ?_
    refine g_round (i := (i)) (i + 1) ?_ ?_ ?_
    · exact ⟨rfl, rfl, rfl, rfl, trivial⟩
    · exact ⟨by omega, H6⟩
    · (try dsimp only); omega
  · skip
    refine g_cond_f rfl (decide_eq_false hb3) ?_
    refine g_exit ?_
    refine g_then_exit ?_
    refine g_then_exit ?_
    refine g_in_hit ?_
    refine fin_end [] [] rfl trivial ?_
    have his : i = s.size := by omega
    exact ⟨rfl, by rw [← his]; exact H2.mask [true, true]⟩
set_option maxRecDepth 20000 in
set_option maxHeartbeats 4000000 in
set_option maxRecDepth 20000 in
set_option maxHeartbeats 4000000 in
theorem addh_h (gh n : Nat) (l : List Nat) (hl : l.length = 4) (hlt : ∀ x ∈ l, x < 18446744073709551616) (s : ByteArray) (hs : s.size ≤ 1099511627776) (hn : n ≤ 1099511627776) (w : World) (HB : S w [Ob gh (.cells (hashV l n) 192 (0, 0))]) : Calls Tryz.prog 145 #[.pointer (some ⟨gh, 0, none⟩), .string s] w fun e w' => e = .returned (.tuple #[]) ∧ S w' ([Ob gh (.cells (hashV (l.map (laneP s · s.size)) (n + s.size)) 192 (0, 0))] ++ [Old w (fps [Ob gh (.cells (hashV l n) 192 (0, 0))])]) := by
  have H0 : S w [Ob gh (.cells (hashV l n) 192 (0, 0)), Old w (fps [Ob gh (.cells (hashV l n) 192 (0, 0))])] := HB.beginI
  refine enter 21 Tryz.func145 rfl rfl rfl ?_
  refine g_weak [(0, .pointer (some ⟨gh, 0, none⟩)), (1, .string s)] ⟨rfl, rfl, trivial⟩ ?_
  refine g_seq ?_
  refine g_seq ?_
  refine g_region ?_
  refine l_of (s_val (v := .pointer (some ⟨gh, 0, none⟩)) (wt0 rfl) rfl rfl (x_move rfl rfl) ?_)
  refine l_of (s_val (v := .bool false) (wt0 rfl) rfl rfl (x_bin rfl rfl rfl (b_eqN (r := false) Tryz.underlying184 rfl)) ?_)
  refine g_nil ?_
  refine g_then ?_
  refine g_cond_f rfl rfl ?_
  refine g_skip ?_
  refine g_then ?_
  refine g_seq ?_
  refine g_region ?_
  refine l_of (s_val (v := .string s) (wt0 rfl) rfl rfl (x_move rfl rfl) ?_)
  refine l_of (s_val (v := .pointer (some ⟨gh, 0, none⟩)) (wt0 rfl) rfl rfl (x_move rfl rfl) ?_)
  refine l_of (s_val (v := .pointer (some ⟨gh, 0, none⟩)) (wt0 rfl) rfl rfl (x_nilCheck rfl rfl) ?_)
  refine l_of (s_val (v := .pointer (some ⟨gh, 0, none⟩)) (wt0 rfl) rfl rfl (x_fieldAddr rfl rfl fo192_0 rfl) ?_)
  refine l_of (s_val (v := .func (.func 149) #[.pointer (some ⟨gh, 0, none⟩)] #[]) (wt0 rfl) rfl rfl (x_makeFunc rfl rfl rfl) ?_)
  refine l_of (s_call (wt0 rfl) (x_call' rfl rfl cl148) (each_h gh n l hl hlt s hs _ (H0.takes [0] (by decide))) ?_)
  rintro _ wq1 ⟨rfl, H2⟩
  replace H2 : S wq1 [Ob gh (.cells (hashV (l.map (laneP s · s.size)) n) 192 (0, 0)), Old w (fps [Ob gh (.cells (hashV l n) 192 (0, 0))])] := H0.absorbI (new := [Ob gh (.cells (hashV (l.map (laneP s · s.size)) n) 192 (0, 0))]) [0] H2
  refine b_ret rfl rfl ?_
  refine g_nil ?_
  refine g_then ?_
  refine g_region ?_
  refine l_of (s_val (v := .pointer (some ⟨gh, 0, none⟩)) (wt0 rfl) rfl rfl (x_move rfl rfl) ?_)
  refine l_of (s_val (v := .pointer (some ⟨gh, 0, none⟩)) (wt0 rfl) rfl rfl (x_nilCheck rfl rfl) ?_)
  refine l_of (s_val (v := .pointer (some ⟨gh, 4, none⟩)) (wt0 rfl) rfl rfl (x_fieldAddr rfl rfl fo192_1 rfl) ?_)
  refine l_of (s_val (v := .int .i64 ((n : Int))) (wt0 rfl) rfl rfl (x_load1 H2 0 rfl rfl Tryz.underlying3 rfl rfl (hashV_at (by first | omega | (simp only [List.length_map, takeTo_len]; omega)))) ?_)
  refine l_of (s_val (v := .string s) (wt0 rfl) rfl rfl (x_move rfl rfl) ?_)
  refine l_of (s_val (v := .int .i64 ((s.size : Int))) (wt0 rfl) rfl rfl (x_lens rfl rfl Tryz.underlying9) ?_)
  refine l_of (s_val (v := .int .i64 (((n + s.size : Nat) : Int))) (wt0 rfl) rfl rfl (x_bin rfl rfl rfl (b_addN (a := n) (b := s.size) (by omega))) ?_)
  refine l_of (s_val (v := .pointer (some ⟨gh, 0, none⟩)) (wt0 rfl) rfl rfl (x_nilCheck rfl rfl) ?_)
  refine l_of (s_val (v := .pointer (some ⟨gh, 4, none⟩)) (wt0 rfl) rfl rfl (x_fieldAddr rfl rfl fo192_1 rfl) ?_)
  refine l_of (s_store1 H2 0 (wt0 rfl) rfl rfl rfl rfl rfl sz3 rfl rfl (by rw [hashV_size]; first | omega | (simp only [List.length_map, takeTo_len]; omega)) ?_)
  intro wq3 H4
  rw [hashV_setN (l := (l.map (laneP s · s.size))) (n := n) (m := (n + s.size)) (by first | omega | (simp only [List.length_map, takeTo_len]; omega))] at H4
  replace H4 : S wq3 [Ob gh (.cells (hashV (l.map (laneP s · s.size)) (n + s.size)) 192 (0, 0)), Old w (fps [Ob gh (.cells (hashV l n) 192 (0, 0))])] := H4
  refine g_nil ?_
  refine fin_end [] [] rfl trivial ?_
  exact ⟨rfl, H4.mask [true, true]⟩
end Go.Proofs.YtpbjekdjebjbkaaGreat
namespace Go.Proofs.YtpbjekdjebjbkaaGreat
open Go.RowKit

theorem cl144 : callable Tryz.prog 144 = true := by kernel_rfl
theorem cl145 : callable Tryz.prog 145 = true := by kernel_rfl
theorem cl146 : callable Tryz.prog 146 = true := by kernel_rfl
theorem cl150 : callable Tryz.prog 150 = true := by kernel_rfl
theorem cl151 : callable Tryz.prog 151 = true := by kernel_rfl
theorem inf5 : infO Tryz.prog 5 = some (some (.int .u8 0), 1, 1) := by kernel_rfl
theorem sz5 : szO Tryz.prog 5 = some 1 := by kernel_rfl
theorem ze5 : zeO Tryz.prog 5 = some (.int .u8 0) := by kernel_rfl
theorem bytes_row {b : List Nat} (h : ∀ x ∈ b, x < 256) {w : World} {p : Option Addr} {n c : Nat} (hr : Reads w p n c 1 (nbL b)) : Reads w p n c 1 (bytesV (b.map UInt8.ofNat)) := by rw [← nbL_bytes h]; exact hr
set_option maxRecDepth 20000 in
set_option maxHeartbeats 4000000 in
theorem eight_h (h : Nat) (hh : h < 18446744073709551616) (w : World) : Calls Tryz.prog 151 #[.int .u64 ((h : Int))] w fun e w' => ∃ p c, e = .returned (.slice p 8 c) ∧ S w' ([Rw 5 1 p 8 c (nbL (eightT h))] ++ [Old w no]) := by
  have H0 := S.old w
  refine enter 17 Tryz.func151 rfl rfl rfl ?_
  refine g_weak [(0, .int .u64 ((h : Int)))] ⟨rfl, trivial⟩ ?_
  refine g_seq ?_
  refine g_region ?_
  refine l_of (s_val (v := .slice none 0 0) (wt0 rfl) rfl rfl (x_assign rfl rfl) ?_)
  refine g_nil ?_
  refine g_then ?_
  refine g_seq ?_
  refine g_region ?_
  have H1 : S w [Rw 5 1 none 0 0 [], Old w no] := H0.nilRw 5 1
  refine l_of (s_val (v := .slice none 0 0) (wt0 rfl) rfl rfl (x_assign rfl rfl) ?_)
  refine g_nil ?_
  refine g_then ?_
  refine g_seq ?_
  refine g_seq ?_
  refine g_region ?_
  refine l_of (s_val (v := .int .i64 56) (wt0 rfl) rfl rfl (x_assign rfl rfl) ?_)
  refine g_nil ?_
  refine g_then ?_
  refine g_block ?_
  refine g_loop (ι := Nat × Int × Option Addr × Nat) (fun (i, x, q, d) => [(0, .int .u64 ((h : Int))), (3, .slice q i d), (4, .int .i64 x)]) (fun (i, x, q, d) wx => (i ≤ 8) ∧ (x = 56 - 8 * (i : Int)) ∧ S wx [Rw 5 1 q i d (nbL (eightTo h i)), Old w no]) (fun (i, x, q, d) => 8 - i) (0, 56, none, 0) ⟨rfl, rfl, rfl, trivial⟩ ⟨Nat.zero_le _, rfl, (H1.takes [0, 1] (by decide))⟩ ?_
  rintro ⟨i, x, q, d⟩ wq2 ⟨hi, hx, H3⟩
  replace H3 : S wq2 [Rw 5 1 q i d (nbL (eightTo h i)), Old w no] := H3
  refine g_weak [(0, .int .u64 ((h : Int))), (3, .slice q i d), (4, .int .i64 x)] ⟨rfl, rfl, rfl, trivial⟩ ?_
  refine g_seq ?_
  refine g_seq ?_
  refine g_region ?_
  refine l_of (s_val (v := .int .i64 x) (wt0 rfl) rfl rfl (x_move rfl rfl) ?_)
  refine l_of (s_val (v := .bool (decide ((0 : Int) ≤ x))) (wt0 rfl) rfl rfl (x_bin rfl rfl rfl b_geq) ?_)
  refine g_nil ?_
  refine g_then ?_
  by_cases hb4 : (0 : Int) ≤ x
  · skip
    refine g_cond_t rfl (decide_eq_true hb4) ?_
    refine g_skip ?_
    refine g_then ?_
    refine g_seq ?_
    refine g_block ?_
    refine g_region ?_
    refine l_of (s_val (v := .slice q i d) (wt0 rfl) rfl rfl (x_move rfl rfl) ?_)
    refine l_of (s_val (v := .int .u64 ((h : Int))) (wt0 rfl) rfl rfl (x_move rfl rfl) ?_)
    refine l_of (s_val (v := .int .i64 x) (wt0 rfl) rfl rfl (x_move rfl rfl) ?_)
    refine l_of (s_val (v := .int .u64 (((h / 2 ^ (56 - 8 * i) : Nat) : Int))) (wt0 rfl) rfl rfl (x_bin rfl rfl rfl (b_shrI (a := h) (n := 56 - 8 * i) (by omega) (by show 56 - 8 * i ≤ 64; omega))) ?_)
    refine l_of (s_val (v := .int .u8 (((h / 2 ^ (56 - 8 * i) % 256 : Nat) : Int))) (wt0 rfl) rfl rfl (x_conv rfl rfl Tryz.underlying144 Tryz.underlying5 (wrapB _)) ?_)
    refine l_of (s_buildSlice H3 (wt0 rfl) rfl rfl rfl (vs := [.int .u8 (((h / 2 ^ (56 - 8 * i) % 256 : Nat) : Int))]) rfl Tryz.underlying147 sz5 ze5 rfl rfl (cells := #[.int .u8 (((h / 2 ^ (56 - 8 * i) % 256 : Nat) : Int))]) (by kernel_rfl) ?_)
    intro g5 wq6 H7
    refine l_of (s_appendR (n := i) (m := 1) (sc := d) (xs := (nbL (eightTo h i))) (news := [.int .u8 (((h / 2 ^ (56 - 8 * i) % 256 : Nat) : Int))]) (p := q) (ad := ⟨g5, 0, none⟩) H7 1 (wt0 rfl) rfl rfl rfl rfl rfl rfl Tryz.underlying147 inf5 rfl (by decide) (by decide) rfl (by decide) (news_ob H7 (j0 := 0) rfl) rfl (by omega) ?_)
    intro p8 c9 wq10 (H11 : S wq10 [Ob g5 (.cells #[.int .u8 (((h / 2 ^ (56 - 8 * i) % 256 : Nat) : Int))] 5 (0, 0)), Rw 5 1 p8 (i + 1) c9 ((nbL (eightTo h i)) ++ [.int .u8 (((h / 2 ^ (56 - 8 * i) % 256 : Nat) : Int))]), Old w no])
    refine l_of (s_val (v := .slice p8 (i + 1) c9) (wt0 rfl) rfl rfl (x_assign rfl rfl) ?_)
    refine g_nil ?_
    refine g_in ?_
    refine g_then ?_
    refine g_region ?_
    refine l_of (s_val (v := .int .i64 x) (wt0 rfl) rfl rfl (x_move rfl rfl) ?_)
    refine l_of (s_val (v := .int .i64 (x - 8)) (wt0 rfl) rfl rfl (x_bin rfl rfl rfl (b_sub (w64 (by omega)))) ?_)
    refine l_of (s_val (v := .int .i64 (x - 8)) (wt0 rfl) rfl rfl (x_assign rfl rfl) ?_)
    refine g_nil ?_
    refine g_then ?_
    refine g_round (i := (i, x, q, d)) (i + 1, x - 8, p8, c9) ?_ ?_ ?_
    · exact ⟨rfl, rfl, rfl, trivial⟩
    · exact ⟨by omega, by omega, (by rw [eightTo_next, nbL_app]; exact (H11.takes [1, 2] (by decide)))⟩
    · (try dsimp only); omega
  · skip
    refine g_cond_f rfl (decide_eq_false hb4) ?_
    refine g_exit ?_
    refine g_then_exit ?_
    refine g_then_exit ?_
    refine g_in_hit ?_
    refine g_then ?_
    refine g_seq ?_
    refine g_region ?_
    refine l_of (s_val (v := .slice q i d) (wt0 rfl) rfl rfl (x_move rfl rfl) ?_)
    refine l_of (s_val (v := .slice q i d) (wt0 rfl) rfl rfl (x_assign rfl rfl) ?_)
    refine g_nil ?_
    refine g_then ?_
    refine g_ret ?_
    refine fin_ret [.tmp 2] [.slice q i d] rfl ⟨rfl, trivial⟩ ?_
    have hi8 : i = 8 := by omega
    subst hi8
    exact ⟨_, _, rfl, H3⟩
set_option maxRecDepth 20000 in
set_option maxHeartbeats 4000000 in
theorem ended_h (n : Nat) (l : List Nat) (hl : l.length = 4) (hlt : ∀ x ∈ l, x < 18446744073709551616) (hn : n ≤ 1099511627776) (w : World) : Calls Tryz.prog 150 #[.agg (lanV l), .int .i64 ((n : Int))] w fun e w' => e = .returned (.string (nbS (sumTo l n 4))) ∧ S w' [Old w no] := by
  have H0 := S.old w
  refine enter 30 Tryz.func150 rfl rfl rfl ?_
  refine g_weak [(0, .agg (lanV l)), (1, .int .i64 ((n : Int)))] ⟨rfl, rfl, trivial⟩ ?_
  refine g_seq ?_
  refine g_region ?_
  refine l_of (s_box H0 (wt0 rfl) rfl rfl rfl rfl ?_)
  intro g1 wq2 H3
  replace H3 : S wq2 [Ob g1 (.cells (lanV l) 189 (0, 0)), Old w no] := H3
  refine l_of (s_val (v := .string (⟨#[]⟩)) (wt0 rfl) rfl rfl (x_assign rfl rfl) ?_)
  refine g_nil ?_
  refine g_then ?_
  refine g_seq ?_
  refine g_region ?_
  have H4 : S wq2 [Rw 5 1 none 0 0 [], Ob g1 (.cells (lanV l) 189 (0, 0)), Old w no] := H3.nilRw 5 1
  refine l_of (s_val (v := .slice none 0 0) (wt0 rfl) rfl rfl (x_assign rfl rfl) ?_)
  refine g_nil ?_
  refine g_then ?_
  refine g_seq ?_
  refine g_seq ?_
  refine g_region ?_
  refine l_of (s_val (v := .pointer (some ⟨g1, 0, none⟩)) (wt0 rfl) rfl rfl (x_fieldAddr rfl rfl fo189_0 rfl) ?_)
  refine l_of (s_val (v := .agg (lanV l)) (wt0 rfl) rfl rfl (x_loadA H4 1 rfl rfl Tryz.underlying187 rfl sz187 rfl (Nat.ble_eq_true_of_le (by rw [lanV_size]; omega)) (lanV_ext hl)) ?_)
  refine l_of (s_val (v := .int .i64 0) (wt0 rfl) rfl rfl (x_move rfl rfl) ?_)
  refine g_nil ?_
  refine g_then ?_
  refine g_block ?_
  refine g_loop (ι := Nat × Option Addr × Nat) (fun (k, q, d) => [(1, .int .i64 ((n : Int))), (5, .slice q ((8 * k) : Nat) d), (9, .agg (lanV l)), (10, .int .i64 ((k : Int)))]) (fun (k, q, d) wx => (k ≤ 4) ∧ S wx [Rw 5 1 q (8 * k) d (nbL (sumTo l n k)), Old w no]) (fun (k, q, d) => 4 - k) (0, none, 0) ⟨rfl, rfl, rfl, rfl, trivial⟩ ⟨Nat.zero_le _, (H4.takes [0, 2] (by decide))⟩ ?_
  rintro ⟨k, q, d⟩ wq5 ⟨hk, H6⟩
  replace H6 : S wq5 [Rw 5 1 q (8 * k) d (nbL (sumTo l n k)), Old w no] := H6
  refine g_weak [(1, .int .i64 ((n : Int))), (5, .slice q ((8 * k) : Nat) d), (9, .agg (lanV l)), (10, .int .i64 ((k : Int)))] ⟨rfl, rfl, rfl, rfl, trivial⟩ ?_
  have hgl : (l.getD k 0) < 18446744073709551616 := getD_u hlt k
  have hx := u64_xor hgl (show n < 18446744073709551616 by omega)
  have hX : (((l.getD k 0) ^^^ n) * 1099511628211 % 18446744073709551616) < 18446744073709551616 := Nat.mod_lt _ (by omega)
  have hX2 : (((l.getD k 0) ^^^ n) * 1099511628211 % 18446744073709551616) / 4294967296 ≤ (((l.getD k 0) ^^^ n) * 1099511628211 % 18446744073709551616) := Nat.div_le_self _ _
  refine g_seq ?_
  refine g_region ?_
  refine l_of (s_val (v := .bool (decide (((k : Int) : Int) < 4))) (wt0 rfl) rfl rfl (x_bin rfl rfl rfl b_lss) ?_)
  refine g_nil ?_
  refine g_then ?_
  refine g_seq ?_
  by_cases hb7 : ((k : Int) : Int) < 4
  · skip
    refine g_cond_t rfl (decide_eq_true hb7) ?_
    refine g_skip ?_
    refine g_then ?_
    refine g_seq ?_
    refine g_block ?_
    refine g_seq ?_
    refine g_region ?_
    refine l_of (s_val (v := .int .u64 ((((l.getD k 0) : Nat) : Int))) (wt0 rfl) rfl rfl (x_indexW k rfl rfl rfl Tryz.underlying187 sz144 Tryz.underlying144 rfl (by omega) (lanV_at (by omega))) ?_)
    refine l_of (s_val (v := .int .u64 ((((l.getD k 0) : Nat) : Int))) (wt0 rfl) rfl rfl (x_assign rfl rfl) ?_)
    refine g_nil ?_
    refine g_then ?_
    refine g_seq ?_
    refine g_region ?_
    refine l_of (s_val (v := .int .u64 ((((l.getD k 0) : Nat) : Int))) (wt0 rfl) rfl rfl (x_move rfl rfl) ?_)
    refine l_of (s_val (v := .int .i64 ((n : Int))) (wt0 rfl) rfl rfl (x_move rfl rfl) ?_)
    refine l_of (s_val (v := .int .u64 ((n : Int))) (wt0 rfl) rfl rfl (x_conv rfl rfl Tryz.underlying3 Tryz.underlying144 (wrapU (by omega))) ?_)
    refine l_of (s_val (v := .int .u64 ((((l.getD k 0) ^^^ n : Nat) : Int))) (wt0 rfl) rfl rfl (x_bin rfl rfl rfl (b_xorU (a := (l.getD k 0)) (b := n) (by omega))) ?_)
    refine l_of (s_val (v := .int .u64 ((((((l.getD k 0) ^^^ n) * 1099511628211 % 18446744073709551616) : Nat) : Int))) (wt0 rfl) rfl rfl (x_bin rfl rfl rfl (b_mulU ((l.getD k 0) ^^^ n) 1099511628211)) ?_)
    refine l_of (s_val (v := .int .u64 ((((((l.getD k 0) ^^^ n) * 1099511628211 % 18446744073709551616) : Nat) : Int))) (wt0 rfl) rfl rfl (x_assign rfl rfl) ?_)
    refine g_nil ?_
    refine g_then ?_
    refine g_seq ?_
    refine g_region ?_
    refine l_of (s_val (v := .int .u64 ((((((l.getD k 0) ^^^ n) * 1099511628211 % 18446744073709551616) : Nat) : Int))) (wt0 rfl) rfl rfl (x_move rfl rfl) ?_)
    refine l_of (s_val (v := .int .u64 ((((((l.getD k 0) ^^^ n) * 1099511628211 % 18446744073709551616) : Nat) : Int))) (wt0 rfl) rfl rfl (x_move rfl rfl) ?_)
    refine l_of (s_val (v := .int .u64 ((((((l.getD k 0) ^^^ n) * 1099511628211 % 18446744073709551616) / 4294967296 : Nat) : Int))) (wt0 rfl) rfl rfl (x_bin rfl rfl rfl (b_shrN (a := (((l.getD k 0) ^^^ n) * 1099511628211 % 18446744073709551616)) (n := 32) (by decide))) ?_)
    refine l_of (s_val (v := .int .u64 ((((((l.getD k 0) ^^^ n) * 1099511628211 % 18446744073709551616) ^^^ (((l.getD k 0) ^^^ n) * 1099511628211 % 18446744073709551616) / 4294967296 : Nat) : Int))) (wt0 rfl) rfl rfl (x_bin rfl rfl rfl (b_xorU (a := (((l.getD k 0) ^^^ n) * 1099511628211 % 18446744073709551616)) (b := (((l.getD k 0) ^^^ n) * 1099511628211 % 18446744073709551616) / 4294967296) (by omega))) ?_)
    refine l_of (s_val (v := .int .u64 ((((((l.getD k 0) ^^^ n) * 1099511628211 % 18446744073709551616) ^^^ (((l.getD k 0) ^^^ n) * 1099511628211 % 18446744073709551616) / 4294967296 : Nat) : Int))) (wt0 rfl) rfl rfl (x_assign rfl rfl) ?_)
    refine g_nil ?_
    refine g_then ?_
    refine g_region ?_
    refine l_of (s_val (v := .slice q ((8 * k) : Nat) d) (wt0 rfl) rfl rfl (x_move rfl rfl) ?_)
    refine l_of (s_val (v := .int .u64 ((((((l.getD k 0) ^^^ n) * 1099511628211 % 18446744073709551616) ^^^ (((l.getD k 0) ^^^ n) * 1099511628211 % 18446744073709551616) / 4294967296 : Nat) : Int))) (wt0 rfl) rfl rfl (x_move rfl rfl) ?_)
    refine l_of (s_val (v := .int .u64 (((endT (l.getD k 0) n : Nat) : Int))) (wt0 rfl) rfl rfl (x_bin rfl rfl rfl (b_mulU ((((l.getD k 0) ^^^ n) * 1099511628211 % 18446744073709551616) ^^^ (((l.getD k 0) ^^^ n) * 1099511628211 % 18446744073709551616) / 4294967296) 1099511628211)) ?_)
    refine l_of (s_call (wt0 rfl) (x_call' rfl rfl cl151) (eight_h _ (endT_lt _ _) _) ?_)
    rintro _ wq10 ⟨p8, c9, rfl, H11⟩
    replace H11 : S wq10 [Rw 5 1 p8 8 c9 (nbL (eightT (endT (l.getD k 0) n))), Rw 5 1 q (8 * k) d (nbL (sumTo l n k)), Old w no] := H6.absorb (new := [Rw 5 1 p8 8 c9 (nbL (eightT (endT (l.getD k 0) n)))]) H11
    refine b_ret rfl rfl ?_
    refine l_of (s_appendW (n := 8 * k) (m := 8) (sc := d) (xs := nbL (sumTo l n k)) (news := nbL (eightT (endT (l.getD k 0) n))) (p := q) (q := p8) H11 1 (wt0 rfl) rfl rfl rfl rfl rfl rfl Tryz.underlying147 inf5 rfl (by decide) (by decide) (H11.rwReads (k := 0) rfl) (nbL_one _) (by omega) ?_)
    intro p12 c13 wq14 H15
    replace H15 : S wq14 [Rw 5 1 p8 8 c9 (nbL (eightT (endT (l.getD k 0) n))), Rw 5 1 p12 (8 * k + 8) c13 (nbL (sumTo l n k) ++ nbL (eightT (endT (l.getD k 0) n))), Old w no] := H15
    refine l_of (s_val (v := .slice p12 ((8 * k + 8) : Nat) c13) (wt0 rfl) rfl rfl (x_assign rfl rfl) ?_)
    refine g_nil ?_
    refine g_in ?_
    refine g_then ?_
    refine g_weak [(1, .int .i64 ((n : Int))), (5, .slice p12 ((8 * k + 8) : Nat) c13), (9, .agg (lanV l)), (10, .int .i64 ((k : Int)))] ⟨rfl, rfl, rfl, rfl, trivial⟩ ?_
    refine g_region ?_
    refine l_of (s_val (v := .int .i64 ((k : Int) + 1)) (wt0 rfl) rfl rfl (x_bin rfl rfl rfl (b_add (w64 (by omega)))) ?_)
    refine l_of (s_val (v := .int .i64 ((k : Int) + 1)) (wt0 rfl) rfl rfl (x_move rfl rfl) ?_)
    refine g_nil ?_
    refine g_then ?_
    refine g_round (i := (k, q, d)) (k + 1, p12, c13) ?_ ?_ ?_
    · exact ⟨rfl, rfl, rfl, rfl, trivial⟩
    · exact ⟨by omega, (by rw [show 8 * (k + 1) = 8 * k + 8 from by omega, sumTo_next (by omega), nbL_app]; exact (H15.takes [1, 2] (by decide)))⟩
    · (try dsimp only); omega
  · skip
    refine g_cond_f rfl (decide_eq_false hb7) ?_
    refine g_exit ?_
    refine g_then_exit ?_
    refine g_then_exit ?_
    refine g_in_hit ?_
    refine g_then ?_
    refine g_seq ?_
    refine g_region ?_
    refine l_of (s_val (v := .slice q ((8 * k) : Nat) d) (wt0 rfl) rfl rfl (x_move rfl rfl) ?_)
    refine l_of (s_val (v := .string ((nbS (sumTo l n k)))) (wt0 rfl) rfl rfl (x_bytesR (l := (sumTo l n k).map UInt8.ofNat) rfl rfl Tryz.underlying147 Tryz.underlying9 Tryz.underlying5 (bytes_row (sumTo_lt l n k) (H6.rwReads (k := 0) rfl)) (by rw [List.length_map, sumTo_len l n k (by omega)])) ?_)
    refine l_of (s_val (v := .string ((nbS (sumTo l n k)))) (wt0 rfl) rfl rfl (x_assign rfl rfl) ?_)
    refine g_nil ?_
    refine g_then ?_
    refine g_ret ?_
    refine fin_ret [.tmp 4] [.string ((nbS (sumTo l n k)))] rfl ⟨rfl, trivial⟩ ?_
    have hk4 : k = 4 := by omega
    subst hk4
    exact ⟨rfl, H6.mask [false, true]⟩
set_option maxRecDepth 20000 in
set_option maxHeartbeats 4000000 in
set_option maxRecDepth 20000 in
set_option maxHeartbeats 4000000 in
theorem sumh_h (gh n : Nat) (l : List Nat) (hl : l.length = 4) (hlt : ∀ x ∈ l, x < 18446744073709551616) (hn : n ≤ 1099511627776) (w : World) (HB : S w [Ob gh (.cells (hashV l n) 192 (0, 0))]) : Calls Tryz.prog 146 #[.pointer (some ⟨gh, 0, none⟩)] w fun e w' => e = .returned (.string (nbS (sumTo l n 4))) ∧ S w' ([Ob gh (.cells (hashV l n) 192 (0, 0))] ++ [Old w (fps [Ob gh (.cells (hashV l n) 192 (0, 0))])]) := by
  have H0 : S w [Ob gh (.cells (hashV l n) 192 (0, 0)), Old w (fps [Ob gh (.cells (hashV l n) 192 (0, 0))])] := HB.beginI
  refine enter 14 Tryz.func146 rfl rfl rfl ?_
  refine g_weak [(0, .pointer (some ⟨gh, 0, none⟩))] ⟨rfl, trivial⟩ ?_
  refine g_seq ?_
  refine g_region ?_
  refine l_of (s_val (v := .string (⟨#[]⟩)) (wt0 rfl) rfl rfl (x_assign rfl rfl) ?_)
  refine g_nil ?_
  refine g_then ?_
  refine g_seq ?_
  refine g_seq ?_
  refine g_region ?_
  refine l_of (s_val (v := .pointer (some ⟨gh, 0, none⟩)) (wt0 rfl) rfl rfl (x_move rfl rfl) ?_)
  refine l_of (s_val (v := .bool false) (wt0 rfl) rfl rfl (x_bin rfl rfl rfl (b_eqN (r := false) Tryz.underlying184 rfl)) ?_)
  refine g_nil ?_
  refine g_then ?_
  refine g_cond_f rfl rfl ?_
  refine g_skip ?_
  refine g_then ?_
  refine g_seq ?_
  refine g_quiet (by kernel_rfl) (by kernel_rfl) H0 ?_
  refine q_val (v := .pointer (some ⟨gh, 0, none⟩)) (wt0 rfl) rfl rfl (fun wx H => x_move rfl rfl) ?_
  refine q_val (v := .pointer (some ⟨gh, 0, none⟩)) (wt0 rfl) rfl rfl (fun wx H => x_nilCheck rfl rfl) ?_
  refine q_val (v := .pointer (some ⟨gh, 0, none⟩)) (wt0 rfl) rfl rfl (fun wx H => x_fieldAddr rfl rfl fo192_0 rfl) ?_
  refine q_val (v := .agg (lanV l)) (wt0 rfl) rfl rfl (fun wx H => x_loadA H 0 rfl rfl Tryz.underlying189 rfl sz189 rfl (Nat.ble_eq_true_of_le (by rw [hashV_size]; omega)) (hashV_ext hl)) ?_
  refine q_val (v := .pointer (some ⟨gh, 0, none⟩)) (wt0 rfl) rfl rfl (fun wx H => x_move rfl rfl) ?_
  refine q_val (v := .pointer (some ⟨gh, 0, none⟩)) (wt0 rfl) rfl rfl (fun wx H => x_nilCheck rfl rfl) ?_
  refine q_val (v := .pointer (some ⟨gh, 4, none⟩)) (wt0 rfl) rfl rfl (fun wx H => x_fieldAddr rfl rfl fo192_1 rfl) ?_
  refine q_val (v := .int .i64 ((n : Int))) (wt0 rfl) rfl rfl (fun wx H => x_load1 H 0 rfl rfl Tryz.underlying3 rfl rfl (hashV_at (by first | omega | (simp only [List.length_map, takeTo_len]; omega)))) ?_
  refine q_call (wt0 rfl) rfl rfl (fun wx H => x_call' rfl rfl cl150) (fun wx H => (ended_h n l hl hlt hn _).mono (by rintro _ _ ⟨rfl, h⟩; exact ⟨rfl, H.absorb (new := []) h⟩)) ?_
  refine q_val (v := .string ((nbS (sumTo l n 4)))) (wt0 rfl) rfl rfl (fun wx H => x_assign rfl rfl) ?_
  refine q_nil (fun wq1 H2 => ?_)
  refine g_then ?_
  refine g_weak [(2, .string ((nbS (sumTo l n 4))))] ⟨rfl, trivial⟩ ?_
  refine g_ret ?_
  refine fin_ret [.tmp 2] [.string ((nbS (sumTo l n 4)))] rfl ⟨rfl, trivial⟩ ?_
  exact ⟨rfl, H2.mask [true, true]⟩
set_option maxRecDepth 20000 in
set_option maxHeartbeats 4000000 in
theorem sum_h (s : ByteArray) (hs : s.size ≤ 1099511627776) (w : World) : Calls Tryz.prog 141 #[.string s] w fun e w' => e = .returned (.string (sumS s)) ∧ S w' [Old w no] := by
  have H0 := S.old w
  refine enter 10 Tryz.func141 rfl rfl rfl ?_
  refine g_weak [(0, .string s)] ⟨rfl, trivial⟩ ?_
  refine g_seq ?_
  refine g_region ?_
  refine l_of (s_val (v := .string (⟨#[]⟩)) (wt0 rfl) rfl rfl (x_assign rfl rfl) ?_)
  refine g_nil ?_
  refine g_then ?_
  refine g_seq ?_
  refine g_region ?_
  refine l_of (s_call (wt0 rfl) (x_call' rfl rfl cl144) (newh_h _) ?_)
  rintro _ wq1 ⟨gh, rfl, H2⟩
  replace H2 : S wq1 [Ob gh (.cells (hashV begL 0) 192 (0, 0)), Old w no] := H0.absorb (new := [Ob gh (.cells (hashV begL 0) 192 (0, 0))]) H2
  refine b_ret rfl rfl ?_
  refine l_of (s_val (v := .pointer (some ⟨gh, 0, none⟩)) (wt0 rfl) rfl rfl (x_assign rfl rfl) ?_)
  refine g_nil ?_
  refine g_then ?_
  refine g_seq ?_
  refine g_region ?_
  refine l_of (s_val (v := .pointer (some ⟨gh, 0, none⟩)) (wt0 rfl) rfl rfl (x_move rfl rfl) ?_)
  refine l_of (s_val (v := .string s) (wt0 rfl) rfl rfl (x_move rfl rfl) ?_)
  refine l_of (s_call (wt0 rfl) (x_call' rfl rfl cl145) (addh_h gh 0 begL begL_len begL_lt s hs (by omega) _ (H2.takes [0] (by decide))) ?_)
  rintro _ wq3 ⟨rfl, H4⟩
  replace H4 : S wq3 [Ob gh (.cells (hashV (begL.map (laneP s · s.size)) (0 + s.size)) 192 (0, 0)), Old w no] := H2.absorbI (new := [Ob gh (.cells (hashV (begL.map (laneP s · s.size)) (0 + s.size)) 192 (0, 0))]) [0] H4
  refine b_ret rfl rfl ?_
  refine g_nil ?_
  refine g_then ?_
  refine g_seq ?_
  refine g_region ?_
  refine l_of (s_val (v := .pointer (some ⟨gh, 0, none⟩)) (wt0 rfl) rfl rfl (x_move rfl rfl) ?_)
  refine l_of (s_call (wt0 rfl) (x_call' rfl rfl cl146) (sumh_h gh (0 + s.size) (begL.map (laneP s · s.size)) (by rw [List.length_map, begL_len]) (lanes_lt begL_lt s.size) (by omega) _ (H4.takes [0] (by decide))) ?_)
  rintro _ wq5 ⟨rfl, H6⟩
  replace H6 : S wq5 [Ob gh (.cells (hashV (begL.map (laneP s · s.size)) (0 + s.size)) 192 (0, 0)), Old w no] := H4.absorbI (new := [Ob gh (.cells (hashV (begL.map (laneP s · s.size)) (0 + s.size)) 192 (0, 0))]) [0] H6
  refine b_ret rfl rfl ?_
  refine l_of (s_val (v := .string ((nbS (sumTo (begL.map (laneP s · s.size)) (0 + s.size) 4)))) (wt0 rfl) rfl rfl (x_assign rfl rfl) ?_)
  refine g_nil ?_
  refine g_then ?_
  refine g_ret ?_
  refine fin_ret [.tmp 2] [.string ((nbS (sumTo (begL.map (laneP s · s.size)) (0 + s.size) 4)))] rfl ⟨rfl, trivial⟩ ?_
  exact ⟨by rw [Nat.zero_add]; rfl, H6.mask [false, true]⟩
end Go.Proofs.YtpbjekdjebjbkaaGreat
