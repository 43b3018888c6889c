import Derived.Test.YtlajgickimgigaaGreatProg
import Derived.Test.YtlajgickimgigaaGreatFc
set_option linter.unusedSimpArgs false
set_option linter.unusedVariables false
namespace Go.Proofs.YtlajgickimgigaaGreat
open Go.RowKit

/-! ## The hash, in plain words -/
def mixT (h b : Nat) : Nat := (h ^^^ b) * 1099511628211 % 18446744073709551616 ^^^ ((h ^^^ b) * 1099511628211 % 18446744073709551616) / 536870912
def endT (h n : Nat) : Nat := ((h ^^^ n) * 1099511628211 % 18446744073709551616 ^^^ ((h ^^^ n) * 1099511628211 % 18446744073709551616) / 4294967296) * 1099511628211 % 18446744073709551616
def startT (k : Nat) : Nat := (14695981039346656037 + k * 11400714819323198485 % 18446744073709551616) % 18446744073709551616
/-- A lane, when i bytes are taken. -/
def laneP (s : ByteArray) (h : Nat) : Nat → Nat
  | 0 => h
  | i + 1 => mixT (laneP s h i) (bt' s i)
theorem u64_xor {a b : Nat} (ha : a < 18446744073709551616) (hb : b < 18446744073709551616) : a ^^^ b < 18446744073709551616 := Nat.xor_lt_two_pow (n := 64) ha hb
theorem mixT_lt (h b : Nat) : mixT h b < 18446744073709551616 := by
  have h1 : (h ^^^ b) * 1099511628211 % 18446744073709551616 < 18446744073709551616 := Nat.mod_lt _ (by omega)
  have h2 : (h ^^^ b) * 1099511628211 % 18446744073709551616 / 536870912 ≤ (h ^^^ b) * 1099511628211 % 18446744073709551616 := Nat.div_le_self _ _
  exact u64_xor h1 (by omega)
theorem endT_lt (h n : Nat) : endT h n < 18446744073709551616 := Nat.mod_lt _ (by omega)
theorem startT_lt (k : Nat) : startT k < 18446744073709551616 := Nat.mod_lt _ (by omega)
theorem laneP_lt {s : ByteArray} {h : Nat} (hh : h < 18446744073709551616) : ∀ i, laneP s h i < 18446744073709551616
  | 0 => hh
  | i + 1 => mixT_lt _ _
def nbL (b : List Nat) : List Value := b.map (fun (x : Nat) => Value.int .u8 (x : Int))
def nbV (b : List Nat) : Array Value := (nbL b).toArray
theorem nbL_len (b : List Nat) : (nbL b).length = b.length := by unfold nbL; simp
theorem nbL_app (a b : List Nat) : nbL (a ++ b) = nbL a ++ nbL b := by unfold nbL; simp
theorem nbL_one (b : List Nat) : (nbL b).all (·.oneCell') = true := by
  unfold nbL; rw [List.all_eq_true]; intro v hv
  obtain ⟨x, _, rfl⟩ := List.mem_map.1 hv; rfl
theorem nbV_at {b : List Nat} {i : Nat} (h : i < b.length) : (nbV b)[i]? = some (.int .u8 ((b.getD i 0 : Nat) : Int)) := by
  unfold nbV nbL
  simp [List.getD, h]
theorem nbV_set (b : List Nat) (i x : Nat) : (nbV b).setIfInBounds i (.int .u8 (x : Int)) = nbV (b.set i x) := by
  unfold nbV nbL
  apply Array.ext'
  simp [List.map_set]
theorem nbV_size (b : List Nat) : (nbV b).size = b.length := by unfold nbV nbL; simp
theorem nbV_zero (n : Nat) : Array.replicate n (Value.int .u8 0) = nbV (List.replicate n 0) := by
  unfold nbV nbL
  apply Array.ext'
  simp
def nbS (b : List Nat) : ByteArray := ⟨(b.map UInt8.ofNat).toArray⟩
theorem nbS_size (b : List Nat) : (nbS b).size = b.length := by show ((b.map UInt8.ofNat).toArray).size = _; simp
theorem nbS_app (a b : List Nat) : nbS a ++ nbS b = nbS (a ++ b) := by
  apply ByteArray.ext
  unfold nbS
  simp
theorem nbL_bytes {b : List Nat} (h : ∀ x ∈ b, x < 256) : nbL b = bytesV (b.map UInt8.ofNat) := by
  unfold nbL bytesV
  rw [List.map_map]
  refine List.map_congr_left fun x hx => ?_
  have := h x hx
  simp only [Function.comp]
  congr 1
  rw [UInt8.toNat_ofNat']
  omega
/-- A number in eight bytes: the first i. -/
def eightTo (n i : Nat) : List Nat := (List.range i).map (fun j => n / 2 ^ (56 - 8 * j) % 256)
def eightT (n : Nat) : List Nat := eightTo n 8
theorem eightTo_len (n i : Nat) : (eightTo n i).length = i := by unfold eightTo; simp
theorem eightTo_next (n i : Nat) : eightTo n (i + 1) = eightTo n i ++ [n / 2 ^ (56 - 8 * i) % 256] := by unfold eightTo; rw [List.range_succ, List.map_append]; rfl
theorem eightTo_lt (n i : Nat) : ∀ x ∈ eightTo n i, x < 256 := fun x hx => by
  unfold eightTo at hx
  obtain ⟨j, _, rfl⟩ := List.mem_map.1 hx
  exact Nat.mod_lt _ (by omega)
/-- The digest: what its first k lanes give. -/
def sumTo (l : List Nat) (n k : Nat) : List Nat := (l.take k).flatMap (fun h => eightT (endT h n))
theorem sumTo_len (l : List Nat) (n : Nat) : ∀ k, k ≤ l.length → (sumTo l n k).length = 8 * k := fun k hk => by
  unfold sumTo
  have : ∀ q : List Nat, (q.flatMap (fun h => eightT (endT h n))).length = 8 * q.length := fun q => by
    induction q with
    | nil => rfl
    | cons a q ih => rw [List.flatMap_cons, List.length_append, ih, List.length_cons]; unfold eightT; rw [eightTo_len]; omega
  rw [this, List.length_take]; omega
theorem sumTo_next {l : List Nat} {n k : Nat} (hk : k < l.length) : sumTo l n (k + 1) = sumTo l n k ++ eightT (endT (l.getD k 0) n) := by
  unfold sumTo
  rw [List.take_succ_eq_append_getElem hk, List.flatMap_append, List.getD_eq_getElem?_getD, List.getElem?_eq_getElem hk]
  simp
theorem sumTo_lt (l : List Nat) (n k : Nat) : ∀ x ∈ sumTo l n k, x < 256 := fun x hx => by
  unfold sumTo at hx
  obtain ⟨h, _, hx⟩ := List.mem_flatMap.1 hx
  exact eightTo_lt _ _ x hx
def lanesT (s : ByteArray) : List Nat := [laneP s (startT 0) s.size, laneP s (startT 1) s.size, laneP s (startT 2) s.size, laneP s (startT 3) s.size]
def sumS (s : ByteArray) : ByteArray := nbS (sumTo (lanesT s) s.size 4)
theorem sumS_size (s : ByteArray) : (sumS s).size = 32 := by unfold sumS; rw [nbS_size, sumTo_len _ _ 4 (by simp [lanesT])]
def pairS (a b : ByteArray) : ByteArray := sumS (a ++ b)
theorem pairS_size (a b : ByteArray) : (pairS a b).size = 32 := sumS_size _
def zeroB : ByteArray := nbS (List.replicate 32 0)
/-- The lanes of a hasher, as cells. -/
def uV (l : List Nat) : List Value := l.map (fun (x : Nat) => Value.int .u64 (x : Int))
def hashV (l : List Nat) (n : Nat) : Array Value := (uV l ++ [Value.int .i64 (n : Int)]).toArray
def lanV (l : List Nat) : Array Value := (uV l).toArray
/-- The first k lanes have taken a byte. -/
def takeTo (k b : Nat) (l : List Nat) : List Nat := (l.take k).map (mixT · b) ++ l.drop k
theorem uV_len (l : List Nat) : (uV l).length = l.length := by unfold uV; simp
theorem uV_at {l : List Nat} {i : Nat} (h : i < l.length) : (uV l)[i]? = some (.int .u64 ((l.getD i 0 : Nat) : Int)) := by
  unfold uV; simp [List.getD, h]
theorem lanV_at {l : List Nat} {i : Nat} (h : i < l.length) : (lanV l)[i]? = some (.int .u64 ((l.getD i 0 : Nat) : Int)) := by
  unfold lanV; rw [List.getElem?_toArray]; exact uV_at h
theorem hashV_ext {l : List Nat} {n : Nat} (hl : l.length = 4) : (hashV l n).extract 0 (0 + 4) = lanV l := by
  unfold hashV lanV
  apply Array.ext'
  have := uV_len l
  simp [List.take_append_of_le_length, this, hl]
theorem hashV_at {l : List Nat} {n : Nat} (hl : l.length = 4) : (hashV l n)[4]? = some (.int .i64 (n : Int)) := by
  unfold hashV
  rw [List.getElem?_toArray, List.getElem?_append_right (by rw [uV_len]; omega), uV_len, hl]; rfl
theorem hashV_size (l : List Nat) (n : Nat) : (hashV l n).size = l.length + 1 := by unfold hashV; simp [uV_len]
theorem hashV_set {l : List Nat} {n i x : Nat} (h : i < l.length) : (hashV l n).setIfInBounds i (.int .u64 (x : Int)) = hashV (l.set i x) n := by
  unfold hashV uV
  apply Array.ext'
  simp only [List.setIfInBounds_toArray]
  rw [List.set_append_left _ _ (by simpa using h), List.map_set]
theorem hashV_setN {l : List Nat} {n m : Nat} (hl : l.length = 4) : (hashV l n).setIfInBounds 4 (.int .i64 (m : Int)) = hashV l m := by
  unfold hashV
  apply Array.ext'
  simp only [List.setIfInBounds_toArray]
  rw [List.set_append_right _ _ (by rw [uV_len]; omega), uV_len, hl]; rfl
theorem lanV_size (l : List Nat) : (lanV l).size = l.length := by unfold lanV; simp [uV_len]
theorem lanV_set {l : List Nat} {i x : Nat} (h : i < l.length) : (lanV l).setIfInBounds i (.int .u64 (x : Int)) = lanV (l.set i x) := by
  unfold lanV uV
  apply Array.ext'
  simp [List.map_set]
theorem takeTo_len (k b : Nat) (l : List Nat) : (takeTo k b l).length = l.length := by unfold takeTo; simp; omega
theorem takeTo_zero (b : Nat) (l : List Nat) : takeTo 0 b l = l := by unfold takeTo; simp
theorem takeTo_all (b : Nat) (l : List Nat) : takeTo l.length b l = l.map (mixT · b) := by unfold takeTo; simp
theorem takeTo_next {k b : Nat} {l : List Nat} (h : k < l.length) : (takeTo k b l).set k (mixT (l.getD k 0) b) = takeTo (k + 1) b l := by
  unfold takeTo
  have e1 : ((l.take k).map (mixT · b)).length = k := by simp; omega
  have hx : l.drop k = l.getD k 0 :: l.drop (k + 1) := by
    rw [List.getD_eq_getElem?_getD, List.getElem?_eq_getElem h, Option.getD_some]
    exact List.drop_eq_getElem_cons h
  rw [List.set_append_right _ _ (by omega), e1, Nat.sub_self, hx, List.set_cons_zero, List.take_succ_eq_append_getElem h]
  simp only [List.map_append, List.map_cons, List.map_nil, List.append_assoc, List.cons_append, List.nil_append]
  rw [List.getD_eq_getElem?_getD, List.getElem?_eq_getElem h, Option.getD_some]
end Go.Proofs.YtlajgickimgigaaGreat
namespace Go.Proofs.YtlajgickimgigaaGreat
open Go.RowKit

theorem cl91 : callable Tryz.prog 91 = true := by kernel_rfl
theorem cl99 : callable Tryz.prog 99 = true := by kernel_rfl
theorem cl100 : callable Tryz.prog 100 = true := by kernel_rfl
theorem cl101 : callable Tryz.prog 101 = true := by kernel_rfl
theorem inf5 : infO Tryz.prog 5 = some (some (.int .u8 0), 1, 1) := by kernel_rfl
theorem sz5 : szO Tryz.prog 5 = some 1 := by kernel_rfl
theorem eR_base : True := trivial
/-- A number in eight bytes, from the back: i are laid. -/
def eR (h i : Nat) : List Nat := (List.range 8).map (fun p => if 8 - i ≤ p then h / 256 ^ (7 - p) % 256 else 0)
theorem eR_len (h i : Nat) : (eR h i).length = 8 := by unfold eR; simp
theorem eR_zero (h : Nat) : eR h 0 = List.replicate 8 0 := by
  unfold eR
  apply List.ext_getElem?
  intro p
  rw [List.getElem?_map, List.getElem?_replicate]
  by_cases hp : p < 8
  · rw [List.getElem?_range hp, if_pos hp, Option.map_some, if_neg (by omega)]
  · rw [if_neg hp, List.getElem?_eq_none (by simp; omega)]; rfl
theorem eR_at {h i p : Nat} (hp : p < 8) : (eR h i)[p]? = some (if 8 - i ≤ p then h / 256 ^ (7 - p) % 256 else 0) := by
  unfold eR; rw [List.getElem?_map, List.getElem?_range hp]; rfl
theorem eR_next {h i : Nat} (hi : i < 8) : (eR h i).set (7 - i) (h / 256 ^ i % 256) = eR h (i + 1) := by
  apply List.ext_getElem?
  intro p
  rw [List.getElem?_set, eR_len]
  by_cases hp : p < 8
  · rw [eR_at hp, eR_at hp]
    by_cases e : 7 - i = p
    · rw [if_pos e, if_pos (by omega), if_pos (by omega), show 7 - p = i from by omega]
    · rw [if_neg e]
      by_cases e2 : 8 - i ≤ p
      · rw [if_pos e2, if_pos (by omega)]
      · rw [if_neg e2, if_neg (by omega)]
  · rw [if_neg (by omega), List.getElem?_eq_none (by rw [eR_len]; omega), List.getElem?_eq_none (by rw [eR_len]; omega)]
theorem eR_all (h : Nat) : eR h 8 = eightT h := by
  unfold eR eightT eightTo
  refine List.map_congr_left fun p hp => ?_
  rw [List.mem_range] at hp
  rw [if_pos (by omega)]
  have : (256 : Nat) ^ (7 - p) = 2 ^ (56 - 8 * p) := by
    rw [show (256 : Nat) = 2 ^ 8 from rfl, ← Nat.pow_mul]; congr 1; omega
  rw [this]
theorem eR_lt (h i : Nat) : ∀ x ∈ eR h i, x < 256 := fun x hx => by
  unfold eR at hx
  obtain ⟨p, _, rfl⟩ := List.mem_map.1 hx
  show (if _ then _ else _) < 256
  split
  · exact Nat.mod_lt _ (by omega)
  · omega
theorem hc_nb {w : World} {L : List Item} {g k : Nat} {e : TypeId} {fr : Nat × Nat} {b : List Nat} (H : S w L) (hk : L[k]? = some (Ob g (.cells (nbV b) e fr))) (hb : ∀ x ∈ b, x < 256) : ∀ j u, (bytesV (b.map UInt8.ofNat))[j]? = some u → w.cell? ((⟨g, 0, none⟩ : Addr).add j) = some u :=
  hc_ob H hk (by unfold nbV; rw [← nbL_bytes hb])
set_option maxRecDepth 20000 in
set_option maxHeartbeats 4000000 in
theorem eight_r (h : Nat) (hh : h < 18446744073709551616) (w : World) : Calls Tryz.prog 99 #[.int .u64 ((h : Int))] w fun e w' => e = .returned (.string (nbS (eightT h))) ∧ S w' [Old w no] := by
  have H0 := S.old w
  refine enter 21 Tryz.func99 rfl rfl rfl ?_
  refine g_weak [(0, .int .u64 ((h : Int)))] ⟨rfl, trivial⟩ ?_
  refine g_seq ?_
  refine g_region ?_
  refine l_of (s_val (v := .string (⟨#[]⟩)) (wt0 rfl) rfl rfl (x_assign rfl rfl) ?_)
  refine g_nil ?_
  refine g_then ?_
  refine g_seq ?_
  refine g_region ?_
  refine l_of (s_make1 8 H0 (wt0 rfl) rfl rfl rfl rfl rfl Tryz.underlying130 inf5 rfl (by omega) ?_)
  intro g1 wq2 H3
  rw [nbV_zero, ← eR_zero h] at H3
  replace H3 : S wq2 [Ob g1 (.cells (nbV (eR h 0)) 5 (0, 0)), Old w no] := H3
  refine l_of (s_val (v := .slice (some ⟨g1, 0, none⟩) (8) (8)) (wt0 rfl) rfl rfl (x_assign rfl rfl) ?_)
  refine g_nil ?_
  refine g_then ?_
  refine g_seq ?_
  refine g_seq ?_
  refine g_region ?_
  refine l_of (s_val (v := .int .i64 0) (wt0 rfl) rfl rfl (x_move rfl rfl) ?_)
  refine g_nil ?_
  refine g_then ?_
  refine g_block ?_
  refine g_loop (ι := Nat × Nat) (fun (i, x) => [(0, .int .u64 ((x : Int))), (3, .slice (some ⟨g1, 0, none⟩) (8) (8)), (6, .int .i64 ((i : Int)))]) (fun (i, x) wx => (i ≤ 8) ∧ (x = h / 256 ^ i) ∧ S wx [Ob g1 (.cells (nbV (eR h i)) 5 (0, 0)), Old w no]) (fun (i, x) => 8 - i) (0, h) ⟨rfl, rfl, rfl, trivial⟩ ⟨Nat.zero_le _, (by rw [Nat.pow_zero, Nat.div_one]), H3⟩ ?_
  rintro ⟨i, x⟩ wq4 ⟨hi, hx, H5⟩
  replace H5 : S wq4 [Ob g1 (.cells (nbV (eR h i)) 5 (0, 0)), Old w no] := H5
  refine g_weak [(0, .int .u64 ((x : Int))), (3, .slice (some ⟨g1, 0, none⟩) (8) (8)), (6, .int .i64 ((i : Int)))] ⟨rfl, rfl, rfl, trivial⟩ ?_
  have hx1 : x < 18446744073709551616 := by rw [hx]; exact Nat.lt_of_le_of_lt (Nat.div_le_self _ _) hh
  refine g_seq ?_
  refine g_region ?_
  refine l_of (s_val (v := .bool (decide (((i : Int) : Int) < 8))) (wt0 rfl) rfl rfl (x_bin rfl rfl rfl b_lss) ?_)
  refine g_nil ?_
  refine g_then ?_
  refine g_seq ?_
  by_cases hb6 : ((i : Int) : Int) < 8
  · skip
    refine g_cond_t rfl (decide_eq_true hb6) ?_
    refine g_skip ?_
    refine g_then ?_
    refine g_seq ?_
    refine g_block ?_
    refine g_seq ?_
    refine g_region ?_
    refine l_of (s_val (v := .int .i64 ((i : Int))) (wt0 rfl) rfl rfl (x_move rfl rfl) ?_)
    refine l_of (s_val (v := .int .i64 ((i : Int))) (wt0 rfl) rfl rfl (x_assign rfl rfl) ?_)
    refine g_nil ?_
    refine g_then ?_
    refine g_seq ?_
    refine g_region ?_
    refine l_of (s_val (v := .slice (some ⟨g1, 0, none⟩) (8) (8)) (wt0 rfl) rfl rfl (x_move rfl rfl) ?_)
    refine l_of (s_val (v := .int .i64 ((i : Int))) (wt0 rfl) rfl rfl (x_move rfl rfl) ?_)
    refine l_of (s_val (v := .int .i64 (((7 - i : Nat) : Int))) (wt0 rfl) rfl rfl (x_bin rfl rfl rfl (b_subN (a := 7) (b := i) (by omega))) ?_)
    refine l_of (s_val (v := .int .u64 ((x : Int))) (wt0 rfl) rfl rfl (x_move rfl rfl) ?_)
    refine l_of (s_val (v := .int .u64 (((x % 256 : Nat) : Int))) (wt0 rfl) rfl rfl (x_bin rfl rfl rfl (b_remU (a := x) (b := 256) (by omega))) ?_)
    refine l_of (s_val (v := .int .u8 (((x % 256 : Nat) : Int))) (wt0 rfl) rfl rfl (x_conv rfl rfl Tryz.underlying115 Tryz.underlying5 (by rw [wrapB, Nat.mod_mod])) ?_)
    refine l_of (s_val (v := .pointer (some ⟨g1, (7 - i), none⟩)) (wt0 rfl) rfl rfl (x_indexAddr (7 - i) rfl rfl rfl Tryz.underlying130 sz5 (by omega) (off' := (7 - i)) (by omega)) ?_)
    refine l_of (s_store1 H5 0 (wt0 rfl) rfl rfl rfl rfl rfl sz5 rfl rfl (by rw [nbV_size]; rw [eR_len]; omega) ?_)
    intro wq7 H8
    rw [nbV_set (eR h i) (7 - i) (x % 256)] at H8
    replace H8 : S wq7 [Ob g1 (.cells (nbV ((eR h i).set (7 - i) (x % 256))) 5 (0, 0)), Old w no] := H8
    refine g_nil ?_
    refine g_then ?_
    refine g_region ?_
    refine l_of (s_val (v := .int .u64 ((x : Int))) (wt0 rfl) rfl rfl (x_move rfl rfl) ?_)
    refine l_of (s_val (v := .int .u64 (((x / 256 : Nat) : Int))) (wt0 rfl) rfl rfl (x_bin rfl rfl rfl (b_quoU (a := x) (b := 256) (by omega))) ?_)
    refine l_of (s_val (v := .int .u64 (((x / 256 : Nat) : Int))) (wt0 rfl) rfl rfl (x_assign rfl rfl) ?_)
    refine g_nil ?_
    refine g_in ?_
    refine g_then ?_
    refine g_weak [(0, .int .u64 (((x / 256 : Nat) : Int))), (3, .slice (some ⟨g1, 0, none⟩) (8) (8)), (6, .int .i64 ((i : Int)))] ⟨rfl, rfl, rfl, trivial⟩ ?_
    refine g_region ?_
    refine l_of (s_val (v := .int .i64 ((i : Int) + 1)) (wt0 rfl) rfl rfl (x_bin rfl rfl rfl (b_add (w64 (by omega)))) ?_)
    refine l_of (s_val (v := .int .i64 ((i : Int) + 1)) (wt0 rfl) rfl rfl (x_move rfl rfl) ?_)
    refine g_nil ?_
    refine g_then ?_
    refine g_round (i := (i, x)) (i + 1, x / 256) ?_ ?_ ?_
    · exact ⟨rfl, rfl, rfl, trivial⟩
    · exact ⟨by omega, (by rw [hx, Nat.div_div_eq_div_mul, Nat.pow_succ]), (by rw [← eR_next (by omega), ← hx]; exact H8)⟩
    · (try dsimp only); omega
  · skip
    refine g_cond_f rfl (decide_eq_false hb6) ?_
    refine g_exit ?_
    refine g_then_exit ?_
    refine g_then_exit ?_
    refine g_in_hit ?_
    refine g_then ?_
    refine g_seq ?_
    refine g_region ?_
    refine l_of (s_val (v := .slice (some ⟨g1, 0, none⟩) (8) (8)) (wt0 rfl) rfl rfl (x_move rfl rfl) ?_)
    refine l_of (s_val (v := .string ((nbS (eR h i)))) (wt0 rfl) rfl rfl (x_bytes (l := (eR h i).map UInt8.ofNat) rfl rfl Tryz.underlying130 Tryz.underlying9 Tryz.underlying5 (by simp [eR_len]) (hc_nb (k := 0) H5 rfl (eR_lt h i))) ?_)
    refine l_of (s_val (v := .string ((nbS (eR h i)))) (wt0 rfl) rfl rfl (x_assign rfl rfl) ?_)
    refine g_nil ?_
    refine g_then ?_
    refine g_ret ?_
    refine fin_ret [.tmp 2] [.string ((nbS (eR h i)))] rfl ⟨rfl, trivial⟩ ?_
    have hi8 : i = 8 := by omega
    exact ⟨by rw [hi8, eR_all]; rfl, H5.mask [false, true]⟩
set_option maxRecDepth 20000 in
set_option maxHeartbeats 4000000 in
theorem one_r (s : ByteArray) (h : Nat) (hs : s.size ≤ 1099511627776) (hh : h < 18446744073709551616) (w : World) : Calls Tryz.prog 100 #[.string s, .int .u64 ((h : Int))] w fun e w' => e = .returned (.int .u64 ((endT (laneP s h s.size) s.size : Nat) : Int)) ∧ S w' [Old w no] := by
  have H0 := S.old w
  refine enter 35 Tryz.func100 rfl rfl rfl ?_
  refine g_weak [(0, .string s), (1, .int .u64 ((h : Int)))] ⟨rfl, rfl, trivial⟩ ?_
  refine g_seq ?_
  refine g_region ?_
  refine l_of (s_val (v := .int .u64 0) (wt0 rfl) rfl rfl (x_assign rfl rfl) ?_)
  refine g_nil ?_
  refine g_then ?_
  refine g_seq ?_
  refine g_seq ?_
  refine g_region ?_
  refine l_of (s_val (v := .string s) (wt0 rfl) rfl rfl (x_move rfl rfl) ?_)
  refine l_of (s_val (v := .int .i64 ((s.size : Int))) (wt0 rfl) rfl rfl (x_lens rfl rfl Tryz.underlying9) ?_)
  refine l_of (s_val (v := .int .i64 0) (wt0 rfl) rfl rfl (x_move rfl rfl) ?_)
  refine g_nil ?_
  refine g_then ?_
  refine g_block ?_
  refine g_loop (ι := Nat) (fun i => [(0, .string s), (1, .int .u64 (((laneP s h i : Nat) : Int))), (7, .int .i64 ((s.size : Int))), (8, .int .i64 ((i : Int)))]) (fun i wx => (i ≤ s.size) ∧ S wx [Old w no]) (fun i => s.size - i) (0) ⟨rfl, rfl, rfl, rfl, trivial⟩ ⟨Nat.zero_le _, H0⟩ ?_
  rintro i wq1 ⟨hi, H2⟩
  replace H2 : S wq1 [Old w no] := H2
  refine g_weak [(0, .string s), (1, .int .u64 (((laneP s h i : Nat) : Int))), (7, .int .i64 ((s.size : Int))), (8, .int .i64 ((i : Int)))] ⟨rfl, rfl, rfl, rfl, trivial⟩ ?_
  have hl := laneP_lt (s := s) hh i
  have hb8 := bt'_lt s i
  have hx := u64_xor hl (show bt' s i < 18446744073709551616 by omega)
  have hX : ((laneP s h i ^^^ bt' s i) * 1099511628211 % 18446744073709551616) < 18446744073709551616 := Nat.mod_lt _ (by omega)
  have hX2 : ((laneP s h i ^^^ bt' s i) * 1099511628211 % 18446744073709551616) / 536870912 ≤ ((laneP s h i ^^^ bt' s i) * 1099511628211 % 18446744073709551616) := Nat.div_le_self _ _
  have hz := u64_xor hl (show s.size < 18446744073709551616 by omega)
  have hY : ((laneP s h i ^^^ s.size) * 1099511628211 % 18446744073709551616) < 18446744073709551616 := Nat.mod_lt _ (by omega)
  have hY2 : ((laneP s h i ^^^ s.size) * 1099511628211 % 18446744073709551616) / 4294967296 ≤ ((laneP s h i ^^^ s.size) * 1099511628211 % 18446744073709551616) := Nat.div_le_self _ _
  refine g_seq ?_
  refine g_region ?_
  refine l_of (s_val (v := .bool (decide (((i : Int) : Int) < (s.size : Int)))) (wt0 rfl) rfl rfl (x_bin rfl rfl rfl b_lss) ?_)
  refine g_nil ?_
  refine g_then ?_
  refine g_seq ?_
  by_cases hb3 : ((i : Int) : Int) < (s.size : Int)
  · skip
    refine g_cond_t rfl (decide_eq_true hb3) ?_
    refine g_skip ?_
    refine g_then ?_
    refine g_seq ?_
    refine g_block ?_
    refine g_seq ?_
    refine g_region ?_
    refine l_of (s_val (v := .int .i64 ((i : Int))) (wt0 rfl) rfl rfl (x_move rfl rfl) ?_)
    refine l_of (s_val (v := .int .i64 ((i : Int))) (wt0 rfl) rfl rfl (x_assign rfl rfl) ?_)
    refine g_nil ?_
    refine g_then ?_
    refine g_seq ?_
    refine g_region ?_
    refine l_of (s_val (v := .int .u64 (((laneP s h i : Nat) : Int))) (wt0 rfl) rfl rfl (x_move rfl rfl) ?_)
    refine l_of (s_val (v := .string s) (wt0 rfl) rfl rfl (x_move rfl rfl) ?_)
    refine l_of (s_val (v := .int .i64 ((i : Int))) (wt0 rfl) rfl rfl (x_move rfl rfl) ?_)
    have hbt4 := bt'_lt s i
    refine l_of (s_val (v := .int .u8 ((bt' s i : Int))) (wt0 rfl) rfl rfl (x_index i rfl rfl rfl Tryz.underlying9 (by omega)) ?_)
    refine l_of (s_val (v := .int .u64 ((bt' s i : Int))) (wt0 rfl) rfl rfl (x_conv rfl rfl Tryz.underlying5 Tryz.underlying115 (wrapU (by omega))) ?_)
    refine l_of (s_val (v := .int .u64 (((laneP s h i ^^^ bt' s i : Nat) : Int))) (wt0 rfl) rfl rfl (x_bin rfl rfl rfl (b_xorU (a := laneP s h i) (b := bt' s i) (by omega))) ?_)
    refine l_of (s_val (v := .int .u64 (((((laneP s h i ^^^ bt' s i) * 1099511628211 % 18446744073709551616) : Nat) : Int))) (wt0 rfl) rfl rfl (x_bin rfl rfl rfl (b_mulU (laneP s h i ^^^ bt' s i) 1099511628211)) ?_)
    refine l_of (s_val (v := .int .u64 (((((laneP s h i ^^^ bt' s i) * 1099511628211 % 18446744073709551616) : Nat) : Int))) (wt0 rfl) rfl rfl (x_assign rfl rfl) ?_)
    refine g_nil ?_
    refine g_then ?_
    refine g_region ?_
    refine l_of (s_val (v := .int .u64 (((((laneP s h i ^^^ bt' s i) * 1099511628211 % 18446744073709551616) : Nat) : Int))) (wt0 rfl) rfl rfl (x_move rfl rfl) ?_)
    refine l_of (s_val (v := .int .u64 (((((laneP s h i ^^^ bt' s i) * 1099511628211 % 18446744073709551616) : Nat) : Int))) (wt0 rfl) rfl rfl (x_move rfl rfl) ?_)
    refine l_of (s_val (v := .int .u64 (((((laneP s h i ^^^ bt' s i) * 1099511628211 % 18446744073709551616) / 536870912 : Nat) : Int))) (wt0 rfl) rfl rfl (x_bin rfl rfl rfl (b_quoU (a := ((laneP s h i ^^^ bt' s i) * 1099511628211 % 18446744073709551616)) (b := 536870912) (by omega))) ?_)
    refine l_of (s_val (v := .int .u64 (((laneP s h (i + 1) : Nat) : Int))) (wt0 rfl) rfl rfl (x_bin rfl rfl rfl (b_xorU (a := ((laneP s h i ^^^ bt' s i) * 1099511628211 % 18446744073709551616)) (b := ((laneP s h i ^^^ bt' s i) * 1099511628211 % 18446744073709551616) / 536870912) (by omega))) ?_)
    refine l_of (s_val (v := .int .u64 (((laneP s h (i + 1) : Nat) : Int))) (wt0 rfl) rfl rfl (x_assign rfl rfl) ?_)
    refine g_nil ?_
    refine g_in ?_
    refine g_then ?_
    refine g_weak [(0, .string s), (1, .int .u64 (((laneP s h (i + 1) : Nat) : Int))), (7, .int .i64 ((s.size : Int))), (8, .int .i64 ((i : Int)))] ⟨rfl, rfl, rfl, rfl, trivial⟩ ?_
    refine g_region ?_
    refine l_of (s_val (v := .int .i64 ((i : Int) + 1)) (wt0 rfl) rfl rfl (x_bin rfl rfl rfl (b_add (w64 (by omega)))) ?_)
    refine l_of (s_val (v := .int .i64 ((i : Int) + 1)) (wt0 rfl) rfl rfl (x_move rfl rfl) ?_)
    refine g_nil ?_
    refine g_then ?_
    refine g_round (i := (i)) (i + 1) ?_ ?_ ?_
    · exact ⟨rfl, rfl, rfl, rfl, trivial⟩
    · exact ⟨by omega, H2⟩
    · (try dsimp only); omega
  · skip
    refine g_cond_f rfl (decide_eq_false hb3) ?_
    refine g_exit ?_
    refine g_then_exit ?_
    refine g_then_exit ?_
    refine g_in_hit ?_
    refine g_then ?_
    refine g_seq ?_
    refine g_region ?_
    refine l_of (s_val (v := .int .u64 (((laneP s h i : Nat) : Int))) (wt0 rfl) rfl rfl (x_move rfl rfl) ?_)
    refine l_of (s_val (v := .string s) (wt0 rfl) rfl rfl (x_move rfl rfl) ?_)
    refine l_of (s_val (v := .int .i64 ((s.size : Int))) (wt0 rfl) rfl rfl (x_lens rfl rfl Tryz.underlying9) ?_)
    refine l_of (s_val (v := .int .u64 ((s.size : Int))) (wt0 rfl) rfl rfl (x_conv rfl rfl Tryz.underlying3 Tryz.underlying115 (wrapU (by omega))) ?_)
    refine l_of (s_val (v := .int .u64 (((laneP s h i ^^^ s.size : Nat) : Int))) (wt0 rfl) rfl rfl (x_bin rfl rfl rfl (b_xorU (a := laneP s h i) (b := s.size) (by omega))) ?_)
    refine l_of (s_val (v := .int .u64 (((((laneP s h i ^^^ s.size) * 1099511628211 % 18446744073709551616) : Nat) : Int))) (wt0 rfl) rfl rfl (x_bin rfl rfl rfl (b_mulU (laneP s h i ^^^ s.size) 1099511628211)) ?_)
    refine l_of (s_val (v := .int .u64 (((((laneP s h i ^^^ s.size) * 1099511628211 % 18446744073709551616) : Nat) : Int))) (wt0 rfl) rfl rfl (x_assign rfl rfl) ?_)
    refine g_nil ?_
    refine g_then ?_
    refine g_seq ?_
    refine g_region ?_
    refine l_of (s_val (v := .int .u64 (((((laneP s h i ^^^ s.size) * 1099511628211 % 18446744073709551616) : Nat) : Int))) (wt0 rfl) rfl rfl (x_move rfl rfl) ?_)
    refine l_of (s_val (v := .int .u64 (((((laneP s h i ^^^ s.size) * 1099511628211 % 18446744073709551616) : Nat) : Int))) (wt0 rfl) rfl rfl (x_move rfl rfl) ?_)
    refine l_of (s_val (v := .int .u64 (((((laneP s h i ^^^ s.size) * 1099511628211 % 18446744073709551616) / 4294967296 : Nat) : Int))) (wt0 rfl) rfl rfl (x_bin rfl rfl rfl (b_quoU (a := ((laneP s h i ^^^ s.size) * 1099511628211 % 18446744073709551616)) (b := 4294967296) (by omega))) ?_)
    refine l_of (s_val (v := .int .u64 (((((laneP s h i ^^^ s.size) * 1099511628211 % 18446744073709551616) ^^^ ((laneP s h i ^^^ s.size) * 1099511628211 % 18446744073709551616) / 4294967296 : Nat) : Int))) (wt0 rfl) rfl rfl (x_bin rfl rfl rfl (b_xorU (a := ((laneP s h i ^^^ s.size) * 1099511628211 % 18446744073709551616)) (b := ((laneP s h i ^^^ s.size) * 1099511628211 % 18446744073709551616) / 4294967296) (by omega))) ?_)
    refine l_of (s_val (v := .int .u64 (((((laneP s h i ^^^ s.size) * 1099511628211 % 18446744073709551616) ^^^ ((laneP s h i ^^^ s.size) * 1099511628211 % 18446744073709551616) / 4294967296 : Nat) : Int))) (wt0 rfl) rfl rfl (x_assign rfl rfl) ?_)
    refine g_nil ?_
    refine g_then ?_
    refine g_weak [(1, .int .u64 (((((laneP s h i ^^^ s.size) * 1099511628211 % 18446744073709551616) ^^^ ((laneP s h i ^^^ s.size) * 1099511628211 % 18446744073709551616) / 4294967296 : Nat) : Int)))] ⟨rfl, trivial⟩ ?_
    refine g_seq ?_
    refine g_region ?_
    refine l_of (s_val (v := .int .u64 (((((laneP s h i ^^^ s.size) * 1099511628211 % 18446744073709551616) ^^^ ((laneP s h i ^^^ s.size) * 1099511628211 % 18446744073709551616) / 4294967296 : Nat) : Int))) (wt0 rfl) rfl rfl (x_move rfl rfl) ?_)
    refine l_of (s_val (v := .int .u64 (((endT (laneP s h i) s.size : Nat) : Int))) (wt0 rfl) rfl rfl (x_bin rfl rfl rfl (b_mulU (((laneP s h i ^^^ s.size) * 1099511628211 % 18446744073709551616) ^^^ ((laneP s h i ^^^ s.size) * 1099511628211 % 18446744073709551616) / 4294967296) 1099511628211)) ?_)
    refine l_of (s_val (v := .int .u64 (((endT (laneP s h i) s.size : Nat) : Int))) (wt0 rfl) rfl rfl (x_assign rfl rfl) ?_)
    refine g_nil ?_
    refine g_then ?_
    refine g_ret ?_
    refine fin_ret [.tmp 4] [.int .u64 (((endT (laneP s h i) s.size : Nat) : Int))] rfl ⟨rfl, trivial⟩ ?_
    have hii : i = s.size := by omega
    exact ⟨by rw [hii]; rfl, H2.mask [true]⟩
set_option maxRecDepth 20000 in
set_option maxHeartbeats 4000000 in
theorem start_r (k : Nat)  (w : World) : Calls Tryz.prog 101 #[.int .u64 ((k : Int))] w fun e w' => e = .returned (.int .u64 ((startT k : Nat) : Int)) ∧ S w' [Old w no] := by
  have H0 := S.old w
  refine enter 6 Tryz.func101 rfl rfl rfl ?_
  refine g_weak [(0, .int .u64 ((k : Int)))] ⟨rfl, trivial⟩ ?_
  refine g_seq ?_
  refine g_region ?_
  refine l_of (s_val (v := .int .u64 0) (wt0 rfl) rfl rfl (x_assign rfl rfl) ?_)
  refine g_nil ?_
  refine g_then ?_
  refine g_seq ?_
  refine g_region ?_
  refine l_of (s_val (v := .int .u64 ((k : Int))) (wt0 rfl) rfl rfl (x_move rfl rfl) ?_)
  refine l_of (s_val (v := .int .u64 (((k * 11400714819323198485 % 18446744073709551616 : Nat) : Int))) (wt0 rfl) rfl rfl (x_bin rfl rfl rfl (b_mulU k 11400714819323198485)) ?_)
  refine l_of (s_val (v := .int .u64 (((startT k : Nat) : Int))) (wt0 rfl) rfl rfl (x_bin rfl rfl rfl (b_addU 14695981039346656037 (k * 11400714819323198485 % 18446744073709551616))) ?_)
  refine l_of (s_val (v := .int .u64 (((startT k : Nat) : Int))) (wt0 rfl) rfl rfl (x_assign rfl rfl) ?_)
  refine g_nil ?_
  refine g_then ?_
  refine g_ret ?_
  refine fin_ret [.tmp 2] [.int .u64 (((startT k : Nat) : Int))] rfl ⟨rfl, trivial⟩ ?_
  exact ⟨rfl, H0.mask [true]⟩
theorem lanes_at {s : ByteArray} {k : Nat} (h : k < 4) : (lanesT s).getD k 0 = laneP s (startT k) s.size := by
  match k, h with
  | 0, _ => rfl
  | 1, _ => rfl
  | 2, _ => rfl
  | 3, _ => rfl
set_option maxRecDepth 20000 in
set_option maxHeartbeats 4000000 in
theorem sum_r (s : ByteArray) (hs : s.size ≤ 1099511627776) (w : World) : Calls Tryz.prog 91 #[.string s] w fun e w' => e = .returned (.string (sumS s)) ∧ S w' [Old w no] := by
  have H0 := S.old w
  refine enter 18 Tryz.func91 rfl rfl rfl ?_
  refine g_weak [(0, .string s)] ⟨rfl, trivial⟩ ?_
  refine g_seq ?_
  refine g_region ?_
  refine l_of (s_val (v := .string (⟨#[]⟩)) (wt0 rfl) rfl rfl (x_assign rfl rfl) ?_)
  refine g_nil ?_
  refine g_then ?_
  refine g_seq ?_
  refine g_region ?_
  refine l_of (s_val (v := .string (⟨#[]⟩)) (wt0 rfl) rfl rfl (x_assign rfl rfl) ?_)
  refine g_nil ?_
  refine g_then ?_
  refine g_seq ?_
  refine g_seq ?_
  refine g_region ?_
  refine l_of (s_val (v := .int .i64 0) (wt0 rfl) rfl rfl (x_move rfl rfl) ?_)
  refine g_nil ?_
  refine g_then ?_
  refine g_block ?_
  refine g_loop (ι := Nat × ByteArray) (fun (k, out) => [(0, .string s), (3, .string out), (5, .int .i64 ((k : Int)))]) (fun (k, out) wx => (k ≤ 4) ∧ (out = nbS (sumTo (lanesT s) s.size k)) ∧ (out.size = 8 * k) ∧ S wx [Old w no]) (fun (k, out) => 4 - k) (0, ⟨#[]⟩) ⟨rfl, rfl, rfl, trivial⟩ ⟨Nat.zero_le _, rfl, rfl, H0⟩ ?_
  rintro ⟨k, out⟩ wq1 ⟨hk, hout, hsz, H2⟩
  replace H2 : S wq1 [Old w no] := H2
  refine g_weak [(0, .string s), (3, .string out), (5, .int .i64 ((k : Int)))] ⟨rfl, rfl, rfl, trivial⟩ ?_
  have he8 : ∀ n, (nbS (eightT n)).size = 8 := fun n => by rw [nbS_size]; exact eightTo_len n 8
  refine g_seq ?_
  refine g_region ?_
  refine l_of (s_val (v := .bool (decide (((k : Int) : Int) < 4))) (wt0 rfl) rfl rfl (x_bin rfl rfl rfl b_lss) ?_)
  refine g_nil ?_
  refine g_then ?_
  refine g_seq ?_
  by_cases hb3 : ((k : Int) : Int) < 4
  · skip
    refine g_cond_t rfl (decide_eq_true hb3) ?_
    refine g_skip ?_
    refine g_then ?_
    refine g_seq ?_
    refine g_block ?_
    refine g_seq ?_
    refine g_region ?_
    refine l_of (s_val (v := .int .i64 ((k : Int))) (wt0 rfl) rfl rfl (x_move rfl rfl) ?_)
    refine l_of (s_val (v := .int .i64 ((k : Int))) (wt0 rfl) rfl rfl (x_assign rfl rfl) ?_)
    refine g_nil ?_
    refine g_then ?_
    refine g_region ?_
    refine l_of (s_val (v := .string out) (wt0 rfl) rfl rfl (x_move rfl rfl) ?_)
    refine l_of (s_val (v := .string s) (wt0 rfl) rfl rfl (x_move rfl rfl) ?_)
    refine l_of (s_val (v := .int .i64 ((k : Int))) (wt0 rfl) rfl rfl (x_move rfl rfl) ?_)
    refine l_of (s_val (v := .int .u64 ((k : Int))) (wt0 rfl) rfl rfl (x_conv rfl rfl Tryz.underlying3 Tryz.underlying115 (wrapU (by omega))) ?_)
    refine l_of (s_call (wt0 rfl) (x_call' rfl rfl cl101) (start_r _ _) ?_)
    rintro _ wq4 ⟨rfl, H5⟩
    replace H5 : S wq4 [Old w no] := H2.absorb (new := []) H5
    refine b_ret rfl rfl ?_
    refine l_of (s_call (wt0 rfl) (x_call' rfl rfl cl100) (one_r _ _ (by omega) (startT_lt _) _) ?_)
    rintro _ wq6 ⟨rfl, H7⟩
    replace H7 : S wq6 [Old w no] := H5.absorb (new := []) H7
    refine b_ret rfl rfl ?_
    refine l_of (s_call (wt0 rfl) (x_call' rfl rfl cl99) (eight_r _ (endT_lt _ _) _) ?_)
    rintro _ wq8 ⟨rfl, H9⟩
    replace H9 : S wq8 [Old w no] := H7.absorb (new := []) H9
    refine b_ret rfl rfl ?_
    have hq8 := he8 (endT (laneP s (startT k) s.size) s.size)
    have hsz10 : (out ++ (nbS (eightT (endT (laneP s (startT k) s.size) s.size)))).size = out.size + (nbS (eightT (endT (laneP s (startT k) s.size) s.size))).size := ByteArray.size_append
    refine l_of (s_val (v := .string (out ++ (nbS (eightT (endT (laneP s (startT k) s.size) s.size))))) (wt0 rfl) rfl rfl (x_bin rfl rfl rfl (b_cat (by omega))) ?_)
    refine l_of (s_val (v := .string (out ++ (nbS (eightT (endT (laneP s (startT k) s.size) s.size))))) (wt0 rfl) rfl rfl (x_assign rfl rfl) ?_)
    refine g_nil ?_
    refine g_in ?_
    refine g_then ?_
    refine g_region ?_
    refine l_of (s_val (v := .int .i64 ((k : Int) + 1)) (wt0 rfl) rfl rfl (x_bin rfl rfl rfl (b_add (w64 (by omega)))) ?_)
    refine l_of (s_val (v := .int .i64 ((k : Int) + 1)) (wt0 rfl) rfl rfl (x_move rfl rfl) ?_)
    refine g_nil ?_
    refine g_then ?_
    refine g_round (i := (k, out)) (k + 1, out ++ (nbS (eightT (endT (laneP s (startT k) s.size) s.size)))) ?_ ?_ ?_
    · exact ⟨rfl, rfl, rfl, trivial⟩
    · exact ⟨by omega, (by rw [hout, nbS_app, ← lanes_at (by omega), ← sumTo_next (by show k < 4; omega)]), (by rw [ByteArray.size_append, nbS_size, hsz]; show _ + (eightTo _ 8).length = _; rw [eightTo_len]; omega), H9⟩
    · (try dsimp only); omega
  · skip
    refine g_cond_f rfl (decide_eq_false hb3) ?_
    refine g_exit ?_
    refine g_then_exit ?_
    refine g_then_exit ?_
    refine g_in_hit ?_
    refine g_then ?_
    refine g_seq ?_
    refine g_region ?_
    refine l_of (s_val (v := .string out) (wt0 rfl) rfl rfl (x_move rfl rfl) ?_)
    refine l_of (s_val (v := .string out) (wt0 rfl) rfl rfl (x_assign rfl rfl) ?_)
    refine g_nil ?_
    refine g_then ?_
    refine g_ret ?_
    refine fin_ret [.tmp 2] [.string out] rfl ⟨rfl, trivial⟩ ?_
    have hk4 : k = 4 := by omega
    exact ⟨by rw [hout, hk4]; rfl, H2.mask [true]⟩
set_option maxRecDepth 20000 in
set_option maxHeartbeats 4000000 in
theorem pair_r (a b : ByteArray) (hs : a.size + b.size ≤ 1099511627776) (w : World) : Calls Tryz.prog 74 #[.string a, .string b] w fun e w' => e = .returned (.string (pairS a b)) ∧ S w' [Old w no] := by
  have H0 := S.old w
  refine enter 9 Tryz.func74 rfl rfl rfl ?_
  refine g_weak [(0, .string a), (1, .string b)] ⟨rfl, rfl, trivial⟩ ?_
  refine g_seq ?_
  refine g_region ?_
  refine l_of (s_val (v := .string (⟨#[]⟩)) (wt0 rfl) rfl rfl (x_assign rfl rfl) ?_)
  refine g_nil ?_
  refine g_then ?_
  refine g_seq ?_
  refine g_region ?_
  refine l_of (s_val (v := .string a) (wt0 rfl) rfl rfl (x_move rfl rfl) ?_)
  refine l_of (s_val (v := .string b) (wt0 rfl) rfl rfl (x_move rfl rfl) ?_)
  have hsz1 : (a ++ b).size = a.size + b.size := ByteArray.size_append
  refine l_of (s_val (v := .string (a ++ b)) (wt0 rfl) rfl rfl (x_bin rfl rfl rfl (b_cat (by omega))) ?_)
  refine l_of (s_call (wt0 rfl) (x_call' rfl rfl cl91) (sum_r _ (by omega) _) ?_)
  rintro _ wq2 ⟨rfl, H3⟩
  replace H3 : S wq2 [Old w no] := H0.absorb (new := []) H3
  refine b_ret rfl rfl ?_
  refine l_of (s_val (v := .string ((sumS (a ++ b)))) (wt0 rfl) rfl rfl (x_assign rfl rfl) ?_)
  refine g_nil ?_
  refine g_then ?_
  refine g_ret ?_
  refine fin_ret [.tmp 4] [.string ((sumS (a ++ b)))] rfl ⟨rfl, trivial⟩ ?_
  exact ⟨rfl, H3.mask [true]⟩
set_option maxRecDepth 20000 in
set_option maxHeartbeats 4000000 in
theorem zero_r   (w : World) : Calls Tryz.prog 73 #[] w fun e w' => e = .returned (.string zeroB) ∧ S w' [Old w no] := by
  have H0 := S.old w
  refine enter 3 Tryz.func73 rfl rfl rfl ?_
  refine g_weak [] trivial ?_
  refine g_seq ?_
  refine g_region ?_
  refine l_of (s_val (v := .string (⟨#[]⟩)) (wt0 rfl) rfl rfl (x_assign rfl rfl) ?_)
  refine g_nil ?_
  refine g_then ?_
  refine g_seq ?_
  refine g_region ?_
  refine l_of (s_make1 32 H0 (wt0 rfl) rfl rfl rfl rfl rfl Tryz.underlying130 inf5 rfl (by omega) ?_)
  intro g1 wq2 H3
  rw [nbV_zero] at H3
  replace H3 : S wq2 [Ob g1 (.cells (nbV (List.replicate 32 0)) 5 (0, 0)), Old w no] := H3
  refine l_of (s_val (v := .string zeroB) (wt0 rfl) rfl rfl (x_bytes (l := (List.replicate 32 0).map UInt8.ofNat) rfl rfl Tryz.underlying130 Tryz.underlying9 Tryz.underlying5 (by simp) (hc_nb (k := 0) H3 rfl (fun x hx => by have := List.eq_of_mem_replicate hx; omega))) ?_)
  refine l_of (s_val (v := .string zeroB) (wt0 rfl) rfl rfl (x_assign rfl rfl) ?_)
  refine g_nil ?_
  refine g_then ?_
  refine g_ret ?_
  refine fin_ret [.tmp 0] [.string zeroB] rfl ⟨rfl, trivial⟩ ?_
  exact ⟨rfl, H3.mask [false, true]⟩
end Go.Proofs.YtlajgickimgigaaGreat
namespace Go.Proofs.YtlajgickimgigaaGreat
open Go.RowKit

theorem cl81 : callable Tryz.prog 81 = true := by kernel_rfl
theorem cl79 : callable Tryz.prog 79 = true := by kernel_rfl
theorem cl80 : callable Tryz.prog 80 = true := by kernel_rfl
theorem fo118_0 : foO Tryz.prog 118 0 = some 0 := by kernel_rfl
theorem fo121_0 : foO Tryz.prog 121 0 = some 0 := by kernel_rfl
theorem fo121_1 : foO Tryz.prog 121 1 = some 4 := by kernel_rfl
theorem sz115 : szO Tryz.prog 115 = some 1 := by kernel_rfl
theorem sz116 : szO Tryz.prog 116 = some 4 := by kernel_rfl
theorem sz118 : szO Tryz.prog 118 = some 4 := by kernel_rfl
theorem sz3 : szO Tryz.prog 3 = some 1 := by kernel_rfl
theorem ze118 : zeO Tryz.prog 118 = some (.agg #[.int .u64 0, .int .u64 0, .int .u64 0, .int .u64 0]) := by kernel_rfl
theorem begL_lt : ∀ x ∈ [startT 0, startT 1, startT 2, startT 3], x < 18446744073709551616 := by decide
/-- What begun lays: the first k lanes. -/
def begTo (k : Nat) : List Nat := (List.range 4).map (fun i => if i < k then startT i else 0)
theorem begTo_len (k : Nat) : (begTo k).length = 4 := by unfold begTo; simp
theorem begTo_at {k p : Nat} (hp : p < 4) : (begTo k)[p]? = some (if p < k then startT p else 0) := by
  unfold begTo; rw [List.getElem?_map, List.getElem?_range hp]; rfl
theorem begTo_next {k : Nat} (hk : k < 4) : (begTo k).set k (startT k) = begTo (k + 1) := by
  apply List.ext_getElem?
  intro p
  rw [List.getElem?_set, begTo_len]
  by_cases hp : p < 4
  · rw [begTo_at hp, begTo_at hp]
    by_cases e : k = p
    · subst e; rw [if_pos rfl, if_pos hk, if_pos (by omega)]
    · rw [if_neg e]
      by_cases e2 : p < k
      · rw [if_pos e2, if_pos (by omega)]
      · rw [if_neg e2, if_neg (by omega)]
  · rw [if_neg (by omega), List.getElem?_eq_none (by rw [begTo_len]; omega), List.getElem?_eq_none (by rw [begTo_len]; omega)]
def begL : List Nat := begTo 4
theorem begL_len : begL.length = 4 := begTo_len 4
theorem begL_eq : begL = [startT 0, startT 1, startT 2, startT 3] := rfl
theorem lan0 : (#[.int .u64 0, .int .u64 0, .int .u64 0, .int .u64 0] : Array Value) = lanV (begTo 0) := rfl
theorem lanV_ext {l : List Nat} (hl : l.length = 4) : (lanV l).extract 0 (0 + 4) = lanV l := by
  apply Array.ext'
  have := uV_len l
  unfold lanV
  simp
  exact List.take_of_length_le (by omega)
theorem hash0 : (lanV begL ++ #[.int .i64 0] : Array Value) = hashV begL 0 := rfl
set_option maxRecDepth 20000 in
set_option maxHeartbeats 4000000 in
theorem begun_h   (w : World) : Calls Tryz.prog 79 #[] w fun e w' => e = .returned (.agg (lanV begL)) ∧ S w' [Old w no] := by
  have H0 := S.old w
  refine enter 15 Tryz.func79 rfl rfl rfl ?_
  refine g_weak [] trivial ?_
  refine g_seq ?_
  refine g_region ?_
  refine l_of (s_alloc H0 (wt0 rfl) rfl rfl rfl ze118 ?_)
  intro g1 wq2 H3
  replace H3 : S wq2 [Ob g1 (.cells (lanV (begTo 0)) 118 (0, 0)), Old w no] := H3
  refine g_nil ?_
  refine g_then ?_
  refine g_seq ?_
  refine g_region ?_
  refine l_of (s_alloc H3 (wt0 rfl) rfl rfl rfl ze118 ?_)
  intro g4 wq5 H6
  replace H6 : S wq5 [Ob g4 (.cells (lanV (begTo 0)) 118 (0, 0)), Ob g1 (.cells (lanV (begTo 0)) 118 (0, 0)), Old w no] := H6
  refine g_nil ?_
  refine g_then ?_
  refine g_seq ?_
  refine g_seq ?_
  refine g_region ?_
  refine l_of (s_val (v := .int .i64 0) (wt0 rfl) rfl rfl (x_move rfl rfl) ?_)
  refine g_nil ?_
  refine g_then ?_
  refine g_block ?_
  refine g_loop (ι := Nat) (fun k => [(0, .pointer (some ⟨g1, 0, none⟩)), (1, .pointer (some ⟨g4, 0, none⟩)), (3, .int .i64 ((k : Int)))]) (fun k wx => (k ≤ 4) ∧ S wx [Ob g4 (.cells (lanV (begTo k)) 118 (0, 0)), Ob g1 (.cells (lanV (begTo 0)) 118 (0, 0)), Old w no]) (fun k => 4 - k) (0) ⟨rfl, rfl, rfl, trivial⟩ ⟨Nat.zero_le _, (H6.takes [0, 1, 2] (by decide))⟩ ?_
  rintro k wq7 ⟨hk, H8⟩
  replace H8 : S wq7 [Ob g4 (.cells (lanV (begTo k)) 118 (0, 0)), Ob g1 (.cells (lanV (begTo 0)) 118 (0, 0)), Old w no] := H8
  refine g_weak [(0, .pointer (some ⟨g1, 0, none⟩)), (1, .pointer (some ⟨g4, 0, none⟩)), (3, .int .i64 ((k : Int)))] ⟨rfl, rfl, rfl, trivial⟩ ?_
  refine g_seq ?_
  refine g_region ?_
  refine l_of (s_val (v := .bool (decide (((k : Int) : Int) < 4))) (wt0 rfl) rfl rfl (x_bin rfl rfl rfl b_lss) ?_)
  refine g_nil ?_
  refine g_then ?_
  refine g_seq ?_
  by_cases hb9 : ((k : Int) : Int) < 4
  · skip
    refine g_cond_t rfl (decide_eq_true hb9) ?_
    refine g_skip ?_
    refine g_then ?_
    refine g_seq ?_
    refine g_block ?_
    refine g_seq ?_
    refine g_region ?_
    refine l_of (s_val (v := .int .i64 ((k : Int))) (wt0 rfl) rfl rfl (x_move rfl rfl) ?_)
    refine l_of (s_val (v := .int .i64 ((k : Int))) (wt0 rfl) rfl rfl (x_assign rfl rfl) ?_)
    refine g_nil ?_
    refine g_then ?_
    refine g_region ?_
    refine l_of (s_val (v := .int .i64 ((k : Int))) (wt0 rfl) rfl rfl (x_move rfl rfl) ?_)
    refine l_of (s_val (v := .int .i64 ((k : Int))) (wt0 rfl) rfl rfl (x_move rfl rfl) ?_)
    refine l_of (s_val (v := .int .u64 ((k : Int))) (wt0 rfl) rfl rfl (x_conv rfl rfl Tryz.underlying3 Tryz.underlying115 (wrapU (by omega))) ?_)
    refine l_of (s_val (v := .int .u64 (((k * 11400714819323198485 % 18446744073709551616 : Nat) : Int))) (wt0 rfl) rfl rfl (x_bin rfl rfl rfl (b_mulU k 11400714819323198485)) ?_)
    refine l_of (s_val (v := .int .u64 (((startT k : Nat) : Int))) (wt0 rfl) rfl rfl (x_bin rfl rfl rfl (b_addU 14695981039346656037 (k * 11400714819323198485 % 18446744073709551616))) ?_)
    refine l_of (s_val (v := .pointer (some ⟨g4, 0, none⟩)) (wt0 rfl) rfl rfl (x_fieldAddr rfl rfl fo118_0 rfl) ?_)
    refine l_of (s_val (v := .pointer (some ⟨g4, k, none⟩)) (wt0 rfl) rfl rfl (x_indexAddrA k rfl rfl rfl Tryz.underlying116 sz115 (by omega) (off' := k) (by omega)) ?_)
    refine l_of (s_store1 H8 0 (wt0 rfl) rfl rfl rfl rfl rfl sz115 rfl rfl (by rw [lanV_size]; simp [begTo_len]; omega) ?_)
    intro wq10 H11
    rw [lanV_set (l := (begTo k)) (i := k) (x := (startT k)) (by simp [begTo_len]; omega)] at H11
    replace H11 : S wq10 [Ob g4 (.cells (lanV ((begTo k).set k (startT k))) 118 (0, 0)), Ob g1 (.cells (lanV (begTo 0)) 118 (0, 0)), Old w no] := H11
    refine g_nil ?_
    refine g_in ?_
    refine g_then ?_
    refine g_region ?_
    refine l_of (s_val (v := .int .i64 ((k : Int) + 1)) (wt0 rfl) rfl rfl (x_bin rfl rfl rfl (b_add (w64 (by omega)))) ?_)
    refine l_of (s_val (v := .int .i64 ((k : Int) + 1)) (wt0 rfl) rfl rfl (x_move rfl rfl) ?_)
    refine g_nil ?_
    refine g_then ?_
    refine g_round (i := (k)) (k + 1) ?_ ?_ ?_
    · exact ⟨rfl, rfl, rfl, trivial⟩
    · exact ⟨by omega, (by rw [← begTo_next (by omega)]; exact (H11.takes [0, 1, 2] (by decide)))⟩
    · (try dsimp only); omega
  · skip
    refine g_cond_f rfl (decide_eq_false hb9) ?_
    refine g_exit ?_
    refine g_then_exit ?_
    refine g_then_exit ?_
    refine g_in_hit ?_
    refine g_then ?_
    refine g_seq ?_
    refine g_region ?_
    refine l_of (s_val (v := .agg (lanV (begTo k))) (wt0 rfl) rfl rfl (x_loadA H8 0 rfl rfl Tryz.underlying118 rfl sz118 rfl (Nat.ble_eq_true_of_le (by rw [lanV_size, begTo_len]; omega)) (lanV_ext (begTo_len _))) ?_)
    refine l_of (s_store H8 1 (wt0 rfl) rfl rfl rfl rfl rfl sz118 rfl rfl (cs' := lanV (begTo k)) (by simp [Value.cells, lanV, uV_len, begTo_len]) ?_)
    intro wq12 H13
    replace H13 : S wq12 [Ob g4 (.cells (lanV (begTo k)) 118 (0, 0)), Ob g1 (.cells (lanV (begTo k)) 118 (0, 0)), Old w no] := H13
    refine g_nil ?_
    refine g_then ?_
    refine g_ret ?_
    refine fin_ret [.cell 0 118] [.agg (lanV (begTo k))] rfl ⟨⟨_, rfl, run_loadA (H13.ob (k := 1) rfl) Tryz.underlying118 rfl sz118 rfl rfl⟩, trivial⟩ ?_
    have hk4 : k = 4 := by omega
    subst hk4
    exact ⟨rfl, H13.mask [false, false, true]⟩
set_option maxRecDepth 20000 in
set_option maxHeartbeats 4000000 in
theorem newh_h   (w : World) : Calls Tryz.prog 63 #[] w fun e w' => ∃ g, e = .returned (.pointer (some ⟨g, 0, none⟩)) ∧ S w' ([Ob g (.cells (hashV begL 0) 121 (0, 0))] ++ [Old w no]) := by
  have H0 := S.old w
  refine enter 4 Tryz.func63 rfl rfl rfl ?_
  refine g_weak [] trivial ?_
  refine g_seq ?_
  refine g_region ?_
  refine l_of (s_val (v := .pointer none) (wt0 rfl) rfl rfl (x_assign rfl rfl) ?_)
  refine g_nil ?_
  refine g_then ?_
  refine g_seq ?_
  refine g_region ?_
  refine l_of (s_call (wt0 rfl) (x_call' rfl rfl cl79) (begun_h _) ?_)
  rintro _ wq1 ⟨rfl, H2⟩
  replace H2 : S wq1 [Old w no] := H0.absorb (new := []) H2
  refine b_ret rfl rfl ?_
  refine l_of (s_val (v := .agg (hashV begL 0)) (wt0 rfl) rfl rfl (x_build (vs := [.agg (lanV begL)]) rfl rfl (cells := hashV begL 0) (by kernel_rfl)) ?_)
  refine l_of (s_box H2 (wt0 rfl) rfl rfl rfl rfl ?_)
  intro g3 wq4 H5
  replace H5 : S wq4 [Ob g3 (.cells (hashV begL 0) 121 (0, 0)), Old w no] := H5
  refine l_of (s_val (v := .pointer (some ⟨g3, 0, none⟩)) (wt0 rfl) rfl rfl (x_assign rfl rfl) ?_)
  refine g_nil ?_
  refine g_then ?_
  refine g_ret ?_
  refine fin_ret [.tmp 0] [.pointer (some ⟨g3, 0, none⟩)] rfl ⟨rfl, trivial⟩ ?_
  exact ⟨_, rfl, H5⟩
theorem getD_u {l : List Nat} (h : ∀ x ∈ l, x < 18446744073709551616) (i : Nat) : l.getD i 0 < 18446744073709551616 := by
  rw [List.getD_eq_getElem?_getD]
  cases hq : l[i]? with
  | none => show (0 : Nat) < _; omega
  | some x => exact h x (List.mem_of_getElem? hq)
set_option maxRecDepth 20000 in
set_option maxHeartbeats 4000000 in
set_option maxRecDepth 20000 in
set_option maxHeartbeats 4000000 in
theorem take_h (gh n : Nat) (l : List Nat) (hl : l.length = 4) (hlt : ∀ x ∈ l, x < 18446744073709551616) (b : Nat) (hb : b < 256) (w : World) (HB : S w [Ob gh (.cells (hashV l n) 121 (0, 0))]) : Calls Tryz.prog 81 #[.pointer (some ⟨gh, 0, none⟩), .int .u8 (b : Int)] w fun e w' => e = .returned (.tuple #[]) ∧ S w' ([Ob gh (.cells (hashV (l.map (mixT · b)) n) 121 (0, 0))] ++ [Old w (fps [Ob gh (.cells (hashV l n) 121 (0, 0))])]) := by
  have H0 : S w [Ob gh (.cells (hashV l n) 121 (0, 0)), Old w (fps [Ob gh (.cells (hashV l n) 121 (0, 0))])] := HB.beginI
  refine enter 29 Tryz.func81 rfl rfl rfl ?_
  refine g_weak [(0, .pointer (some ⟨gh, 0, none⟩)), (1, .int .u8 ((b : Int)))] ⟨rfl, rfl, trivial⟩ ?_
  refine g_seq ?_
  refine g_region ?_
  refine l_of (s_val (v := .pointer (some ⟨gh, 0, none⟩)) (wt0 rfl) rfl rfl (x_move rfl rfl) ?_)
  refine l_of (s_val (v := .pointer (some ⟨gh, 0, none⟩)) (wt0 rfl) rfl rfl (x_nilCheck rfl rfl) ?_)
  refine l_of (s_val (v := .pointer (some ⟨gh, 0, none⟩)) (wt0 rfl) rfl rfl (x_fieldAddr rfl rfl fo118_0 rfl) ?_)
  refine l_of (s_val (v := .agg (lanV l)) (wt0 rfl) rfl rfl (x_loadA H0 0 rfl rfl Tryz.underlying116 rfl sz116 rfl (Nat.ble_eq_true_of_le (by rw [hashV_size]; omega)) (hashV_ext hl)) ?_)
  refine l_of (s_val (v := .int .i64 0) (wt0 rfl) rfl rfl (x_move rfl rfl) ?_)
  refine g_nil ?_
  refine g_then ?_
  refine g_block ?_
  refine g_loop (ι := Nat) (fun k => [(0, .pointer (some ⟨gh, 0, none⟩)), (1, .int .u8 ((b : Int))), (9, .agg (lanV l)), (10, .int .i64 ((k : Int)))]) (fun k wx => (k ≤ 4) ∧ S wx [Ob gh (.cells (hashV (takeTo k b l) n) 121 (0, 0)), Old w (fps [Ob gh (.cells (hashV l n) 121 (0, 0))])]) (fun k => 4 - k) (0) ⟨rfl, rfl, rfl, rfl, trivial⟩ ⟨Nat.zero_le _, (by rw [takeTo_zero]; exact H0)⟩ ?_
  rintro k wq1 ⟨hk, H2⟩
  replace H2 : S wq1 [Ob gh (.cells (hashV (takeTo k b l) n) 121 (0, 0)), Old w (fps [Ob gh (.cells (hashV l n) 121 (0, 0))])] := H2
  refine g_weak [(0, .pointer (some ⟨gh, 0, none⟩)), (1, .int .u8 ((b : Int))), (9, .agg (lanV l)), (10, .int .i64 ((k : Int)))] ⟨rfl, rfl, rfl, rfl, trivial⟩ ?_
  have hgl : l.getD k 0 < 18446744073709551616 := getD_u hlt k
  have hx := u64_xor hgl (show b < 18446744073709551616 by omega)
  have hX : ((l.getD k 0 ^^^ b) * 1099511628211 % 18446744073709551616) < 18446744073709551616 := Nat.mod_lt _ (by omega)
  have hX2 : ((l.getD k 0 ^^^ b) * 1099511628211 % 18446744073709551616) / 536870912 ≤ ((l.getD k 0 ^^^ b) * 1099511628211 % 18446744073709551616) := Nat.div_le_self _ _
  refine g_seq ?_
  refine g_region ?_
  refine l_of (s_val (v := .bool (decide (((k : Int) : Int) < 4))) (wt0 rfl) rfl rfl (x_bin rfl rfl rfl b_lss) ?_)
  refine g_nil ?_
  refine g_then ?_
  refine g_seq ?_
  by_cases hb3 : ((k : Int) : Int) < 4
  · skip
    refine g_cond_t rfl (decide_eq_true hb3) ?_
    refine g_skip ?_
    refine g_then ?_
    refine g_seq ?_
    refine g_block ?_
    refine g_seq ?_
    refine g_region ?_
    refine l_of (s_val (v := .int .i64 ((k : Int))) (wt0 rfl) rfl rfl (x_move rfl rfl) ?_)
    refine l_of (s_val (v := .int .u64 (((l.getD k 0 : Nat) : Int))) (wt0 rfl) rfl rfl (x_indexW k rfl rfl rfl Tryz.underlying116 sz115 Tryz.underlying115 rfl (by omega) (lanV_at (by omega))) ?_)
    refine l_of (s_val (v := .int .i64 ((k : Int))) (wt0 rfl) rfl rfl (x_assign rfl rfl) ?_)
    refine l_of (s_val (v := .int .u64 (((l.getD k 0 : Nat) : Int))) (wt0 rfl) rfl rfl (x_assign rfl rfl) ?_)
    refine g_nil ?_
    refine g_then ?_
    refine g_seq ?_
    refine g_region ?_
    refine l_of (s_val (v := .int .u64 (((l.getD k 0 : Nat) : Int))) (wt0 rfl) rfl rfl (x_move rfl rfl) ?_)
    refine l_of (s_val (v := .int .u8 ((b : Int))) (wt0 rfl) rfl rfl (x_move rfl rfl) ?_)
    refine l_of (s_val (v := .int .u64 ((b : Int))) (wt0 rfl) rfl rfl (x_conv rfl rfl Tryz.underlying5 Tryz.underlying115 (wrapU (by omega))) ?_)
    refine l_of (s_val (v := .int .u64 (((l.getD k 0 ^^^ b : Nat) : Int))) (wt0 rfl) rfl rfl (x_bin rfl rfl rfl (b_xorU (a := l.getD k 0) (b := b) (by omega))) ?_)
    refine l_of (s_val (v := .int .u64 (((((l.getD k 0 ^^^ b) * 1099511628211 % 18446744073709551616) : Nat) : Int))) (wt0 rfl) rfl rfl (x_bin rfl rfl rfl (b_mulU (l.getD k 0 ^^^ b) 1099511628211)) ?_)
    refine l_of (s_val (v := .int .u64 (((((l.getD k 0 ^^^ b) * 1099511628211 % 18446744073709551616) : Nat) : Int))) (wt0 rfl) rfl rfl (x_assign rfl rfl) ?_)
    refine g_nil ?_
    refine g_then ?_
    refine g_region ?_
    refine l_of (s_val (v := .pointer (some ⟨gh, 0, none⟩)) (wt0 rfl) rfl rfl (x_move rfl rfl) ?_)
    refine l_of (s_val (v := .int .i64 ((k : Int))) (wt0 rfl) rfl rfl (x_move rfl rfl) ?_)
    refine l_of (s_val (v := .int .u64 (((((l.getD k 0 ^^^ b) * 1099511628211 % 18446744073709551616) : Nat) : Int))) (wt0 rfl) rfl rfl (x_move rfl rfl) ?_)
    refine l_of (s_val (v := .int .u64 (((((l.getD k 0 ^^^ b) * 1099511628211 % 18446744073709551616) : Nat) : Int))) (wt0 rfl) rfl rfl (x_move rfl rfl) ?_)
    refine l_of (s_val (v := .int .u64 (((((l.getD k 0 ^^^ b) * 1099511628211 % 18446744073709551616) / 536870912 : Nat) : Int))) (wt0 rfl) rfl rfl (x_bin rfl rfl rfl (b_shrN (a := ((l.getD k 0 ^^^ b) * 1099511628211 % 18446744073709551616)) (n := 29) (by decide))) ?_)
    refine l_of (s_val (v := .int .u64 (((mixT (l.getD k 0) b : Nat) : Int))) (wt0 rfl) rfl rfl (x_bin rfl rfl rfl (b_xorU (a := ((l.getD k 0 ^^^ b) * 1099511628211 % 18446744073709551616)) (b := ((l.getD k 0 ^^^ b) * 1099511628211 % 18446744073709551616) / 536870912) (by omega))) ?_)
    refine l_of (s_val (v := .pointer (some ⟨gh, 0, none⟩)) (wt0 rfl) rfl rfl (x_nilCheck rfl rfl) ?_)
    refine l_of (s_val (v := .pointer (some ⟨gh, 0, none⟩)) (wt0 rfl) rfl rfl (x_fieldAddr rfl rfl fo118_0 rfl) ?_)
    refine l_of (s_val (v := .pointer (some ⟨gh, k, none⟩)) (wt0 rfl) rfl rfl (x_indexAddrA k rfl rfl rfl Tryz.underlying116 sz115 (by omega) (off' := k) (by omega)) ?_)
    refine l_of (s_store1 H2 0 (wt0 rfl) rfl rfl rfl rfl rfl sz115 rfl rfl (by rw [hashV_size, takeTo_len]; omega) ?_)
    intro wq4 H5
    rw [hashV_set (l := (takeTo k b l)) (i := k) (x := (mixT (l.getD k 0) b)) (by rw [takeTo_len]; omega)] at H5
    replace H5 : S wq4 [Ob gh (.cells (hashV ((takeTo k b l).set k (mixT (l.getD k 0) b)) n) 121 (0, 0)), Old w (fps [Ob gh (.cells (hashV l n) 121 (0, 0))])] := H5
    refine g_nil ?_
    refine g_in ?_
    refine g_then ?_
    refine g_weak [(0, .pointer (some ⟨gh, 0, none⟩)), (1, .int .u8 ((b : Int))), (9, .agg (lanV l)), (10, .int .i64 ((k : Int)))] ⟨rfl, rfl, rfl, rfl, trivial⟩ ?_
    refine g_region ?_
    refine l_of (s_val (v := .int .i64 ((k : Int) + 1)) (wt0 rfl) rfl rfl (x_bin rfl rfl rfl (b_add (w64 (by omega)))) ?_)
    refine l_of (s_val (v := .int .i64 ((k : Int) + 1)) (wt0 rfl) rfl rfl (x_move rfl rfl) ?_)
    refine g_nil ?_
    refine g_then ?_
    refine g_round (i := (k)) (k + 1) ?_ ?_ ?_
    · exact ⟨rfl, rfl, rfl, rfl, trivial⟩
    · exact ⟨by omega, (by rw [← takeTo_next (by omega)]; exact H5)⟩
    · (try dsimp only); omega
  · skip
    refine g_cond_f rfl (decide_eq_false hb3) ?_
    refine g_exit ?_
    refine g_then_exit ?_
    refine g_then_exit ?_
    refine g_in_hit ?_
    refine fin_end [] [] rfl trivial ?_
    have hk4 : k = l.length := by omega
    subst hk4
    exact ⟨rfl, by rw [← takeTo_all]; exact H2.mask [true, true]⟩
theorem lanes_lt {s : ByteArray} {l : List Nat} (h : ∀ x ∈ l, x < 18446744073709551616) (i : Nat) : ∀ x ∈ l.map (laneP s · i), x < 18446744073709551616 := fun x hx => by
  obtain ⟨y, hy, rfl⟩ := List.mem_map.1 hx
  exact laneP_lt (h y hy) i
theorem lanes_next (s : ByteArray) (l : List Nat) (i : Nat) : (l.map (laneP s · i)).map (mixT · (bt' s i)) = l.map (laneP s · (i + 1)) := by rw [List.map_map]; rfl
theorem lanes_zero (s : ByteArray) (l : List Nat) : l.map (laneP s · 0) = l := by
  conv => rhs; rw [← List.map_id l]
  rfl
set_option maxRecDepth 20000 in
set_option maxHeartbeats 4000000 in
set_option maxRecDepth 20000 in
set_option maxHeartbeats 4000000 in
theorem each_h (gh n : Nat) (l : List Nat) (hl : l.length = 4) (hlt : ∀ x ∈ l, x < 18446744073709551616) (s : ByteArray) (hs : s.size ≤ 1099511627776) (w : World) (HB : S w [Ob gh (.cells (hashV l n) 121 (0, 0))]) : Calls Tryz.prog 80 #[.string s, .func (.func 81) #[.pointer (some ⟨gh, 0, none⟩)] #[]] w fun e w' => e = .returned (.tuple #[]) ∧ S w' ([Ob gh (.cells (hashV (l.map (laneP s · s.size)) n) 121 (0, 0))] ++ [Old w (fps [Ob gh (.cells (hashV l n) 121 (0, 0))])]) := by
  have H0 : S w [Ob gh (.cells (hashV l n) 121 (0, 0)), Old w (fps [Ob gh (.cells (hashV l n) 121 (0, 0))])] := HB.beginI
  refine enter 16 Tryz.func80 rfl rfl rfl ?_
  refine g_weak [(0, .string s), (1, .func (.func 81) #[.pointer (some ⟨gh, 0, none⟩)] #[])] ⟨rfl, rfl, trivial⟩ ?_
  refine g_seq ?_
  refine g_region ?_
  refine l_of (s_val (v := .string s) (wt0 rfl) rfl rfl (x_move rfl rfl) ?_)
  refine l_of (s_val (v := .int .i64 ((s.size : Int))) (wt0 rfl) rfl rfl (x_lens rfl rfl Tryz.underlying9) ?_)
  refine l_of (s_val (v := .int .i64 0) (wt0 rfl) rfl rfl (x_move rfl rfl) ?_)
  refine g_nil ?_
  refine g_then ?_
  refine g_block ?_
  refine g_loop (ι := Nat) (fun i => [(0, .string s), (1, .func (.func 81) #[.pointer (some ⟨gh, 0, none⟩)] #[]), (6, .int .i64 ((s.size : Int))), (7, .int .i64 ((i : Int)))]) (fun i wx => (i ≤ s.size) ∧ S wx [Ob gh (.cells (hashV (l.map (laneP s · i)) n) 121 (0, 0)), Old w (fps [Ob gh (.cells (hashV l n) 121 (0, 0))])]) (fun i => s.size - i) (0) ⟨rfl, rfl, rfl, rfl, trivial⟩ ⟨Nat.zero_le _, (by rw [lanes_zero]; exact H0)⟩ ?_
  rintro i wq1 ⟨hi, H2⟩
  replace H2 : S wq1 [Ob gh (.cells (hashV (l.map (laneP s · i)) n) 121 (0, 0)), Old w (fps [Ob gh (.cells (hashV l n) 121 (0, 0))])] := H2
  refine g_weak [(0, .string s), (1, .func (.func 81) #[.pointer (some ⟨gh, 0, none⟩)] #[]), (6, .int .i64 ((s.size : Int))), (7, .int .i64 ((i : Int)))] ⟨rfl, rfl, rfl, rfl, trivial⟩ ?_
  refine g_seq ?_
  refine g_region ?_
  refine l_of (s_val (v := .bool (decide (((i : Int) : Int) < (s.size : Int)))) (wt0 rfl) rfl rfl (x_bin rfl rfl rfl b_lss) ?_)
  refine g_nil ?_
  refine g_then ?_
  refine g_seq ?_
  by_cases hb3 : ((i : Int) : Int) < (s.size : Int)
  · skip
    refine g_cond_t rfl (decide_eq_true hb3) ?_
    refine g_skip ?_
    refine g_then ?_
    refine g_seq ?_
    refine g_block ?_
    refine g_seq ?_
    refine g_region ?_
    refine l_of (s_val (v := .int .i64 ((i : Int))) (wt0 rfl) rfl rfl (x_move rfl rfl) ?_)
    refine l_of (s_val (v := .int .i64 ((i : Int))) (wt0 rfl) rfl rfl (x_assign rfl rfl) ?_)
    refine g_nil ?_
    refine g_then ?_
    refine g_region ?_
    refine l_of (s_val (v := .func (.func 81) #[.pointer (some ⟨gh, 0, none⟩)] #[]) (wt0 rfl) rfl rfl (x_move rfl rfl) ?_)
    refine l_of (s_val (v := .string s) (wt0 rfl) rfl rfl (x_move rfl rfl) ?_)
    refine l_of (s_val (v := .int .i64 ((i : Int))) (wt0 rfl) rfl rfl (x_move rfl rfl) ?_)
    have hbt4 := bt'_lt s i
    refine l_of (s_val (v := .int .u8 ((bt' s i : Int))) (wt0 rfl) rfl rfl (x_index i rfl rfl rfl Tryz.underlying9 (by omega)) ?_)
    refine l_of (s_call (wt0 rfl) (x_call rfl rfl rfl cl81) (take_h gh n (l.map (laneP s · i)) (by simp [hl]) (lanes_lt hlt i) (bt' s i) (bt'_lt s i) _ (H2.takes [0] (by decide))) ?_)
    rintro _ wq5 ⟨rfl, H6⟩
    rw [lanes_next] at H6
    replace H6 : S wq5 [Ob gh (.cells (hashV (l.map (laneP s · (i + 1))) n) 121 (0, 0)), Old w (fps [Ob gh (.cells (hashV l n) 121 (0, 0))])] := H2.absorbI (new := [Ob gh (.cells (hashV (l.map (laneP s · (i + 1))) n) 121 (0, 0))]) [0] H6
    refine b_ret rfl rfl ?_
    refine g_nil ?_
    refine g_in ?_
    refine g_then ?_
    refine g_region ?_
    refine l_of (s_val (v := .int .i64 ((i : Int) + 1)) (wt0 rfl) rfl rfl (x_bin rfl rfl rfl (b_add (w64 (by omega)))) ?_)
    refine l_of (s_val (v := .int .i64 ((i : Int) + 1)) (wt0 rfl) rfl rfl (x_move rfl rfl) ?_)
    refine g_nil ?_
    refine g_then ?_
    refine g_round (i := (i)) (i + 1) ?_ ?_ ?_
    · exact ⟨rfl, rfl, rfl, rfl, trivial⟩
    · exact ⟨by omega, H6⟩
    · (try dsimp only); omega
  · skip
    refine g_cond_f rfl (decide_eq_false hb3) ?_
    refine g_exit ?_
    refine g_then_exit ?_
    refine g_then_exit ?_
    refine g_in_hit ?_
    refine fin_end [] [] rfl trivial ?_
    have his : i = s.size := by omega
    exact ⟨rfl, by rw [← his]; exact H2.mask [true, true]⟩
set_option maxRecDepth 20000 in
set_option maxHeartbeats 4000000 in
set_option maxRecDepth 20000 in
set_option maxHeartbeats 4000000 in
theorem addh_h (gh n : Nat) (l : List Nat) (hl : l.length = 4) (hlt : ∀ x ∈ l, x < 18446744073709551616) (s : ByteArray) (hs : s.size ≤ 1099511627776) (hn : n ≤ 1099511627776) (w : World) (HB : S w [Ob gh (.cells (hashV l n) 121 (0, 0))]) : Calls Tryz.prog 64 #[.pointer (some ⟨gh, 0, none⟩), .string s] w fun e w' => e = .returned (.tuple #[]) ∧ S w' ([Ob gh (.cells (hashV (l.map (laneP s · s.size)) (n + s.size)) 121 (0, 0))] ++ [Old w (fps [Ob gh (.cells (hashV l n) 121 (0, 0))])]) := by
  have H0 : S w [Ob gh (.cells (hashV l n) 121 (0, 0)), Old w (fps [Ob gh (.cells (hashV l n) 121 (0, 0))])] := HB.beginI
  refine enter 21 Tryz.func64 rfl rfl rfl ?_
  refine g_weak [(0, .pointer (some ⟨gh, 0, none⟩)), (1, .string s)] ⟨rfl, rfl, trivial⟩ ?_
  refine g_seq ?_
  refine g_seq ?_
  refine g_region ?_
  refine l_of (s_val (v := .pointer (some ⟨gh, 0, none⟩)) (wt0 rfl) rfl rfl (x_move rfl rfl) ?_)
  refine l_of (s_val (v := .bool false) (wt0 rfl) rfl rfl (x_bin rfl rfl rfl (b_eqN (r := false) Tryz.underlying100 rfl)) ?_)
  refine g_nil ?_
  refine g_then ?_
  refine g_cond_f rfl rfl ?_
  refine g_skip ?_
  refine g_then ?_
  refine g_seq ?_
  refine g_region ?_
  refine l_of (s_val (v := .string s) (wt0 rfl) rfl rfl (x_move rfl rfl) ?_)
  refine l_of (s_val (v := .pointer (some ⟨gh, 0, none⟩)) (wt0 rfl) rfl rfl (x_move rfl rfl) ?_)
  refine l_of (s_val (v := .pointer (some ⟨gh, 0, none⟩)) (wt0 rfl) rfl rfl (x_nilCheck rfl rfl) ?_)
  refine l_of (s_val (v := .pointer (some ⟨gh, 0, none⟩)) (wt0 rfl) rfl rfl (x_fieldAddr rfl rfl fo121_0 rfl) ?_)
  refine l_of (s_val (v := .func (.func 81) #[.pointer (some ⟨gh, 0, none⟩)] #[]) (wt0 rfl) rfl rfl (x_makeFunc rfl rfl rfl) ?_)
  refine l_of (s_call (wt0 rfl) (x_call' rfl rfl cl80) (each_h gh n l hl hlt s hs _ (H0.takes [0] (by decide))) ?_)
  rintro _ wq1 ⟨rfl, H2⟩
  replace H2 : S wq1 [Ob gh (.cells (hashV (l.map (laneP s · s.size)) n) 121 (0, 0)), Old w (fps [Ob gh (.cells (hashV l n) 121 (0, 0))])] := H0.absorbI (new := [Ob gh (.cells (hashV (l.map (laneP s · s.size)) n) 121 (0, 0))]) [0] H2
  refine b_ret rfl rfl ?_
  refine g_nil ?_
  refine g_then ?_
  refine g_region ?_
  refine l_of (s_val (v := .pointer (some ⟨gh, 0, none⟩)) (wt0 rfl) rfl rfl (x_move rfl rfl) ?_)
  refine l_of (s_val (v := .pointer (some ⟨gh, 0, none⟩)) (wt0 rfl) rfl rfl (x_nilCheck rfl rfl) ?_)
  refine l_of (s_val (v := .pointer (some ⟨gh, 4, none⟩)) (wt0 rfl) rfl rfl (x_fieldAddr rfl rfl fo121_1 rfl) ?_)
  refine l_of (s_val (v := .int .i64 ((n : Int))) (wt0 rfl) rfl rfl (x_load1 H2 0 rfl rfl Tryz.underlying3 rfl rfl (hashV_at (by first | omega | (simp only [List.length_map, takeTo_len]; omega)))) ?_)
  refine l_of (s_val (v := .string s) (wt0 rfl) rfl rfl (x_move rfl rfl) ?_)
  refine l_of (s_val (v := .int .i64 ((s.size : Int))) (wt0 rfl) rfl rfl (x_lens rfl rfl Tryz.underlying9) ?_)
  refine l_of (s_val (v := .int .i64 (((n + s.size : Nat) : Int))) (wt0 rfl) rfl rfl (x_bin rfl rfl rfl (b_addN (a := n) (b := s.size) (by omega))) ?_)
  refine l_of (s_val (v := .pointer (some ⟨gh, 0, none⟩)) (wt0 rfl) rfl rfl (x_nilCheck rfl rfl) ?_)
  refine l_of (s_val (v := .pointer (some ⟨gh, 4, none⟩)) (wt0 rfl) rfl rfl (x_fieldAddr rfl rfl fo121_1 rfl) ?_)
  refine l_of (s_store1 H2 0 (wt0 rfl) rfl rfl rfl rfl rfl sz3 rfl rfl (by rw [hashV_size]; first | omega | (simp only [List.length_map, takeTo_len]; omega)) ?_)
  intro wq3 H4
  rw [hashV_setN (l := (l.map (laneP s · s.size))) (n := n) (m := (n + s.size)) (by first | omega | (simp only [List.length_map, takeTo_len]; omega))] at H4
  replace H4 : S wq3 [Ob gh (.cells (hashV (l.map (laneP s · s.size)) (n + s.size)) 121 (0, 0)), Old w (fps [Ob gh (.cells (hashV l n) 121 (0, 0))])] := H4
  refine g_nil ?_
  refine fin_end [] [] rfl trivial ?_
  exact ⟨rfl, H4.mask [true, true]⟩
end Go.Proofs.YtlajgickimgigaaGreat
