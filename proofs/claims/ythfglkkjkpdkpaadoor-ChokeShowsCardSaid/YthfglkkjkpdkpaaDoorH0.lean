import Derived.Test.YthfglkkjkpdkpaaDoorProg
import Derived.Test.YthfglkkjkpdkpaaDoorFj
set_option linter.unusedSimpArgs false
set_option linter.unusedVariables false
namespace Go.Proofs.YthfglkkjkpdkpaaDoor
open Go.RowKit

/-! ## The hash, in plain words -/
def mixT (h b : Nat) : Nat := (h ^^^ b) * 1099511628211 % 18446744073709551616 ^^^ ((h ^^^ b) * 1099511628211 % 18446744073709551616) / 536870912
def endT (h n : Nat) : Nat := ((h ^^^ n) * 1099511628211 % 18446744073709551616 ^^^ ((h ^^^ n) * 1099511628211 % 18446744073709551616) / 4294967296) * 1099511628211 % 18446744073709551616
def startT (k : Nat) : Nat := (14695981039346656037 + k * 11400714819323198485 % 18446744073709551616) % 18446744073709551616
/-- A lane, when i bytes are taken. -/
def laneP (s : ByteArray) (h : Nat) : Nat → Nat
  | 0 => h
  | i + 1 => mixT (laneP s h i) (bt' s i)
theorem u64_xor {a b : Nat} (ha : a < 18446744073709551616) (hb : b < 18446744073709551616) : a ^^^ b < 18446744073709551616 := Nat.xor_lt_two_pow (n := 64) ha hb
theorem mixT_lt (h b : Nat) : mixT h b < 18446744073709551616 := by
  have h1 : (h ^^^ b) * 1099511628211 % 18446744073709551616 < 18446744073709551616 := Nat.mod_lt _ (by omega)
  have h2 : (h ^^^ b) * 1099511628211 % 18446744073709551616 / 536870912 ≤ (h ^^^ b) * 1099511628211 % 18446744073709551616 := Nat.div_le_self _ _
  exact u64_xor h1 (by omega)
theorem endT_lt (h n : Nat) : endT h n < 18446744073709551616 := Nat.mod_lt _ (by omega)
theorem startT_lt (k : Nat) : startT k < 18446744073709551616 := Nat.mod_lt _ (by omega)
theorem laneP_lt {s : ByteArray} {h : Nat} (hh : h < 18446744073709551616) : ∀ i, laneP s h i < 18446744073709551616
  | 0 => hh
  | i + 1 => mixT_lt _ _
def nbL (b : List Nat) : List Value := b.map (fun (x : Nat) => Value.int .u8 (x : Int))
def nbV (b : List Nat) : Array Value := (nbL b).toArray
theorem nbL_app (a b : List Nat) : nbL (a ++ b) = nbL a ++ nbL b := by unfold nbL; simp
theorem nbL_one (b : List Nat) : (nbL b).all (·.oneCell') = true := by
  unfold nbL; rw [List.all_eq_true]; intro v hv
  obtain ⟨x, _, rfl⟩ := List.mem_map.1 hv; rfl
theorem nbV_set (b : List Nat) (i x : Nat) : (nbV b).setIfInBounds i (.int .u8 (x : Int)) = nbV (b.set i x) := by
  unfold nbV nbL
  apply Array.ext'
  simp [List.map_set]
theorem nbV_size (b : List Nat) : (nbV b).size = b.length := by unfold nbV nbL; simp
theorem nbV_zero (n : Nat) : Array.replicate n (Value.int .u8 0) = nbV (List.replicate n 0) := by
  unfold nbV nbL
  apply Array.ext'
  simp
def nbS (b : List Nat) : ByteArray := ⟨(b.map UInt8.ofNat).toArray⟩
theorem nbS_size (b : List Nat) : (nbS b).size = b.length := by show ((b.map UInt8.ofNat).toArray).size = _; simp
theorem nbS_app (a b : List Nat) : nbS a ++ nbS b = nbS (a ++ b) := by
  apply ByteArray.ext
  unfold nbS
  simp
theorem nbL_bytes {b : List Nat} (h : ∀ x ∈ b, x < 256) : nbL b = bytesV (b.map UInt8.ofNat) := by
  unfold nbL bytesV
  rw [List.map_map]
  refine List.map_congr_left fun x hx => ?_
  have := h x hx
  simp only [Function.comp]
  congr 1
  rw [UInt8.toNat_ofNat']
  omega
/-- A number in eight bytes: the first i. -/
def eightTo (n i : Nat) : List Nat := (List.range i).map (fun j => n / 2 ^ (56 - 8 * j) % 256)
def eightT (n : Nat) : List Nat := eightTo n 8
theorem eightTo_len (n i : Nat) : (eightTo n i).length = i := by unfold eightTo; simp
theorem eightTo_next (n i : Nat) : eightTo n (i + 1) = eightTo n i ++ [n / 2 ^ (56 - 8 * i) % 256] := by unfold eightTo; rw [List.range_succ, List.map_append]; rfl
theorem eightTo_lt (n i : Nat) : ∀ x ∈ eightTo n i, x < 256 := fun x hx => by
  unfold eightTo at hx
  obtain ⟨j, _, rfl⟩ := List.mem_map.1 hx
  exact Nat.mod_lt _ (by omega)
/-- The digest: what its first k lanes give. -/
def sumTo (l : List Nat) (n k : Nat) : List Nat := (l.take k).flatMap (fun h => eightT (endT h n))
theorem sumTo_len (l : List Nat) (n : Nat) : ∀ k, k ≤ l.length → (sumTo l n k).length = 8 * k := fun k hk => by
  unfold sumTo
  have : ∀ q : List Nat, (q.flatMap (fun h => eightT (endT h n))).length = 8 * q.length := fun q => by
    induction q with
    | nil => rfl
    | cons a q ih => rw [List.flatMap_cons, List.length_append, ih, List.length_cons]; unfold eightT; rw [eightTo_len]; omega
  rw [this, List.length_take]; omega
theorem sumTo_next {l : List Nat} {n k : Nat} (hk : k < l.length) : sumTo l n (k + 1) = sumTo l n k ++ eightT (endT (l.getD k 0) n) := by
  unfold sumTo
  rw [List.take_succ_eq_append_getElem hk, List.flatMap_append, List.getD_eq_getElem?_getD, List.getElem?_eq_getElem hk]
  simp
theorem sumTo_lt (l : List Nat) (n k : Nat) : ∀ x ∈ sumTo l n k, x < 256 := fun x hx => by
  unfold sumTo at hx
  obtain ⟨h, _, hx⟩ := List.mem_flatMap.1 hx
  exact eightTo_lt _ _ x hx
def lanesT (s : ByteArray) : List Nat := [laneP s (startT 0) s.size, laneP s (startT 1) s.size, laneP s (startT 2) s.size, laneP s (startT 3) s.size]
def sumS (s : ByteArray) : ByteArray := nbS (sumTo (lanesT s) s.size 4)
theorem sumS_size (s : ByteArray) : (sumS s).size = 32 := by unfold sumS; rw [nbS_size, sumTo_len _ _ 4 (by simp [lanesT])]
def pairS (a b : ByteArray) : ByteArray := sumS (a ++ b)
def zeroB : ByteArray := nbS (List.replicate 32 0)
/-- The lanes of a hasher, as cells. -/
def uV (l : List Nat) : List Value := l.map (fun (x : Nat) => Value.int .u64 (x : Int))
def hashV (l : List Nat) (n : Nat) : Array Value := (uV l ++ [Value.int .i64 (n : Int)]).toArray
def lanV (l : List Nat) : Array Value := (uV l).toArray
/-- The first k lanes have taken a byte. -/
def takeTo (k b : Nat) (l : List Nat) : List Nat := (l.take k).map (mixT · b) ++ l.drop k
theorem uV_len (l : List Nat) : (uV l).length = l.length := by unfold uV; simp
theorem uV_at {l : List Nat} {i : Nat} (h : i < l.length) : (uV l)[i]? = some (.int .u64 ((l.getD i 0 : Nat) : Int)) := by
  unfold uV; simp [List.getD, h]
theorem lanV_at {l : List Nat} {i : Nat} (h : i < l.length) : (lanV l)[i]? = some (.int .u64 ((l.getD i 0 : Nat) : Int)) := by
  unfold lanV; rw [List.getElem?_toArray]; exact uV_at h
theorem hashV_ext {l : List Nat} {n : Nat} (hl : l.length = 4) : (hashV l n).extract 0 (0 + 4) = lanV l := by
  unfold hashV lanV
  apply Array.ext'
  have := uV_len l
  simp [List.take_append_of_le_length, this, hl]
theorem hashV_at {l : List Nat} {n : Nat} (hl : l.length = 4) : (hashV l n)[4]? = some (.int .i64 (n : Int)) := by
  unfold hashV
  rw [List.getElem?_toArray, List.getElem?_append_right (by rw [uV_len]; omega), uV_len, hl]; rfl
theorem hashV_size (l : List Nat) (n : Nat) : (hashV l n).size = l.length + 1 := by unfold hashV; simp [uV_len]
theorem hashV_set {l : List Nat} {n i x : Nat} (h : i < l.length) : (hashV l n).setIfInBounds i (.int .u64 (x : Int)) = hashV (l.set i x) n := by
  unfold hashV uV
  apply Array.ext'
  simp only [List.setIfInBounds_toArray]
  rw [List.set_append_left _ _ (by simpa using h), List.map_set]
theorem hashV_setN {l : List Nat} {n m : Nat} (hl : l.length = 4) : (hashV l n).setIfInBounds 4 (.int .i64 (m : Int)) = hashV l m := by
  unfold hashV
  apply Array.ext'
  simp only [List.setIfInBounds_toArray]
  rw [List.set_append_right _ _ (by rw [uV_len]; omega), uV_len, hl]; rfl
theorem lanV_size (l : List Nat) : (lanV l).size = l.length := by unfold lanV; simp [uV_len]
theorem lanV_set {l : List Nat} {i x : Nat} (h : i < l.length) : (lanV l).setIfInBounds i (.int .u64 (x : Int)) = lanV (l.set i x) := by
  unfold lanV uV
  apply Array.ext'
  simp [List.map_set]
theorem takeTo_len (k b : Nat) (l : List Nat) : (takeTo k b l).length = l.length := by unfold takeTo; simp; omega
theorem takeTo_zero (b : Nat) (l : List Nat) : takeTo 0 b l = l := by unfold takeTo; simp
theorem takeTo_all (b : Nat) (l : List Nat) : takeTo l.length b l = l.map (mixT · b) := by unfold takeTo; simp
theorem takeTo_next {k b : Nat} {l : List Nat} (h : k < l.length) : (takeTo k b l).set k (mixT (l.getD k 0) b) = takeTo (k + 1) b l := by
  unfold takeTo
  have e1 : ((l.take k).map (mixT · b)).length = k := by simp; omega
  have hx : l.drop k = l.getD k 0 :: l.drop (k + 1) := by
    rw [List.getD_eq_getElem?_getD, List.getElem?_eq_getElem h, Option.getD_some]
    exact List.drop_eq_getElem_cons h
  rw [List.set_append_right _ _ (by omega), e1, Nat.sub_self, hx, List.set_cons_zero, List.take_succ_eq_append_getElem h]
  simp only [List.map_append, List.map_cons, List.map_nil, List.append_assoc, List.cons_append, List.nil_append]
  rw [List.getD_eq_getElem?_getD, List.getElem?_eq_getElem h, Option.getD_some]
end Go.Proofs.YthfglkkjkpdkpaaDoor
