import Derived.Test.YtcjmdkklbbollaaAF
set_option linter.unusedSimpArgs false
set_option linter.unusedVariables false
namespace Go.Proofs.Ytcjmdkklbbollaa
open Go.RowKit

/-- size bytes from a on, the highest first. -/
def beTo (s : ByteArray) (a : Nat) : Nat → Nat
  | 0 => 0
  | k + 1 => beTo s a k * 256 + bt' s (a + k)
theorem beTo_lt (s : ByteArray) (a : Nat) : ∀ k, beTo s a k < 256 ^ k
  | 0 => by simp [beTo]
  | k + 1 => by
    have := beTo_lt s a k
    have := bt'_lt s (a + k)
    simp only [beTo, Nat.pow_succ]
    omega
theorem beTo_lt4 (s : ByteArray) (a k : Nat) (h : k ≤ 4) : beTo s a k < 4294967296 := by
  have h1 := beTo_lt s a k
  have h2 : 256 ^ k ≤ 256 ^ 4 := Nat.pow_le_pow_right (by omega) h
  have h3 : (256 : Nat) ^ 4 = 4294967296 := by decide
  omega
def Zm : M := ⟨0, 0, 0, 0, 0, 0, ⟨#[]⟩, ⟨#[]⟩⟩
def fsz (f : F) (n a : Nat) : Nat := if f.size = 0 then 4 + n - a else f.size.toNat
/-- The fields of a message, read one after the other. -/
def decG (s : ByteArray) (n : Nat) : List F → Nat → M → (Int × Int) ⊕ (M × Nat)
  | [], a, m => .inr (m, a)
  | f :: rest, a, m =>
    if (s.size : Int) < a + fsz f n a then .inl (s.size, 8)
    else if f.off ≤ 5 then
      if okNum f.lo f.hi (beTo s a (fsz f n a)) = true then decG s n rest (a + fsz f n a) (m.setNum f.off (beTo s a (fsz f n a))) else .inl (a, 12)
    else decG s n rest (a + fsz f n a) (m.setText f.off (s.extract a (a + fsz f n a)))
def mostB : Nat → Nat | 2 => 16 | _ => 0
def good3 (s : ByteArray) : Bool := (List.range (min s.size 3)).all fun j => decide (bt' s j ≤ mostB j)
theorem good3_f {s : ByteArray} {k : Nat} (h : k < 3 ∧ k < s.size) (hb : mostB k < bt' s k) : good3 s = false := by
  rw [good3, List.all_eq_false]
  exact ⟨k, by simp; omega, by simp; omega⟩
theorem good3_t {s : ByteArray} {k : Nat} (h : min s.size 3 ≤ k) (hg : ∀ j, j < k → bt' s j ≤ mostB j) : good3 s = true := by
  rw [good3, List.all_eq_true]
  intro j hj
  simp only [List.mem_range] at hj
  simpa using hg j (by omega)
def lenW (s : ByteArray) : Nat := bt' s 2 * 256 + bt' s 3
theorem lenW_lt (s : ByteArray) : lenW s < 65536 := by
  have := bt'_lt s 2
  have := bt'_lt s 3
  unfold lenW; omega
def outG : (Int × Int) ⊕ (M × Nat) → M × Int × Int × Int
  | .inl (b, e) => (Zm, 0, b, e)
  | .inr (m, a) => (m, a, -1, 0)
/-- What the program's Decode answers. -/
def decW (s : ByteArray) : M × Int × Int × Int :=
  if (65536 : Int) < s.size then (Zm, 0, 0, 3)
  else if good3 s = true then
    if (s.size : Int) < 4 then (Zm, 0, s.size, 8)
    else if (4200 : Int) < lenW s then (Zm, 0, 0, 12)
    else if (lenW s : Int) = 0 then (M.only 1, 4, -1, 0)
    else if (s.size : Int) < 5 then (Zm, 0, s.size, 8)
    else if (kindP (bt' s 4) : Int) = 0 then (Zm, 0, 4, 12)
    else if mayP (fields (kindP (bt' s 4))) ((lenW s : Int) - 1) = true then outG (decG s (lenW s) (fields (kindP (bt' s 4))) 5 (M.only (kindP (bt' s 4))))
    else (Zm, 0, 0, 12)
  else (Zm, 0, 0, 12)
/-! what the walk asks -/
theorem shl8 (x : Nat) (h : x < 1099511627776) : IntKind.i64.wrap ((x : Int) * 2 ^ (min 8 IntKind.i64.bits)) = ((x * 256 : Nat) : Int) := by
  have e : (2 : Int) ^ (min 8 IntKind.i64.bits) = 256 := by decide
  rw [e, w64 (by omega)]; omega
theorem b_orByte {P : Program} {t : TypeId} {xo yo : Operand} {w : World} {a b : Nat} (ha : a < 1099511627776) (hb : b < 256) : Bin P .or t xo yo (.int .i64 ((a * 256 : Nat) : Int)) (.int .i64 (b : Int)) w (.int .i64 ((a * 256 + b : Nat) : Int)) := by
  rw [← or_byte a b hb]
  exact b_or64 (by omega) (by omega)
theorem most_cell (k : Nat) (h : k < 3) : (#[.int .u8 0, .int .u8 0, .int .u8 16, .int .u8 255] : Array Value)[0 + k * 1]? = some (.int .u8 (mostB k)) := by
  rcases (by omega : k = 0 ∨ k = 1 ∨ k = 2) with rfl | rfl | rfl <;> rfl
theorem ro_rd {w : World} {L : List Item} {i : Nat} {p : Option Addr} {n c : Nat} {xs : List Value} (H : S w L) (hk : L[i]? = some (RO p n c 6 xs)) : Rd w 0 w.heap.size 6 (.slice p n c) xs := by
  obtain ⟨h1, h2, h3⟩ := H.ro hk
  refine ⟨p, n, c, rfl, h1, h2, fun hn => ?_⟩
  obtain ⟨g, o, e, hc⟩ := h3 hn
  exact ⟨g, o, e, ⟨Nat.zero_le _, H.lt hk (show 0 < n ∧ ∃ o, p = some ⟨g, o, none⟩ from ⟨hn, o, e⟩)⟩, hc⟩
theorem rd_ro {w w1 : World} {L : List Item} (H : S w L) (hb : Sub w w1) {p : Option Addr} {n c : Nat} {xs : List Value} (h : Rd w1 (w.heap.size + 1) w1.heap.size 6 (.slice p n c) xs) : S w1 (RO p n c 6 xs :: L) := by
  obtain ⟨A, n', c', e, h1, h2, h3⟩ := h
  cases e
  refine H.absorbNew hb _ ⟨h1, h2, fun hn => ?_⟩ fun g hg => ?_
  · obtain ⟨g, o, e, _, hc⟩ := h3 hn
    exact ⟨g, o, e, hc⟩
  · obtain ⟨hn, o, e⟩ := hg
    obtain ⟨g', o', e', hr, _⟩ := h3 hn
    rw [e] at e'
    cases e'
    omega
theorem acc_call {k off : Nat} (h : AccOf k off) : callable Try.prog k = true := by
  rcases h with ⟨rfl, _⟩ | ⟨rfl, _⟩ | ⟨rfl, _⟩ | ⟨rfl, _⟩ | ⟨rfl, _⟩ | ⟨rfl, _⟩ | ⟨rfl, _⟩ <;> kernel_rfl
theorem fields_last (k : Nat) (j : Nat) (f : F) (h : (fields k)[j]? = some f) (hs : f.size = 0) : j + 1 = (fields k).length := by
  have : ∀ l : List F, l.dropLast.all (fun f => !decide (f.size = 0)) = true → ∀ j f, l[j]? = some f → f.size = 0 → j + 1 = l.length := by
    intro l hl j f hj hf
    have hj1 := (List.getElem?_eq_some_iff.1 hj).1
    refine Classical.byContradiction fun hne => ?_
    have hmem : f ∈ l.dropLast := by
      have : l.dropLast[j]? = some f := by
        rw [List.getElem?_dropLast, if_pos (by omega)]; exact hj
      exact List.mem_of_getElem? this
    have := List.all_eq_true.1 hl f hmem
    simp [hf] at this
  refine this _ ?_ j f h hs
  by_cases hk : k < 21
  · exact (by decide : ∀ k : Fin 21, (fields k).dropLast.all (fun f => !decide (f.size = 0)) = true) ⟨k, hk⟩
  · have e : fields k = [] := by
      unfold fields
      split <;> first | omega | rfl
    rw [e]; rfl
theorem mayP_nonneg : ∀ (fs : List F), (∀ f ∈ fs, f.Wf) → ∀ x, mayP fs x = true → 0 ≤ x
  | [], _, x, h => by simp [mayP] at h; omega
  | f :: rest, hw, x, h => by
    have hf := hw f (List.mem_cons_self ..)
    simp only [mayP] at h
    split at h
    · rename_i hr
      have := (hf.rest hr.2).2
      simp [okRest] at h
      omega
    · have := mayP_nonneg rest (fun g hg => hw g (List.mem_cons_of_mem _ hg)) _ h
      have := hf.s0
      omega
/-- One field: its size, and what is left for those behind it. -/
theorem field_step {k j n a : Nat} {f : F} (h : (fields k)[j]? = some f) (h0 : 5 ≤ a) (hm : mayP ((fields k).drop j) ((n : Int) + 4 - a) = true) :
    (if f.size = 0 then (4 : Int) + n - a else f.size) = (fsz f n a : Int) ∧ mayP ((fields k).drop (j + 1)) ((n : Int) + 4 - (a + fsz f n a : Nat)) = true ∧ a + fsz f n a ≤ 4 + n := by
  have hf := fields_wf k f (List.mem_of_getElem? h)
  have hw : ∀ f ∈ (fields k).drop (j + 1), f.Wf := fun g hg => fields_wf k g (List.mem_of_mem_drop hg)
  have hnn := mayP_nonneg ((fields k).drop j) (fun g hg => fields_wf k g (List.mem_of_mem_drop hg)) _ hm
  unfold fsz
  by_cases hs : f.size = 0
  · have hl := fields_last k j f h hs
    rw [if_pos hs, if_pos hs, List.drop_eq_nil_of_le (by omega)]
    refine ⟨by omega, ?_, by omega⟩
    simp [mayP]; omega
  · have h1 := mayP_step h (fun hh => hs hh.2) ((n : Int) + 4 - a)
    rw [h1] at hm
    have h2 := mayP_nonneg _ hw _ hm
    have := hf.s0
    rw [if_neg hs, if_neg hs]
    refine ⟨by omega, ?_, by omega⟩
    rw [show (n : Int) + 4 - ((a + f.size.toNat : Nat) : Int) = (n : Int) + 4 - a - f.size from by omega]
    exact hm
theorem decG_more {s : ByteArray} {n k j a : Nat} {f : F} {m : M} (h : (fields k)[j]? = some f) : decG s n ((fields k).drop j) a m =
    if (s.size : Int) < a + fsz f n a then .inl (s.size, 8)
    else if f.off ≤ 5 then
      if okNum f.lo f.hi (beTo s a (fsz f n a)) = true then decG s n ((fields k).drop (j + 1)) (a + fsz f n a) (m.setNum f.off (beTo s a (fsz f n a))) else .inl (a, 12)
    else decG s n ((fields k).drop (j + 1)) (a + fsz f n a) (m.setText f.off (s.extract a (a + fsz f n a))) := by
  have hj := (List.getElem?_eq_some_iff.1 h).1
  have he := (List.getElem?_eq_some_iff.1 h).2
  rw [List.drop_eq_getElem_cons hj, he]; rfl
theorem decG_done {s : ByteArray} {n k j a : Nat} {m : M} (h : (fields k).length ≤ j) : decG s n ((fields k).drop j) a m = .inr (m, a) := by rw [List.drop_eq_nil_of_le h]; rfl
theorem num_setNum {m : M} {f : F} (h : f.Wf) (hf : f.off ≤ 5) (x : Int) : (m.setNum f.off x).num f.off = x := by
  rcases off_num h hf with e | e | e | e | e <;> rw [e] <;> rfl
theorem size_num {k : Nat} {f : F} (h : f ∈ fields k) (hf : f.off ≤ 5) : f.size = 1 ∨ f.size = 2 ∨ f.size = 4 := by
  have := fields_ok k f h
  simp only [F.ok, if_pos hf, Bool.and_eq_true, Bool.or_eq_true, beq_iff_eq] at this
  omega
theorem cells_size (m : M) : m.cells.size = 8 := rfl
end Go.Proofs.Ytcjmdkklbbollaa
