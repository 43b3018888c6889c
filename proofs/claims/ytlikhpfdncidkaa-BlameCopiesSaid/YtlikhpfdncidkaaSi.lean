import Derived.Test.YtlikhpfdncidkaaGk
import Derived.Test.YtlikhpfdncidkaaShelf
set_option linter.unusedSimpArgs false
set_option linter.unusedVariables false
namespace Go.Proofs.Ytlikhpfdncidkaa
open Go.RowKit Go.Sort

/-! ## slices.Sort and slices.Compact over a row of ints of its own -/
def zV (l : List Int) : List Value := l.map (Value.int .i64)
theorem zV_len (l : List Int) : (zV l).length = l.length := by unfold zV; simp
theorem zV_snoc (l : List Int) (x : Int) : zV (l ++ [x]) = zV l ++ [.int .i64 x] := by unfold zV; simp
theorem zV_at {l : List Int} {j : Nat} {x : Int} (h : l[j]? = some x) : (zV l)[j * 1]? = some (.int .i64 x) := by
  unfold zV; rw [Nat.mul_one, List.getElem?_map, h]; rfl
def sortI (l : List Int) : List Int := l.mergeSort fun x y => decide (x ≤ y)
theorem sortI_perm (l : List Int) : (sortI l).Perm l := List.mergeSort_perm ..
theorem sortI_len (l : List Int) : (sortI l).length = l.length := (sortI_perm l).length_eq
theorem heap_grow_old {w : World} {os : Array Obj} {k : Nat} (h : k < w.heap.size) : (grow w os).heap[k]? = w.heap[k]? := by
  unfold grow
  exact Array.getElem?_append_left h
theorem heap_map_other {w : World} {g k : Nat} {f : Array Value → Array Value} (h : k ≠ g) : (mapBlock w g f).heap[k]? = w.heap[k]? := by
  unfold mapBlock
  rw [Array.getElem?_modify, if_neg (fun e => h e.symm)]
theorem heap_map_same {w : World} {g : Nat} {f : Array Value → Array Value} {c : Array Value} {e : TypeId} {fr : Nat × Nat} (h : w.heap[g]? = some (.cells c e fr)) : (mapBlock w g f).heap[g]? = some (.cells (f c) e fr) := by
  unfold mapBlock
  rw [Array.getElem?_modify, if_pos rfl, h]; rfl
theorem put_at {α : Type} [Inhabited α] {enc : α → Value} {off : Nat} {d : Array α} {c : Array Value} {j : Nat} (hj : j < d.size) (hc : off + d.size ≤ c.size) : (putCells enc off d c)[off + j]? = some (enc d[j]!) := by
  unfold putCells
  rw [Array.getElem?_mapIdx, Array.getElem?_eq_getElem (by omega)]
  simp only [Option.map_some]
  rw [if_pos ⟨by omega, by omega⟩, show off + j - off = j from by omega]
theorem put_size {α : Type} [Inhabited α] {enc : α → Value} {off : Nat} {d : Array α} {c : Array Value} : (putCells enc off d c).size = c.size := by
  unfold putCells; simp
section
variable {w : World} {l : List Int} {p : Option Addr} {n c : Nat} {L : List Item}
theorem rwHolds {g o : Nat} {cur : Array Value} (hg : w.heap[g]? = some (.cells cur 3 (0, 0))) (hc : ∀ j u, (zV l)[j]? = some u → cur[o + j]? = some u) : Holds (Value.int .i64) w g o l.toArray := fun j hj => by
  have hj2 : j < l.length := by simpa using hj
  refine ⟨?_, ?_⟩
  · rw [cell_of_row w g _ cur 3 (0, 0) hg]
    refine (hc j _ (show (zV l)[j]? = some (.int .i64 l[j]) from ?_)).trans ?_
    · unfold zV; rw [List.getElem?_map, List.getElem?_eq_getElem hj2]; rfl
    · rw [getElem!_pos _ j hj]; rfl
  · unfold World.frozen?
    rw [hg]; simp
/-- What a row of ints becomes. -/
theorem rwPut {g o : Nat} {cur : Array Value} {m : List Int} {os : Array Obj} {q n' : Nat} (H : S w L) {k : Nat} (hk : L[k]? = some (Rw 3 1 (some ⟨g, o, none⟩) n c (zV l))) (hg : w.heap[g]? = some (.cells cur 3 (0, 0))) (hs : o + c ≤ cur.size) (hn : n ≤ c) (hcm : c ≤ maxLen) (hm : n' ≤ m.length) (hml : m.length ≤ c) (hn' : n' ≤ n) :
    S (grow (putRow (Value.int .i64) (Go.Sort.ahead w q) g o m.toArray) os) (L.set k (Rw 3 1 (some ⟨g, o, none⟩) n' c (zV (m.take n')))) := by
  have hlt : g < w.heap.size := (Array.getElem?_eq_some_iff.1 hg).1
  have hW : (putRow (Value.int .i64) (Go.Sort.ahead w q) g o m.toArray).heap.size = w.heap.size := by rw [size_putRow]; rfl
  have hblk : (grow (putRow (Value.int .i64) (Go.Sort.ahead w q) g o m.toArray) os).heap[g]? = some (.cells (putCells (Value.int .i64) o m.toArray cur) 3 (0, 0)) := by
    rw [heap_grow_old (by rw [hW]; exact hlt)]
    exact heap_map_same (w := Go.Sort.ahead w q) hg
  refine H.turn (it' := Rw 3 1 (some ⟨g, o, none⟩) n' c (zV (m.take n'))) hk ⟨rfl, rfl, rfl, ?_, fun k hk => ?_⟩ ⟨?_, by omega, hcm, .inr ⟨g, o, _, rfl, hblk, ?_, fun j u hu => ?_⟩⟩ (fun b hb => ⟨.inl hb, ?_⟩)
  · show w.heap.size ≤ (grow _ os).heap.size
    unfold grow
    simp only [Array.size_append]
    rw [hW]; omega
  · rw [heap_grow_old (by rw [hW]; exact hk.1)]
    exact heap_map_other (w := Go.Sort.ahead w q) (fun e => hk.2 ⟨o, by rw [e]⟩)
  · rw [zV_len, List.length_take]; omega
  · rw [put_size, Nat.mul_one]; exact hs
  · have hj : j < n' := by
      have := (List.getElem?_eq_some_iff.1 hu).1
      rw [zV_len, List.length_take] at this; omega
    rw [put_at (by simp; omega) (by simp; omega)]
    unfold zV at hu
    rw [List.getElem?_map, List.getElem?_take_of_lt hj, List.getElem?_eq_getElem (by omega)] at hu
    simp only [Option.map_some, Option.some.injEq] at hu
    rw [← hu, getElem!_pos _ j (by simp; omega)]
    simp
  · obtain ⟨o'', ho''⟩ := hb
    have : b = g := by cases ho''; rfl
    rw [this]
    show g < (grow _ os).heap.size
    unfold grow
    simp only [Array.size_append]
    rw [hW]; omega
end
theorem sortInts_s (l : List Int) (p : Option Addr) (n c : Nat) (hn : l.length = n) (hn2 : n ≤ 1000000) (w : World) (HS : S w [Rw 3 1 p n c (zV l)]) :
    Calls Try.prog 62 #[.slice p n c] w fun e w' => e = .returned (.tuple #[]) ∧ S w' ([Rw 3 1 p n c (zV (sortI l))] ++ [Old w (fps [Rw 3 1 p n c (zV l)])]) := by
  have H := HS.beginI
  obtain ⟨k1, k2, k3, k4⟩ := HS.rw (k := 0) rfl
  rcases Nat.eq_zero_or_pos n with hz | hp
  · subst hz
    have hl : l = [] := List.eq_nil_of_length_eq_zero hn
    subst hl
    refine (Try.slices_Sort_int_none p c w).mono ?_
    rintro e w' ⟨rfl, rfl⟩
    rw [show sortI [] = [] from by simp [sortI]]
    exact ⟨rfl, H⟩
  rcases k4 with ⟨_, h0, _⟩ | ⟨g, o, cur, rfl, hg, hs, hc⟩
  · omega
  rw [Nat.mul_one] at hs
  have hlt : g < w.heap.size := (Array.getElem?_eq_some_iff.1 hg).1
  have hr := Try.slices_Sort_int g o c l w (rwHolds hg hc) hlt (by omega)
  rw [hn] at hr
  refine hr.mono ?_
  rintro e w' ⟨rfl, m, os, rfl⟩
  refine ⟨rfl, ?_⟩
  have h9 := rwPut (m := sortI l) (os := os) (q := m) (n' := n) H (k := 0) rfl hg hs k2 k3 (by rw [sortI_len]; omega) (by rw [sortI_len]; omega) (Nat.le_refl _)
  rw [List.take_of_length_le (by rw [sortI_len]; omega)] at h9
  exact h9
theorem grow0 (w : World) : grow w #[] = w := grow_empty w
theorem compact_le (l : List Int) : (Lib.compact l).length ≤ l.length := by
  unfold Lib.compact Lib.compactUpTo
  rw [List.length_map]
  exact Nat.le_trans (List.length_filter_le ..) (by simp)
theorem compactInts_s (l : List Int) (p : Option Addr) (n c : Nat) (hn : l.length = n) (hn2 : n ≤ 1000000) (w : World) (HS : S w [Rw 3 1 p n c (zV l)]) :
    Calls Try.prog 63 #[.slice p n c] w fun e w' => e = .returned (.slice p (Lib.compact l).length c) ∧ S w' ([Rw 3 1 p (Lib.compact l).length c (zV (Lib.compact l))] ++ [Old w (fps [Rw 3 1 p n c (zV l)])]) := by
  have H := HS.beginI
  obtain ⟨k1, k2, k3, k4⟩ := HS.rw (k := 0) rfl
  rcases Nat.eq_zero_or_pos n with hz | hp
  · subst hz
    have hl : l = [] := List.eq_nil_of_length_eq_zero hn
    subst hl
    refine (Try.slices_Compact_int_empty p c w).mono ?_
    rintro e w' ⟨rfl, rfl⟩
    exact ⟨rfl, H⟩
  rcases k4 with ⟨_, h0, _⟩ | ⟨g, o, cur, rfl, hg, hs, hc⟩
  · omega
  rw [Nat.mul_one] at hs
  have hle := compact_le l
  have hr := Try.slices_Compact_int g o c l w (rwHolds hg hc) (by omega) (by omega)
  rw [hn] at hr
  refine hr.mono ?_
  rintro e w' ⟨rfl, q, rfl⟩
  refine ⟨rfl, ?_⟩
  have h9 := rwPut (m := Lib.compact l ++ List.replicate (n - (Lib.compact l).length) 0) (os := #[]) (q := q) (n' := (Lib.compact l).length) H (k := 0) rfl hg hs k2 k3 (by simp) (by rw [List.length_append, List.length_replicate]; omega) (by omega)
  rw [grow0, List.take_left'] at h9
  · exact h9
  · rfl
/-! ## who is in a list: ascending, each once -/
def ascI (l : List Int) : List Int := Lib.compact (sortI l)
theorem compact_asc : ∀ {l : List Int}, l.Pairwise (· ≤ ·) → (Lib.compact l).Pairwise (· < ·) ∧ ∀ x, x ∈ Lib.compact l ↔ x ∈ l := fun {l} h => by
  have hat : ∀ i j : Nat, i < j → j < l.length → l.toArray[i]! ≤ l.toArray[j]! := fun i j hij hj => by
    rw [getElem!_pos _ i (by simpa using by omega), getElem!_pos _ j (by simpa using hj)]
    exact (List.pairwise_iff_getElem.1 h) i j (by omega) hj hij
  have hlt : ∀ i j : Nat, i < j → j < l.length → Lib.keeps l.toArray j = true → l.toArray[i]! < l.toArray[j]! := fun i j hij hj hk => by
    unfold Lib.keeps at hk
    have hne : l.toArray[j]! ≠ l.toArray[j - 1]! := by
      rcases of_decide_eq_true hk with h0 | h0
      · omega
      · exact h0
    have h1 : l.toArray[j - 1]! ≤ l.toArray[j]! := hat (j - 1) j (by omega) hj
    have h2 : l.toArray[i]! ≤ l.toArray[j - 1]! := by
      rcases Nat.lt_or_ge i (j - 1) with h3 | h3
      · exact hat i (j - 1) h3 (by omega)
      · rw [show i = j - 1 from by omega]; exact Int.le_refl _
    omega
  have key : ∀ m, m ≤ l.length → ((((List.range m).filter (Lib.keeps l.toArray)).map (fun i => l.toArray[i]!)).Pairwise (· < ·)) ∧ ∀ i, i < m → l.toArray[i]! ∈ ((List.range m).filter (Lib.keeps l.toArray)).map (fun i => l.toArray[i]!) := by
    intro m
    induction m with
    | zero => intro _; exact ⟨.nil, fun i hi => absurd hi (Nat.not_lt_zero _)⟩
    | succ m ih =>
      intro hm
      obtain ⟨i1, i2⟩ := ih (by omega)
      rw [List.range_succ, List.filter_append, List.map_append]
      cases hk : Lib.keeps l.toArray m with
      | true =>
        have e1 : List.filter (Lib.keeps l.toArray) [m] = [m] := by simp [hk]
        rw [e1]
        refine ⟨List.pairwise_append.2 ⟨i1, List.pairwise_singleton .., fun a ha b hb => ?_⟩, fun i hi => ?_⟩
        · rw [List.map_singleton, List.mem_singleton] at hb
          subst hb
          obtain ⟨i, hi, rfl⟩ := List.mem_map.1 ha
          have := List.mem_range.1 (List.mem_filter.1 hi).1
          exact hlt i m this (by omega) hk
        · rcases Nat.lt_or_ge i m with h3 | h3
          · exact List.mem_append_left _ (i2 i h3)
          · rw [show i = m from by omega]; exact List.mem_append_right _ (by simp)
      | false =>
        have e1 : List.filter (Lib.keeps l.toArray) [m] = [] := by simp [hk]
        rw [e1, List.map_nil, List.append_nil]
        refine ⟨i1, fun i hi => ?_⟩
        rcases Nat.lt_or_ge i m with h3 | h3
        · exact i2 i h3
        · have hm0 : i = m := by omega
          subst hm0
          unfold Lib.keeps at hk
          have hk2 := of_decide_eq_false hk
          have h0 : ¬ i = 0 := fun q => hk2 (.inl q)
          have h4 : l.toArray[i]! = l.toArray[i - 1]! := Decidable.byContradiction fun q => hk2 (.inr q)
          rw [h4]; exact i2 (i - 1) (by omega)
  obtain ⟨k1, k2⟩ := key l.length (Nat.le_refl _)
  refine ⟨k1, fun x => ⟨fun hx => ?_, fun hx => ?_⟩⟩
  · obtain ⟨i, hi, rfl⟩ := List.mem_map.1 hx
    have := List.mem_range.1 (List.mem_filter.1 hi).1
    rw [getElem!_pos _ i (by simpa using this)]
    simp
  · obtain ⟨i, hi, rfl⟩ := List.getElem_of_mem hx
    have := k2 i hi
    rw [getElem!_pos _ i (by simpa using hi), List.getElem_toArray] at this
    exact this
theorem sortI_le (l : List Int) : (sortI l).Pairwise (· ≤ ·) := by
  have h := List.pairwise_mergeSort (le := fun x y : Int => decide (x ≤ y)) (fun a b c x y => decide_eq_true (Int.le_trans (of_decide_eq_true x) (of_decide_eq_true y))) (fun a b => by
    rcases Int.le_total a b with q | q
    · rw [decide_eq_true q]; rfl
    · rw [decide_eq_true q, Bool.or_true]) l
  exact h.imp fun q => of_decide_eq_true q
theorem ascI_lt (l : List Int) : (ascI l).Pairwise (· < ·) := (compact_asc (sortI_le l)).1
theorem ascI_mem {l : List Int} {x : Int} : x ∈ ascI l ↔ x ∈ l := ((compact_asc (sortI_le l)).2 x).trans (sortI_perm l).mem_iff
theorem ascI_le (l : List Int) : (ascI l).length ≤ l.length := Nat.le_trans (compact_le _) (Nat.le_of_eq (sortI_len l))
theorem asc_eq : ∀ {l m : List Int}, l.Pairwise (· < ·) → m.Pairwise (· < ·) → (∀ x, x ∈ l ↔ x ∈ m) → l = m
  | [], [], _, _, _ => rfl
  | [], b :: m, _, _, h => by have := (h b).2 (List.mem_cons_self ..); cases this
  | a :: l, [], _, _, h => by have := (h a).1 (List.mem_cons_self ..); cases this
  | a :: l, b :: m, hl, hm, h => by
    obtain ⟨l1, l2⟩ := List.pairwise_cons.1 hl
    obtain ⟨m1, m2⟩ := List.pairwise_cons.1 hm
    have e : a = b := by
      have h1 := (h a).1 (List.mem_cons_self ..)
      have h2 := (h b).2 (List.mem_cons_self ..)
      rcases List.mem_cons.1 h1 with q | q
      · exact q
      · rcases List.mem_cons.1 h2 with q2 | q2
        · exact q2.symm
        · have := m1 a q; have := l1 b q2; omega
    subst e
    rw [asc_eq l2 m2 fun x => ⟨fun hx => ?_, fun hx => ?_⟩]
    · rcases List.mem_cons.1 ((h x).1 (List.mem_cons_of_mem _ hx)) with q | q
      · subst q; exact absurd (l1 x hx) (Int.lt_irrefl _)
      · exact q
    · rcases List.mem_cons.1 ((h x).2 (List.mem_cons_of_mem _ hx)) with q | q
      · subst q; exact absurd (m1 x hx) (Int.lt_irrefl _)
      · exact q
theorem ascI_same {l m : List Int} (h : ∀ x, x ∈ l ↔ x ∈ m) : ascI l = ascI m := asc_eq (ascI_lt l) (ascI_lt m) fun x => by rw [ascI_mem, ascI_mem, h]
theorem ascI_of {l m : List Int} (h : m.Pairwise (· < ·)) (h2 : ∀ x, x ∈ l ↔ x ∈ m) : ascI l = m := asc_eq (ascI_lt l) h fun x => by rw [ascI_mem, h2]
end Go.Proofs.Ytlikhpfdncidkaa
