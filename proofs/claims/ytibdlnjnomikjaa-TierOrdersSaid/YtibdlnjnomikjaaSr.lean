import Derived.Test.YtibdlnjnomikjaaTl
import Derived.Test.YtibdlnjnomikjaaShelf
set_option linter.unusedSimpArgs false
set_option linter.unusedVariables false
namespace Go.Proofs.Ytibdlnjnomikjaa
open Go.RowKit Go.Sort

/-! ## sort.Strings over a row of its own -/
def bsL (l : List ByteArray) : List (List UInt8) := l.map fun s => s.data.toList
def sortS (l : List ByteArray) : List ByteArray := ((bsL l).mergeSort fun x y => decide (x ≤ y)).map fun b => ⟨b.toArray⟩
theorem ba_eta (s : ByteArray) : (⟨s.data.toList.toArray⟩ : ByteArray) = s := by cases s; simp
theorem bs_back (l : List ByteArray) : (bsL l).map (fun b => (⟨b.toArray⟩ : ByteArray)) = l := by
  unfold bsL
  rw [List.map_map]
  conv => rhs; rw [← List.map_id l]
  exact List.map_congr_left fun s _ => ba_eta s
theorem sortS_perm (l : List ByteArray) : (sortS l).Perm l := by
  have h := (List.mergeSort_perm (bsL l) (fun x y => decide (x ≤ y))).map fun b => (⟨b.toArray⟩ : ByteArray)
  rw [bs_back] at h; exact h
theorem sortS_len (l : List ByteArray) : (sortS l).length = l.length := (sortS_perm l).length_eq
theorem heap_grow_old {w : World} {os : Array Obj} {k : Nat} (h : k < w.heap.size) : (grow w os).heap[k]? = w.heap[k]? := by
  unfold grow
  exact Array.getElem?_append_left h
theorem heap_map_other {w : World} {g k : Nat} {f : Array Value → Array Value} (h : k ≠ g) : (mapBlock w g f).heap[k]? = w.heap[k]? := by
  unfold mapBlock
  rw [Array.getElem?_modify, if_neg (fun e => h e.symm)]
theorem heap_map_same {w : World} {g : Nat} {f : Array Value → Array Value} {c : Array Value} {e : TypeId} {fr : Nat × Nat} (h : w.heap[g]? = some (.cells c e fr)) : (mapBlock w g f).heap[g]? = some (.cells (f c) e fr) := by
  unfold mapBlock
  rw [Array.getElem?_modify, if_pos rfl, h]; rfl
theorem put_at {α : Type} [Inhabited α] {enc : α → Value} {off : Nat} {d : Array α} {c : Array Value} {j : Nat} (hj : j < d.size) (hc : off + d.size ≤ c.size) : (putCells enc off d c)[off + j]? = some (enc d[j]!) := by
  unfold putCells
  rw [Array.getElem?_mapIdx, Array.getElem?_eq_getElem (by omega)]
  simp only [Option.map_some]
  rw [if_pos ⟨by omega, by omega⟩, show off + j - off = j from by omega]
theorem put_size {α : Type} [Inhabited α] {enc : α → Value} {off : Nat} {d : Array α} {c : Array Value} : (putCells enc off d c).size = c.size := by
  unfold putCells; simp
theorem sortStrings_s (l : List ByteArray) (p : Option Addr) (n c : Nat) (hn : l.length = n) (hn2 : n ≤ 100000) (hn0 : 0 < n) (w : World) (HS : S w [Rw 9 1 p n c (stV l)]) :
    Calls Try.prog 53 #[.slice p n c] w fun e w' => e = .returned (.tuple #[]) ∧ S w' ([Rw 9 1 p n c (stV (sortS l))] ++ [Old w (fps [Rw 9 1 p n c (stV l)])]) := by
  have H := HS.beginI
  obtain ⟨k1, k2, k3, k4⟩ := HS.rw (k := 0) rfl
  rcases k4 with ⟨_, h0, _⟩ | ⟨g, o, cur, rfl, hg, hs, hc⟩
  · omega
  rw [Nat.mul_one] at hs
  have hlen : (bsL l).length = n := by unfold bsL; rw [List.length_map]; exact hn
  have hlt : g < w.heap.size := (Array.getElem?_eq_some_iff.1 hg).1
  have hH : Holds encStr w g o (bsL l).toArray := fun j hj => by
    have hj2 : j < (bsL l).length := by simpa using hj
    have hj3 : j < l.length := by rw [hn]; omega
    refine ⟨?_, ?_⟩
    · rw [cell_of_row w g _ cur 9 (0, 0) hg]
      refine (hc j _ (show (stV l)[j]? = some (.string l[j]) from ?_)).trans ?_
      · unfold stV; rw [List.getElem?_map, List.getElem?_eq_getElem hj3]; rfl
      · rw [getElem!_pos _ j hj]
        show some (Value.string l[j]) = some (Value.string ⟨((bsL l)[j]'hj2).toArray⟩)
        have e : (bsL l)[j]'hj2 = l[j].data.toList := by simp [bsL]
        rw [e, ba_eta]
    · unfold World.frozen?
      rw [hg]
      simp
  have hr := Try.sort_Strings g o c (bsL l) w hH hlt (by omega)
  rw [hlen] at hr
  refine hr.mono ?_
  rintro e w' ⟨rfl, m, os, rfl⟩
  refine ⟨rfl, ?_⟩
  have hsz : ((bsL l).mergeSort fun x y => decide (x ≤ y)).toArray.size = n := by
    rw [List.size_toArray, List.length_mergeSort, hlen]
  have hW : (putRow encStr (Go.Sort.ahead w m) g o ((bsL l).mergeSort fun x y => decide (x ≤ y)).toArray).heap.size = w.heap.size := by rw [size_putRow]; rfl
  have hblk : (grow (putRow encStr (Go.Sort.ahead w m) g o ((bsL l).mergeSort fun x y => decide (x ≤ y)).toArray) os).heap[g]? = some (.cells (putCells encStr o ((bsL l).mergeSort fun x y => decide (x ≤ y)).toArray cur) 9 (0, 0)) := by
    rw [heap_grow_old (by rw [hW]; exact hlt)]
    exact heap_map_same (w := Go.Sort.ahead w m) hg
  refine H.turn (k := 0) (it' := Rw 9 1 (some ⟨g, o, none⟩) n c (stV (sortS l))) rfl ⟨rfl, rfl, rfl, ?_, fun k hk => ?_⟩ ⟨?_, k2, k3, .inr ⟨g, o, _, rfl, hblk, ?_, fun j u hu => ?_⟩⟩ (fun b hb => ⟨.inl hb, ?_⟩)
  · show w.heap.size ≤ (grow _ os).heap.size
    unfold grow
    simp only [Array.size_append]
    rw [hW]; omega
  · rw [heap_grow_old (by rw [hW]; exact hk.1)]
    exact heap_map_other (w := Go.Sort.ahead w m) (fun e => hk.2 ⟨o, by rw [e]⟩)
  · rw [stV_len, sortS_len, hn, Nat.mul_one]
  · rw [put_size, Nat.mul_one]; exact hs
  · have hj : j < n := by
      have := (List.getElem?_eq_some_iff.1 hu).1
      rw [stV_len, sortS_len, hn] at this; exact this
    rw [put_at (by rw [hsz]; exact hj) (by rw [hsz]; omega)]
    unfold stV sortS at hu
    rw [List.getElem?_map, List.getElem?_map, List.getElem?_eq_getElem (by rw [List.length_mergeSort, hlen]; exact hj)] at hu
    simp only [Option.map_some, Option.some.injEq] at hu
    rw [← hu, getElem!_pos _ j (by rw [hsz]; exact hj)]
    simp
  · obtain ⟨o'', ho''⟩ := hb
    have : b = g := by cases ho''; rfl
    rw [this]
    show g < (grow _ os).heap.size
    unfold grow
    simp only [Array.size_append]
    rw [hW]; omega
/-! ## rows of the same texts, in order, are the same -/
theorem le_total' (a b : List UInt8) : a ≤ b ∨ b ≤ a := List.le_total a b
theorem sortS_same {l m : List ByteArray} (h : l.Perm m) : sortS l = sortS m := by
  unfold sortS
  congr 1
  have h1 : (bsL l).Perm (bsL m) := h.map _
  have tr : ∀ a b c : List UInt8, decide (a ≤ b) = true → decide (b ≤ c) = true → decide (a ≤ c) = true := fun a b c x y => decide_eq_true (List.le_trans (of_decide_eq_true x) (of_decide_eq_true y))
  have to : ∀ a b : List UInt8, (decide (a ≤ b) || decide (b ≤ a)) = true := fun a b => by
    rcases List.le_total a b with q | q
    · rw [decide_eq_true q]; rfl
    · rw [decide_eq_true q, Bool.or_true]
  have s1 := List.pairwise_mergeSort tr to (bsL l)
  have s2 := List.pairwise_mergeSort tr to (bsL m)
  have hp : ((bsL l).mergeSort fun x y => decide (x ≤ y)).Perm ((bsL m).mergeSort fun x y => decide (x ≤ y)) := (List.mergeSort_perm ..).trans (h1.trans (List.mergeSort_perm ..).symm)
  exact List.Perm.eq_of_pairwise (le := fun a b => decide (a ≤ b) = true) (fun a b _ _ x y => List.le_antisymm (of_decide_eq_true x) (of_decide_eq_true y)) s1 s2 hp
def dedS : List ByteArray → List ByteArray → List ByteArray
  | acc, [] => acc
  | acc, s :: l => dedS (acc ++ [s]) l
end Go.Proofs.Ytibdlnjnomikjaa
