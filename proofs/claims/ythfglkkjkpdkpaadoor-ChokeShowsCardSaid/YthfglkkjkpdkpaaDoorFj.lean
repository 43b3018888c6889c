import Derived.Test.YthfglkkjkpdkpaaDoorFi
set_option linter.unusedSimpArgs false
set_option linter.unusedVariables false
namespace Go.Proofs.YthfglkkjkpdkpaaDoor
open Go.RowKit Go.Deep

/-! ## Bytes of a text as a block of one's own, and stores into it -/
section
variable {P : Program} {N : Nat} {Q : Exit → Act → World → Prop} {f : Fr} {ds : List Deferred} {w w' : World} {o : Oper} {ops : Array Oper} {L : List Item} {K : Act → World → Prop}
/-- A store of one cell into a row of one's own. -/
theorem s_storeWC {t e size n c j : Nat} {x y : Operand} {p : Option Addr} {xs : List Value} {v : Value} (H : S w L) (k : Nat) (hw : Wt ops f o) (hd : o.dst = none) (ho : o.op = .store t x y) (hx : evo f x = some (.pointer (p.map fun q => q.add j)))
    (hy : evo f y = some v) (hk : L[k]? = some (Rw e size p n c xs)) (hn : szO P t = some 1) (hv : v.cells = #[v]) (h1 : v.oneCell' = true) (hj : j < n * size)
    (h : ∀ w', S w' (L.set k (Rw e size p n c (xs.set j v))) → G N K f ds w') : G N (StepK P ops Q o K) f ds w := by
  obtain ⟨k1, k2, k3, k4⟩ := H.rw hk
  rcases k4 with ⟨_, h0, _⟩ | ⟨g, off, cur, rfl, hg, hcs, hc⟩
  · subst h0; omega
  · have hns : n * size ≤ c * size := Nat.mul_le_mul_right _ k2
    have hr := run_storeR (P := P) (t := t) (g := g) (i := off + j) (v := v) hg (by rw [hv]; exact hn) (by rw [hv]; show off + j + 1 ≤ _; omega) (by rw [hv]; simpa using h1)
    rw [hv] at hr
    have hcur : (cur.toList.take (off + j) ++ (#[v] : Array Value).toList ++ cur.toList.drop (off + j + (#[v] : Array Value).size)).toArray = cur.setIfInBounds (off + j) v := by
      apply Array.ext'
      simp only [Array.toList_setIfInBounds, List.size_toArray, List.length_cons, List.length_nil]
      rw [List.set_eq_take_append_cons_drop, if_pos (by rw [Array.length_toList]; omega)]
      simp
    rw [hcur] at hr
    rw [Option.map_some, add_lit'] at hx
    have hlt : g < w.heap.size := (Array.getElem?_eq_some_iff.1 hg).1
    refine s_unit hw hd (exu_store ho hx hy hr) (h _ (H.turn hk ((same_setRow w g _).less fun b hb he => hb.2 ⟨off, by rw [he]⟩) ⟨by rw [List.length_set]; exact k1, k2, k3, .inr ⟨g, off, _, rfl, by simp only [World.setRow, Array.getElem?_modify, if_true, hg, Option.map_some]; rfl, by rw [Array.size_setIfInBounds]; exact hcs, fun i u hu => ?_⟩⟩ (fun b hb => ⟨.inl hb, Nat.lt_of_lt_of_le (H.lt hk hb) (by simp [World.setRow])⟩)))
    rw [List.getElem?_set] at hu
    rw [Array.getElem?_setIfInBounds]
    by_cases hi : j = i
    · subst hi
      rw [if_pos rfl] at hu
      rw [if_pos rfl, if_pos (by omega)]
      split at hu
      · exact hu
      · cases hu
    · rw [if_neg hi] at hu
      rw [if_neg (by omega)]
      exact hc i u hu
end
end Go.Proofs.YthfglkkjkpdkpaaDoor
