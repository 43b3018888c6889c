import Derived.Test.YtlikhpfdncidkaaFi
set_option linter.unusedSimpArgs false
set_option linter.unusedVariables false
namespace Go.Proofs.Ytlikhpfdncidkaa
open Go.RowKit Go.Deep

/-! ## Bytes of a text as a block of one's own, and stores into it -/
section
variable {P : Program} {N : Nat} {Q : Exit → Act → World → Prop} {f : Fr} {ds : List Deferred} {w w' : World} {o : Oper} {ops : Array Oper} {L : List Item} {K : Act → World → Prop}
theorem s_bytesOf2 {d sT dT e : Nat} {x : Operand} {s : ByteArray} (H : S w L) (hw : Wt ops f o) (hd : o.dst = some d) (hN : Nat.blt d N = true) (ho : o.op = .convert sT dT x) (hx : evo f x = some (.string s))
    (hs : P.underlying sT = some .string) (hd' : P.underlying dT = some (.slice e)) (he : P.underlying e = some (.int .u8))
    (h : ∀ g c fr cs w', S w' (Ob g (.cells cs e fr) :: L) → (∀ j, j < s.size → cs[j]? = some (.int .u8 ((s.data.toList.getD j 0).toNat : Nat))) → s.size ≤ c → (s.size ≤ cs.size ∧ cs.size ≤ fr.1) → G N K ((d, .slice (some ⟨g, 0, none⟩) s.size c) :: f) ds w') : G N (StepK P ops Q o K) f ds w := by
  have hrun := Lib.run_convert_string_bytes (P := P) w sT dT e s hs hd' he
  have hS : S (Lib.bytesWorld w e s) (Ob w.heap.size (.cells (Lib.bytesCells w e s) e ((Lib.bytesCells w e s).size, (Lib.bytesCells w e s).size + 1)) :: L) := by
    refine (H.move (same_bytes w e s)).cons (Lib.bytesWorld_at_new w e s) (fun g hg => ?_) (fun x hx g hg hx' => ?_)
    · rw [Lib.bytesWorld_size]; have hg : g = w.heap.size := hg; omega
    · have hg : g = w.heap.size := hg
      have := (H.1 x hx).2 g hx'
      omega
  exact s_val hw hd hN (ex_of (x := convert sT dT (.string s)) (fun a ha => by unfold execOp; simp only [ho, ha.eval hx]) hrun)
    (h _ _ _ _ _ hS (fun j hj => by
      simp only [Lib.bytesCells]
      rw [Array.getElem?_append_left (by simpa using hj)]
      simp [List.getD, hj]) (grownCap_ge w s.size 0 e) ⟨by simp [Lib.bytesCells], Nat.le_refl _⟩)
/-- A store of one cell into a block of which cells behind are frozen. -/
theorem s_storeF {t : TypeId} {x y : Operand} {g i : Nat} {cs : Array Value} {e : TypeId} {fr : Nat × Nat} {v : Value} (H : S w L) (k : Nat) (hw : Wt ops f o) (hd : o.dst = none) (ho : o.op = .store t x y) (hx : evo f x = some (.pointer (some ⟨g, i, none⟩)))
    (hy : evo f y = some v) (hk : L[k]? = some (Ob g (.cells cs e fr))) (hn : szO P t = some 1) (hv : v.cells = #[v]) (h1 : v.oneCell' = true) (hi : i < cs.size) (hf : i < fr.1)
    (h : ∀ w', S w' (L.set k (Ob g (.cells (cs.setIfInBounds i v) e fr))) → G N K f ds w') : G N (StepK P ops Q o K) f ds w := by
  have hg := H.ob hk
  have hcell : w.cell? ⟨g, i, none⟩ = some cs[i] := by simp [World.cell?, hg, hi]
  have hfro : w.frozen? ⟨g, i, none⟩ = false := by simp [World.frozen?, hg]; omega
  have hst : (storeVar t ⟨g, i, none⟩ v).run P w = .ok () (w.setCell ⟨g, i, none⟩ v) := by
    unfold storeVar
    rw [hv]
    simp only [Sem.run_bind, run_sz hn, Result.andThen_ok]
    have hadd : (⟨g, i, none⟩ : Addr).add 0 = ⟨g, i, none⟩ := by unfold Addr.add; simp
    have : (store ((⟨g, i, none⟩ : Addr).add 0) v).run P w = .ok () (w.setCell ⟨g, i, none⟩ v) := by
      rw [hadd, run_store P w _ v _ h1, hcell]
      simp [hfro]
    simp [storeCells, this]
  exact s_unit hw hd (exu_store ho hx hy hst) (h _ (H.write hk (same_setCell w g i v) (by
    simp [World.setCell, Array.getElem?_modify, hg])))
/-- An element of an array that is a value; the element is an aggregate. -/
theorem x_indexAgg {t e : TypeId} {len n : Nat} {d : TypeDesc} {x y : Operand} {cs vs : Array Value} {k : IntKind} {i : Int} (j : Nat) (ho : o.op = .index t x y) (hx : evo f x = some (.agg cs)) (hy : evo f y = some (.int k i)) (hu : P.underlying t = some (.array len e)) (hz : szO P e = some n) (he : P.underlying e = some d) (hd : aggB d = true)
    (hb : i = (j : Int) ∧ j < len) (hv : cs.extract (j * n) (j * n + n) = vs) : Ex P N f ds o w (.agg vs) w :=
  ex_of (x := Instr.index t (.agg cs) (.int k i)) (fun a ha => by unfold execOp; simp only [ho, ha.eval hx, ha.eval hy]) (by
    obtain ⟨rfl, hj⟩ := hb
    unfold Instr.index
    simp only [asIntOf, Sem.run_bind, Sem.run_pure, Result.andThen_ok, run_underlying hu]
    have : (0 : Int) ≤ (j : Int) ∧ (j : Int) < (len : Int) := by omega
    simp only [if_pos this, Sem.run_bind, run_sz hz, Result.andThen_ok, Int.toNat_natCast]
    exact run_partA he hd hz hv)
/-- The address of a field of an element of a row. -/
theorem x_fieldAddrR {s i n m : Nat} {x : Operand} {p : Option Addr} (hp : ∃ g o, p = some ⟨g, o, none⟩) (ho : o.op = .fieldAddr s x i) (hx : evo f x = some (.pointer (p.map fun q => q.add m))) (hf : foO P s i = some n) : Ex P N f ds o w (.pointer (p.map fun q => q.add (m + n))) w := by
  obtain ⟨g, o', rfl⟩ := hp
  rw [Option.map_some, add_lit'] at hx
  have h := x_fieldAddr (N := N) (ds := ds) (w := w) ho hx hf rfl
  rw [Option.map_some, add_lit', ← Nat.add_assoc]
  exact h
/-- A store of one cell into a row of one's own. -/
theorem s_storeWC {t e size n c j : Nat} {x y : Operand} {p : Option Addr} {xs : List Value} {v : Value} (H : S w L) (k : Nat) (hw : Wt ops f o) (hd : o.dst = none) (ho : o.op = .store t x y) (hx : evo f x = some (.pointer (p.map fun q => q.add j)))
    (hy : evo f y = some v) (hk : L[k]? = some (Rw e size p n c xs)) (hn : szO P t = some 1) (hv : v.cells = #[v]) (h1 : v.oneCell' = true) (hj : j < n * size)
    (h : ∀ w', S w' (L.set k (Rw e size p n c (xs.set j v))) → G N K f ds w') : G N (StepK P ops Q o K) f ds w := by
  obtain ⟨k1, k2, k3, k4⟩ := H.rw hk
  rcases k4 with ⟨_, h0, _⟩ | ⟨g, off, cur, rfl, hg, hcs, hc⟩
  · subst h0; omega
  · have hns : n * size ≤ c * size := Nat.mul_le_mul_right _ k2
    have hr := run_storeR (P := P) (t := t) (g := g) (i := off + j) (v := v) hg (by rw [hv]; exact hn) (by rw [hv]; show off + j + 1 ≤ _; omega) (by rw [hv]; simpa using h1)
    rw [hv] at hr
    have hcur : (cur.toList.take (off + j) ++ (#[v] : Array Value).toList ++ cur.toList.drop (off + j + (#[v] : Array Value).size)).toArray = cur.setIfInBounds (off + j) v := by
      apply Array.ext'
      simp only [Array.toList_setIfInBounds, List.size_toArray, List.length_cons, List.length_nil]
      rw [List.set_eq_take_append_cons_drop, if_pos (by rw [Array.length_toList]; omega)]
      simp
    rw [hcur] at hr
    rw [Option.map_some, add_lit'] at hx
    have hlt : g < w.heap.size := (Array.getElem?_eq_some_iff.1 hg).1
    refine s_unit hw hd (exu_store ho hx hy hr) (h _ (H.turn hk ((same_setRow w g _).less fun b hb he => hb.2 ⟨off, by rw [he]⟩) ⟨by rw [List.length_set]; exact k1, k2, k3, .inr ⟨g, off, _, rfl, by simp only [World.setRow, Array.getElem?_modify, if_true, hg, Option.map_some]; rfl, by rw [Array.size_setIfInBounds]; exact hcs, fun i u hu => ?_⟩⟩ (fun b hb => ⟨.inl hb, Nat.lt_of_lt_of_le (H.lt hk hb) (by simp [World.setRow])⟩)))
    rw [List.getElem?_set] at hu
    rw [Array.getElem?_setIfInBounds]
    by_cases hi : j = i
    · subst hi
      rw [if_pos rfl] at hu
      rw [if_pos rfl, if_pos (by omega)]
      split at hu
      · exact hu
      · cases hu
    · rw [if_neg hi] at hu
      rw [if_neg (by omega)]
      exact hc i u hu
end
end Go.Proofs.Ytlikhpfdncidkaa
