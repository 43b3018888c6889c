import Derived.Test.YtlajgickimgigaaEz
set_option linter.unusedSimpArgs false
set_option linter.unusedVariables false
namespace Go.Proofs.Ytlajgickimgigaa
open Go.RowKit

/-! ## Cuts of a slice, wherever it lies -/
section
variable {P : Program} {N : Nat} {f : Fr} {ds : List Deferred} {w : World} {o : Oper}
theorem x_sliceLH {t e size n c : Nat} {p : Option Addr} {x y1 y2 : Operand} {k1 k2 : IntKind} {i1 i2 : Int} (l h : Nat) (ho : o.op = .slice t x (some y1) (some y2) none) (hx : evo f x = some (.slice p n c)) (h1 : evo f y1 = some (.int k1 i1)) (h2 : evo f y2 = some (.int k2 i2))
    (hu : P.underlying t = some (.slice e)) (hz : szO P e = some size) (hb : i1 = (l : Int) ∧ i2 = (h : Int) ∧ l ≤ h ∧ h ≤ c) :
    Ex P N f ds o w (.slice (cutP p l c size) (h - l) (c - l)) w :=
  ex_of (x := Instr.sliceAt t (.slice p n c) (some (.int k1 i1)) (some (.int k2 i2)) none) (fun a ha => by unfold execOp; simp only [ho, ha.eval hx, ha.eval h1, ha.eval h2, Option.map_some, Option.map_none]) (by
    obtain ⟨rfl, rfl, q1, q2⟩ := hb
    have hel : P.elem t = e := by unfold Program.elem; rw [hu]
    have hu' : P.underlying t = some (.slice (P.elem t)) := by rw [hel]; exact hu
    rw [run_sliceAt_slice (P := P) w t _ _ _ _ hu', run_slice_lh (P := P) w t p n c hu' k1 k2 (l : Int) (h : Int) (by omega) (by omega) (by omega), hel, run_sz hz]
    simp only [Result.andThen_ok, sliced, cutP, Int.toNat_natCast])
theorem x_sliceH {t e size n c : Nat} {p : Option Addr} {x y2 : Operand} {k2 : IntKind} {i2 : Int} (h : Nat) (ho : o.op = .slice t x none (some y2) none) (hx : evo f x = some (.slice p n c)) (h2 : evo f y2 = some (.int k2 i2))
    (hu : P.underlying t = some (.slice e)) (hz : szO P e = some size) (hb : i2 = (h : Int) ∧ h ≤ c) :
    Ex P N f ds o w (.slice (cutP p 0 c size) h c) w :=
  ex_of (x := Instr.sliceAt t (.slice p n c) none (some (.int k2 i2)) none) (fun a ha => by unfold execOp; simp only [ho, ha.eval hx, ha.eval h2, Option.map_some, Option.map_none]) (by
    obtain ⟨rfl, q2⟩ := hb
    have hel : P.elem t = e := by unfold Program.elem; rw [hu]
    have hu' : P.underlying t = some (.slice (P.elem t)) := by rw [hel]; exact hu
    rw [run_sliceAt_slice (P := P) w t _ _ _ _ hu', run_slice_h (P := P) w t p n c hu' k2 (h : Int) (by omega) (by omega), hel, run_sz hz]
    simp only [Result.andThen_ok, sliced, cutP, Int.toNat_natCast, Nat.sub_zero])
theorem Reads.cut {p : Option Addr} {n c size : Nat} {xs : List Value} (hr : Reads w p n c size xs) (l h : Nat) (hl : l ≤ h) (hh : h ≤ n) : Reads w (cutP p l c size) (h - l) (c - l) size ((xs.drop (l * size)).take ((h - l) * size)) := by
  obtain ⟨k1, k2, k3⟩ := hr
  have hx : h * size ≤ n * size := Nat.mul_le_mul_right _ hh
  refine ⟨?_, by omega, fun h0 => ?_⟩
  · rw [List.length_take, List.length_drop, k1, Nat.sub_mul]; omega
  · obtain ⟨a, rfl, hc⟩ := k3 (by omega)
    refine ⟨a.add (l * size), ?_, fun j u hu => ?_⟩
    · unfold cutP; rw [if_neg (by omega)]; rfl
    · rw [addr_add]
      refine hc _ _ ?_
      have hj := (List.getElem?_eq_some_iff.1 hu).1
      rw [List.length_take] at hj
      rw [List.getElem?_take_of_lt (by omega), List.getElem?_drop] at hu
      exact hu
end
/-! ## Rows of texts: a list of slices, each with memory of its own -/
/-- A row: where it lies, its capacity, what it holds. -/
structure Ro (α : Type) where
  p : Option Addr
  c : Nat
  l : List α
def roV {α : Type} (r : Ro α) : Value := .slice r.p r.l.length r.c
def rosV {α : Type} (rs : List (Ro α)) : List Value := rs.map roV
def roI {α : Type} (e size : Nat) (enc : α → List Value) (r : Ro α) : Item := Rw e size r.p r.l.length r.c (r.l.flatMap enc)
def RowsI {α : Type} (e size : Nat) (enc : α → List Value) (rs : List (Ro α)) : Item := Big (rs.map (roI e size enc))
theorem rosV_len {α : Type} (rs : List (Ro α)) : (rosV rs).length = rs.length := by unfold rosV; simp
theorem rosV_snoc {α : Type} (rs : List (Ro α)) (r : Ro α) : rosV (rs ++ [r]) = rosV rs ++ [roV r] := by unfold rosV; simp
theorem rosV_at {α : Type} {rs : List (Ro α)} {j : Nat} {r : Ro α} (h : rs[j]? = some r) : (rosV rs)[j * 1]? = some (roV r) := by unfold rosV; rw [Nat.mul_one, List.getElem?_map, h]; rfl
theorem rosV_one {α : Type} (rs : List (Ro α)) : (rosV rs).all (·.oneCell') = true := by
  unfold rosV; rw [List.all_eq_true]; intro v hv
  obtain ⟨x, _, rfl⟩ := List.mem_map.1 hv; rfl
theorem S.rowsNil {w : World} {L : List Item} {α : Type} {e size : Nat} {enc : α → List Value} (h : S w L) : S w (RowsI e size enc [] :: L) := h.cons (show S w [] from S.nil w) (fun g hg => by obtain ⟨_, h, _⟩ := hg; cases h) (fun _ _ g hg => by obtain ⟨_, h, _⟩ := hg; cases h)
theorem S.rowsSnoc {w : World} {L : List Item} {α : Type} {e size : Nat} {enc : α → List Value} {rs : List (Ro α)} {r : Ro α} (h : S w (RowsI e size enc rs :: roI e size enc r :: L)) : S w (RowsI e size enc (rs ++ [r]) :: L) := by
  have h1 : S w ((rs.map (roI e size enc) ++ [roI e size enc r]) ++ L) := by rw [List.append_assoc]; exact h.unbig
  have h2 := h1.big
  unfold RowsI
  rw [List.map_append]; exact h2
theorem rows_read {w : World} {α : Type} {e size : Nat} {enc : α → List Value} {rs : List (Ro α)} {r : Ro α} {j : Nat} (h : (RowsI e size enc rs).ok w) (hj : rs[j]? = some r) : Reads w r.p r.l.length r.c size (r.l.flatMap enc) :=
  S.rwReads (k := j) (show S w (rs.map (roI e size enc)) from h) (by rw [List.getElem?_map, hj]; rfl)
end Go.Proofs.Ytlajgickimgigaa
