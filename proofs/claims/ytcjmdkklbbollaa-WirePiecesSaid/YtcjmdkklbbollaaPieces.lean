import Derived.Test.YtcjmdkklbbollaaMsg
import Derived.Test.YtcjmdkklbbollaaBT
import Derived.Deep.Slices
import Derived.ChangeSlices
set_option linter.unusedSimpArgs false
set_option linter.unusedVariables false
/- A slice of numbers: what an argument of its type holds. -/
namespace Go.Proofs.Ytcjmdkklbbollaa
open Go.ChangeShapes Go.WideShapes Go.ChangeAt Go.RowKit Go.Joins Go.Deep

section
variable {H : Type} {enc : TypeId × Value → H} {w : World} {base : Nat} {spare : Nat → Bool} {held : Bool}
set_option maxRecDepth 100000 in
/-- A slice of numbers that came in. -/
theorem open_cuts {v : Value} {d : DataW H} {ps : List MemPlace} {b0 : Nat} (hv : Value.okWide Try.prog w .any b0 60 v) (h : DataW.Trod enc Try.prog w base spare held 60 v d ps) :
    ∃ (p : Option Addr) (n c : Nat) (zs : List Int), v = .slice p n c ∧ n = zs.length ∧ Reads w p n c 1 (zsV zs) := by
  obtain ⟨fuel, hf⟩ := h
  obtain ⟨p, n, c, rfl⟩ : ∃ p n c, v = .slice p n c := okWide_slice Try.underlying60 hv
  rcases Go.ChangeShapes.open_ints Try.underlying60 Try.underlying3 (by kernel_rfl) hf with ⟨h1, _⟩ | ⟨a, len, cap, zs, h1, _, hl, hm, hlen, _, hc, _⟩
  · simp only [Value.cells, List.cons.injEq, Value.slice.injEq, and_true] at h1
    obtain ⟨rfl, rfl, rfl⟩ := h1
    exact ⟨none, 0, 0, [], rfl, rfl, by simp [zsV], Nat.le_refl _, fun h => absurd h (Nat.lt_irrefl _)⟩
  · simp only [Value.cells, List.cons.injEq, Value.slice.injEq, and_true] at h1
    obtain ⟨rfl, rfl, rfl⟩ := h1
    have hlm : n ≤ zs.length := by rw [hlen]; split <;> omega
    refine ⟨some a, n, c, zs.take n, rfl, by rw [List.length_take]; omega, ?_, hl, fun hn => ⟨a, rfl, fun j u hu => ?_⟩⟩
    · unfold zsV; rw [flat_length (size := 1) (fun _ _ => rfl), List.length_take]; omega
    · obtain ⟨i, rfl⟩ : ∃ i, j = i := ⟨j, rfl⟩
      have hj : j < (zs.take n).length := by
        have := (List.getElem?_eq_some_iff.1 hu).1
        unfold zsV at this
        rw [flat_length (size := 1) (fun _ _ => rfl)] at this; omega
      have h2 := zsV_at (l := zs.take n) (i := j) (z := zs.getD j 0) (by
        rw [List.length_take] at hj
        rw [List.getElem?_take, if_pos (by omega), List.getD_eq_getElem?_getD, List.getElem?_eq_getElem (by omega)]; rfl)
      rw [Nat.mul_one, hu] at h2
      rw [List.length_take] at hj
      rw [hc j (by omega)]
      exact h2.symm
end
end Go.Proofs.Ytcjmdkklbbollaa
/- WirePieces returns true for every text and cuts, with a handshake or without, and leaves it as it was. No condition. -/
namespace Go.Proofs.Ytcjmdkklbbollaa.pieces
open Go.ChangeShapes Go.WideShapes Go.ChangeAt Go.RowKit
open Go.ChangeMaps (open_string shut_string)

set_option maxRecDepth 100000 in
theorem contract (H : Type) (enc : TypeId × Value → H) (W : World) (base : Nat) (args : Array Value) (ds gs : List (DataW H)) (before : List MemPlace)
    (hval : ∀ (j : Nat) t v, Try.f9.params[j]? = some t → args[j]? = some v → Value.okWide Try.prog W .any base t v)
    (hW : DataW.Whole enc Try.prog Try.f9.params.toList Rows.wirePiecesSpec.vars false W args.toList ds gs before) :
    Calls Try.prog 9 args W fun e W' => ∃ v, e = .returned v ∧ Rows.wirePiecesSpec.post enc Try.prog Try.f9 false true false false W args v W' := by
  have hW' := hW
  obtain ⟨p, q, hA0, hV, rfl, hfz, hnd⟩ := hW
  have hA : DataW.TrodAll enc Try.prog W 0 (fun _ => true) true Try.f9.params.toList args.toList ds p := hA0
  rw [Try.params9] at hA hval
  obtain ⟨v0, v1, v2, d0, d1, d2, p0, p1, p2, rfl, rfl, rfl, h0, h1, h2⟩ := trodAll_three hA
  obtain ⟨rfl, rfl⟩ := trodVars_none hV
  obtain ⟨g, rfl, _, _⟩ := open_bool Try.underlying4 (hval 0 4 v0 rfl rfl) h0
  obtain ⟨s, rfl, _, _, _⟩ := open_string Try.underlying9 (hval 1 9 v1 rfl rfl) h1
  obtain ⟨p, n, c, zs, rfl, hn, hr⟩ := open_cuts (hval 2 60 v2 rfl rfl) h2
  refine (pieces_law g s p n c zs hn W hr).mono fun e W' ⟨he, hs⟩ => ?_
  exact ⟨_, he, law_post hW' rfl rfl rfl rfl rfl (by rw [Try.params9]; intro t ht; simp at ht; rcases ht with rfl | rfl | rfl <;> exact ⟨by kernel_rfl, of_decide_eq_true (by kernel_rfl)⟩) hs⟩

set_option maxRecDepth 100000 in
theorem lifted (os : Os) (started : os.Started) (H : Type) (enc : TypeId × Value → H) :
    ReturnsInHanded {} Try.checked os 9 .any (Rows.wirePiecesSpec.pre6 enc Try.prog Try.f9 Rows.wirePiecesRow.domain false) (Rows.wirePiecesSpec.post enc Try.prog Try.f9 false true false false) := by
  refine returnsInHanded_of_change (C := Try.checked) own started (by kernel_rfl) Try.func9
    (ChangeSpec.witness6 (enc := enc) (C := Try.checked) false ⟨#[], #[.bool false, .string .empty, .slice none 0 0], []⟩ 8 (by kernel_rfl) (by kernel_rfl) (by kernel_rfl) (by kernel_rfl)) ?_
  intro W base args ds gs before hval hW _ _
  exact contract H enc W base args ds gs before hval hW

theorem proved : Rows.WirePiecesSaid :=
  OpenClaim.holds_of_wide 9 Try.f9 rfl rfl rfl rfl rfl rfl rfl ⟨rfl, rfl, rfl, rfl, rfl⟩ rfl rfl rfl rfl rfl (by kernel_rfl) Try.func9 (by kernel_rfl)
    (of_decide_eq_true (by kernel_rfl)) (by unfold Func.isWrapper; first | (rw [if_pos (by decide +kernel)]; kernel_rfl) | (rw [if_neg (by decide +kernel)]; exact ⟨rfl, rfl⟩))
    (fun os started H enc _ => lifted os started H enc)
end Go.Proofs.Ytcjmdkklbbollaa.pieces
