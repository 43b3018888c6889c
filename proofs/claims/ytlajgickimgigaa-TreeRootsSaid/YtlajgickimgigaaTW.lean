import Derived.Test.YtlajgickimgigaaTV
set_option linter.unusedSimpArgs false
set_option linter.unusedVariables false
namespace Go.Proofs.Ytlajgickimgigaa
open Go.RowKit

/-! ## The page's example -/
theorem tall3 : tallN 3 = 2 := tallN_of (by omega) (by decide) (fun j hj => by
  have : j = 0 ∨ j = 1 := by omega
  rcases this with rfl | rfl <;> decide)
theorem digs3 {a b c : ByteArray} (ha : a.size = 32) (hb : b.size = 32) (hc : c.size = 32) : digsB [a, b, c] = true := by
  unfold digsB; simp [ha, hb, hc]
theorem check3 {a b c : ByteArray} (ha : a.size = 32) (hb : b.size = 32) (hc : c.size = 32) : checkE [a, b, c] = 0 :=
  check_ok (by simp) (digs3 ha hb hc) (by simp)
theorem lvl3_1 (a b c : ByteArray) : lvlS 0 [a, b, c] 1 = [pairS a b, pairS c zeroB] := by
  show upS (padL 0 [a, b, c]) = _
  have : padL 0 [a, b, c] = [a, b, c, zeroB] := by unfold padL; rw [if_pos (by simp)]; rfl
  rw [this]; simp [upS]
theorem lvl3_2 (a b c : ByteArray) : lvlS 0 [a, b, c] 2 = [pairS (pairS a b) (pairS c zeroB)] := by
  show upS (padL 1 (lvlS 0 [a, b, c] 1)) = _
  rw [lvl3_1]
  have : padL 1 [pairS a b, pairS c zeroB] = [pairS a b, pairS c zeroB] := by unfold padL; rw [if_neg (by simp)]
  rw [this]; simp [upS]
theorem root3 {a b c : ByteArray} (ha : a.size = 32) (hb : b.size = 32) (hc : c.size = 32) : rootS [a, b, c] = (pairS (pairS a b) (pairS c zeroB), 0) := by
  unfold rootS
  rw [if_pos (check3 ha hb hc), show [a, b, c].length = 3 from rfl, tall3, lvl3_2]; rfl
theorem uncles3 {a b c : ByteArray} (ha : a.size = 32) (hb : b.size = 32) (hc : c.size = 32) : unclesS [a, b, c] 0 2 = ([zeroB, pairS a b], 0) := by
  unfold unclesS
  rw [if_pos (check3 ha hb hc), show [a, b, c].length = 3 from rfl, tall3, if_pos (nodeOk_t (by decide) (by decide) (by decide) (by decide))]
  have e : uncTo [a, b, c] (0 : Int).toNat (2 : Int).toNat (2 - (0 : Int).toNat) = [nodeS 0 3 (lvlS 0 [a, b, c] 0), nodeS 1 0 (lvlS 0 [a, b, c] 1)] := rfl
  rw [e, lvl3_1]
  have e1 : nodeS 0 3 (lvlS 0 [a, b, c] 0) = zeroB := by unfold nodeS; rw [if_neg (by show ¬ 3 < [a, b, c].length; simp)]; rfl
  have e2 : nodeS 1 0 [pairS a b, pairS c zeroB] = pairS a b := by unfold nodeS; rw [if_pos (by simp)]; rfl
  rw [e1, e2]
end Go.Proofs.Ytlajgickimgigaa
