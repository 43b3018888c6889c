import Derived.Test.YtcjmdkklbbollaaI
set_option linter.unusedSimpArgs false
set_option linter.unusedVariables false
namespace Go.Proofs.Ytcjmdkklbbollaa
open Go.RowKit

/-- What Encode answers. -/
def encR (m : M) : List UInt8 × Int := if validP m then (encP m, 0) else ([], 1)

set_option maxRecDepth 20000 in
set_option maxHeartbeats 1000000 in
theorem encode_any (m : M) (w : World) :
    Calls Try.prog 18 #[.agg m.cells] w fun e w' => e = .returned (.tuple #[.string ⟨(encR m).1.toArray⟩, .int .i64 (encR m).2]) ∧ Sub w w' := by
  by_cases hv : validP m = true
  · by_cases hk : m.kind = 1
    · have e : encR m = ([0, 0, 0, 0], 0) := by simp [encR, hv, encP, hk]
      rw [e]
      have hvp := fun w => valid_p m w
      rw [hv] at hvp
      have Hvp := Lib.hid hvp; clear hvp hv e
      obtain ⟨kind, i1, i2, i3, i4, i5, root, data⟩ := m
      simp only at hk
      subst hk
      unfold M.cells at Hvp ⊢
      simp only at Hvp ⊢
      go_enter Try.func18, Try.ntmps18
      go_wp2_with fail
      refine (Hvp.out _).mono ?_
      rintro e w1 ⟨rfl, hb1⟩
      have hc0 : w1.cell? ⟨w.heap.size, 0, none⟩ = some (.int .i64 1) := by rw [((Blk.new w 33 _).sub hb1).cell]; rfl
      go_wp2_with fail
      go_ret2
      exact ⟨rfl, (Sub.al Sub.rfl' _).tr hb1⟩
    · have e : encR m = (encP m, 0) := by simp [encR, hv]
      rw [e]
      exact encode_p m hv hk w
  · have e : encR m = ([], 1) := by simp [encR, hv]
    rw [e]
    have hv' : validP m = false := by simpa using hv
    have hvp := fun w => valid_p m w
    rw [hv'] at hvp
    have Hvp := Lib.hid hvp; clear hvp hv hv' e
    obtain ⟨kind, i1, i2, i3, i4, i5, root, data⟩ := m
    unfold M.cells at Hvp ⊢
    simp only at Hvp ⊢
    go_enter Try.func18, Try.ntmps18
    go_wp2_with fail
    refine (Hvp.out _).mono ?_
    rintro e w1 ⟨rfl, hb1⟩
    go_wp2_with fail
    go_ret2
    exact ⟨rfl, (Sub.al Sub.rfl' _).tr hb1⟩

theorem encR_page : encR ⟨6, 5, 0, 0, 0, 0, ⟨#[]⟩, ⟨#[]⟩⟩ = ([0, 0, 0, 5, 4, 0, 0, 0, 5], 0) := by decide +kernel

set_option maxRecDepth 20000 in
/-- The page's example is known. -/
theorem awake_p (w : World) : Calls Try.prog 10 #[] w fun e w' => e = .returned (.bool true) ∧ Sub w w' := by
  have h := fun w => encode_any ⟨6, 5, 0, 0, 0, 0, ⟨#[]⟩, ⟨#[]⟩⟩ w
  rw [encR_page] at h
  have H := Lib.hid h; clear h
  go_enter Try.func10, Try.ntmps10
  go_wp2_with fail
  refine (H.out _).mono ?_
  rintro e w1 ⟨rfl, hb1⟩
  go_wp2_with fail
  go_ret
  exact ⟨rfl, hb1⟩
end Go.Proofs.Ytcjmdkklbbollaa
