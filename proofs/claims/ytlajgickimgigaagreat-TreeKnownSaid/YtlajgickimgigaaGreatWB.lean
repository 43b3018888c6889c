import Derived.Test.YtlajgickimgigaaGreatWA
set_option linter.unusedSimpArgs false
set_option linter.unusedVariables false
namespace Go.Proofs.YtlajgickimgigaaGreat
open Go.RowKit

/-! ## What Give gives -/
abbrev GT := Nat → Nat → Option ByteArray
def gotN (G : GT) (V I k : Nat) : List ByteArray := (List.range k).map fun j => (G V (I + j)).getD ⟨#[]⟩
def uncN (G : GT) (A B k : Nat) : List ByteArray := (List.range k).map fun j => (G (A + j) (B / 2 ^ j ^^^ 1)).getD ⟨#[]⟩
theorem gotN_next (G : GT) (V I k : Nat) : gotN G V I (k + 1) = gotN G V I k ++ [(G V (I + k)).getD ⟨#[]⟩] := by unfold gotN; simp [List.range_succ]
theorem gotN_len (G : GT) (V I k : Nat) : (gotN G V I k).length = k := by unfold gotN; simp
theorem uncN_next (G : GT) (A B k : Nat) : uncN G A B (k + 1) = uncN G A B k ++ [(G (A + k) (B / 2 ^ k ^^^ 1)).getD ⟨#[]⟩] := by unfold uncN; simp [List.range_succ]
theorem uncN_len (G : GT) (A B k : Nat) : (uncN G A B k).length = k := by unfold uncN; simp
def GiveOk (h : Nat) (v i c u : Int) : Prop := rightB h v i c = true ∧ 0 ≤ u ∧ v + ((tallN c.toNat : Nat) : Int) + u ≤ (h : Int)
instance (h : Nat) (v i c u : Int) : Decidable (GiveOk h v i c u) := by unfold GiveOk; infer_instance
def Has (G : GT) (v i c u : Int) : Prop := (∀ j, j < c.toNat → (G v.toNat (i.toNat + j)).isSome = true) ∧ ∀ j, j < u.toNat → (G (v.toNat + tallN c.toNat + j) (i.toNat / c.toNat / 2 ^ j ^^^ 1)).isSome = true
instance (G : GT) (v i c u : Int) : Decidable (Has G v i c u) := by unfold Has; infer_instance
def giveS (h : Nat) (G : GT) (v i c u : Int) : List ByteArray × List ByteArray × Int :=
  if GiveOk h v i c u then (if Has G v i c u then (gotN G v.toNat i.toNat c.toNat, uncN G (v.toNat + tallN c.toNat) (i.toNat / c.toNat) u.toNat, 0) else ([], [], 8)) else ([], [], 7)
theorem give_no {h : Nat} {G : GT} {v i c u : Int} (hn : ¬ GiveOk h v i c u) : giveS h G v i c u = ([], [], 7) := if_neg hn
theorem give_miss {h : Nat} {G : GT} {v i c u : Int} (hy : GiveOk h v i c u) (hn : ¬ Has G v i c u) : giveS h G v i c u = ([], [], 8) := by unfold giveS; rw [if_pos hy, if_neg hn]
theorem give_ok {h : Nat} {G : GT} {v i c u : Int} (hy : GiveOk h v i c u) (hn : Has G v i c u) : giveS h G v i c u = (gotN G v.toNat i.toNat c.toNat, uncN G (v.toNat + tallN c.toNat) (i.toNat / c.toNat) u.toNat, 0) := by unfold giveS; rw [if_pos hy, if_pos hn]
theorem has_next {P : Nat → Prop} {k : Nat} (h : ∀ j, j < k → P j) (hk : P k) : ∀ j, j < k + 1 → P j := fun j hj => by
  rcases Nat.lt_succ_iff_lt_or_eq.1 hj with h1 | h1
  · exact h j h1
  · rw [h1]; exact hk
theorem no_has {b : Bool} (h : b = false) (h2 : b = true) : False := by rw [h] at h2; cases h2
theorem xor_le (b : Nat) : b ^^^ 1 ≤ b + 1 := by rcases sib_cases b with ⟨_, h⟩ | ⟨_, h⟩ <;> omega
theorem xor_lt {b t : Nat} (h : b < 2 ^ t) (ht : 0 < t) : b ^^^ 1 < 2 ^ t := by
  obtain ⟨s, rfl⟩ : ∃ s, t = s + 1 := ⟨t - 1, by omega⟩
  rw [Nat.pow_succ] at *
  rcases sib_cases b with ⟨_, h⟩ | ⟨_, h⟩ <;> omega
theorem room {h V0 I0 C0 : Nat} (ht : h ≤ 12) (hr : rightB h (V0 : Int) (I0 : Int) (C0 : Int) = true) : I0 + C0 ≤ 2 ^ (h - V0) ∧ 2 ^ (h - V0) ≤ 4096 ∧ V0 ≤ h ∧ 1 ≤ C0 ∧ tallN C0 ≤ 12 ∧ V0 + tallN C0 ≤ h ∧ I0 / C0 < 2 ^ (h - (V0 + tallN C0)) ∧ 2 ^ tallN C0 = C0 ∧ powerV (C0 : Int) = ((tallN C0 : Nat) : Int) ∧ I0 = I0 / C0 * C0 := by
  obtain ⟨o0, r1, _, r3, r4, r5, r6, r7, r8⟩ := right_s ht hr
  obtain ⟨o1, o2, o3, o4⟩ := nodeOk_s o0
  simp only [Int.toNat_natCast] at r3 r5 r6 r8 o4
  have h12 : 2 ^ (h - V0) ≤ 2 ^ 12 := Nat.pow_le_pow_right (by omega) (by omega)
  have hpow : 2 ^ (h - V0) = C0 * 2 ^ (h - V0 - tallN C0) := by
    conv => lhs; rw [show h - V0 = tallN C0 + (h - V0 - tallN C0) from by omega, Nat.pow_add, r5]
  have hq : I0 / C0 < 2 ^ (h - V0 - tallN C0) := Nat.div_lt_of_lt_mul (by rw [← hpow]; omega)
  have hi2 : I0 = C0 * (I0 / C0) := by
    have h5 : ((I0 % C0 : Nat) : Int) = 0 := by rw [← r4]; exact Int.natCast_emod I0 C0
    have := Nat.div_add_mod I0 C0; omega
  refine ⟨?_, by omega, by omega, by omega, tall_le12 (by omega), by omega, by rw [show h - (V0 + tallN C0) = h - V0 - tallN C0 from by omega]; exact hq, r5, r8, by rw [Nat.mul_comm]; exact hi2⟩
  rw [hpow]
  calc I0 + C0 = C0 * (I0 / C0 + 1) := by rw [Nat.mul_add, Nat.mul_one, ← hi2]
    _ ≤ _ := Nat.mul_le_mul_left _ (by omega)
theorem nat_of {x : Int} (h : 0 ≤ x) : ∃ X : Nat, x = (X : Int) := ⟨x.toNat, by omega⟩
theorem right_nats {h : Nat} {v i c : Int} (hh : h ≤ 12) (hr : rightB h v i c = true) : 0 ≤ v ∧ 0 ≤ i ∧ 0 ≤ c := by
  obtain ⟨o0, r1, _⟩ := right_s hh hr
  obtain ⟨o1, o2, o3, o4⟩ := nodeOk_s o0
  exact ⟨o1, o3, by omega⟩
theorem giveOk_n {h V0 I0 C0 U0 : Nat} (hr : rightB h (V0 : Int) (I0 : Int) (C0 : Int) = true) (hu : V0 + tallN C0 + U0 ≤ h) : GiveOk h (V0 : Int) (I0 : Int) (C0 : Int) (U0 : Int) := ⟨hr, by omega, by rw [Int.toNat_natCast]; omega⟩
/-- Give asks for nodes of the tree alone. -/
theorem give_congr {h : Nat} {G G' : GT} (hh : h ≤ 12) (hG : ∀ a b, a ≤ h → b < 2 ^ (h - a) → G a b = G' a b) (v i c u : Int) : giveS h G v i c u = giveS h G' v i c u := by
  by_cases hy : GiveOk h v i c u
  · obtain ⟨h1, h2, h3⟩ := hy
    obtain ⟨a1, a2, a3⟩ := right_nats hh h1
    obtain ⟨V0, rfl⟩ := nat_of a1
    obtain ⟨I0, rfl⟩ := nat_of a2
    obtain ⟨C0, rfl⟩ := nat_of a3
    obtain ⟨U0, rfl⟩ := nat_of h2
    rw [Int.toNat_natCast] at h3
    obtain ⟨r1, r2, r3, r4, r5, r6, r7, r8, r9, r10⟩ := room hh h1
    have e1 : ∀ j, j < C0 → G V0 (I0 + j) = G' V0 (I0 + j) := fun j hj => hG _ _ r3 (by omega)
    have e2 : ∀ j, j < U0 → G (V0 + tallN C0 + j) (I0 / C0 / 2 ^ j ^^^ 1) = G' (V0 + tallN C0 + j) (I0 / C0 / 2 ^ j ^^^ 1) := fun j hj => hG _ _ (by omega) (xor_lt (by rw [show h - (V0 + tallN C0 + j) = h - (V0 + tallN C0) - j from by omega]; exact div_pow_lt (by omega) r7) (by omega))
    have e3 : gotN G V0 I0 C0 = gotN G' V0 I0 C0 := by
      unfold gotN
      refine List.map_congr_left fun j hj => ?_
      rw [List.mem_range] at hj
      rw [e1 j hj]
    have e4 : uncN G (V0 + tallN C0) (I0 / C0) U0 = uncN G' (V0 + tallN C0) (I0 / C0) U0 := by
      unfold uncN
      refine List.map_congr_left fun j hj => ?_
      rw [List.mem_range] at hj
      rw [e2 j hj]
    have e5 : Has G (V0 : Int) (I0 : Int) (C0 : Int) (U0 : Int) ↔ Has G' (V0 : Int) (I0 : Int) (C0 : Int) (U0 : Int) := by
      unfold Has
      simp only [Int.toNat_natCast]
      constructor
      · rintro ⟨h4, h5⟩
        exact ⟨fun j hj => by rw [← e1 j hj]; exact h4 j hj, fun j hj => by rw [← e2 j hj]; exact h5 j hj⟩
      · rintro ⟨h4, h5⟩
        exact ⟨fun j hj => by rw [e1 j hj]; exact h4 j hj, fun j hj => by rw [e2 j hj]; exact h5 j hj⟩
    by_cases hH : Has G (V0 : Int) (I0 : Int) (C0 : Int) (U0 : Int)
    · rw [give_ok ⟨h1, h2, by rw [Int.toNat_natCast]; exact h3⟩ hH, give_ok ⟨h1, h2, by rw [Int.toNat_natCast]; exact h3⟩ (e5.1 hH)]
      simp only [Int.toNat_natCast]
      rw [e3, e4]
    · rw [give_miss ⟨h1, h2, by rw [Int.toNat_natCast]; exact h3⟩ hH, give_miss ⟨h1, h2, by rw [Int.toNat_natCast]; exact h3⟩ (fun hq => hH (e5.2 hq))]
  · rw [give_no hy, give_no hy]
theorem give_len {h : Nat} {G : GT} {v i c u : Int} (hh : h ≤ 12) : (giveS h G v i c u).1.length ≤ 4096 ∧ (giveS h G v i c u).2.1.length ≤ 4096 := by
  by_cases hy : GiveOk h v i c u
  · by_cases hH : Has G v i c u
    · rw [give_ok hy hH]
      show (gotN _ _ _ _).length ≤ _ ∧ (uncN _ _ _ _).length ≤ _
      rw [gotN_len, uncN_len]
      obtain ⟨h1, h2, h3⟩ := hy
      obtain ⟨a1, a2, a3⟩ := right_nats hh h1
      obtain ⟨_, _, _, _, _, _, _, r7, _⟩ := right_s hh h1
      omega
    · rw [give_miss hy hH]; exact ⟨Nat.zero_le _, Nat.zero_le _⟩
  · rw [give_no hy]; exact ⟨Nat.zero_le _, Nat.zero_le _⟩
theorem sib_x (i : Nat) (hi : i ≤ 1099511627776) (w : World) : Calls Tryz.prog 54 #[.int .i64 (i : Int)] w fun e w' => e = .returned (.int .i64 ((i ^^^ 1 : Nat) : Int)) ∧ S w' [Old w no] := by
  have := sib_r i hi w
  rw [sib_xor] at this; exact this
end Go.Proofs.YtlajgickimgigaaGreat
