import Derived.Test.YtlajgickimgigaaGreatWD
set_option linter.unusedSimpArgs false
set_option linter.unusedVariables false
namespace Go.Proofs.YtlajgickimgigaaGreat
open Go.RowKit

/-! ## What the reference's Add learns, beside what the tree lays -/
def Rel (n : Nat) (M N R : PM) : Prop := ∀ x y, R (x, y) = if y < countN n x then orM N M (x, y) else M (x, y)
theorem rel_none (n : Nat) (M : PM) : Rel n M (fun _ => none) M := fun x y => by split <;> rfl
theorem or_up_hit (N M : PM) (p : Nat × Nat) (s : ByteArray) : orM (upM N p s) M p = some s := by
  unfold orM upM; rw [if_pos rfl]
theorem or_up_miss (N M : PM) {p q : Nat × Nat} (s : ByteArray) (h : ¬ q = p) : orM (upM N p s) M q = orM N M q := by
  unfold orM upM; rw [if_neg h]
theorem rel_up {n : Nat} {M N R : PM} (h : Rel n M N R) (a b : Nat) (s : ByteArray) : Rel n M (upM N (a, b) s) (learnM n R a b s) := fun x y => by
  unfold learnM
  by_cases hb : b < countN n a
  · rw [if_pos hb]
    by_cases e : (x, y) = (a, b)
    · obtain ⟨rfl, rfl⟩ := Prod.mk.inj e
      rw [if_pos hb, or_up_hit]
      show (if (x, y) = (x, y) then some s else R (x, y)) = _
      rw [if_pos rfl]
    · rw [or_up_miss _ _ _ e]
      show (if (x, y) = (a, b) then some s else R (x, y)) = _
      rw [if_neg e]; exact h x y
  · rw [if_neg hb]
    by_cases e : (x, y) = (a, b)
    · obtain ⟨rfl, rfl⟩ := Prod.mk.inj e
      have := h x y
      rw [if_neg hb] at this ⊢; exact this
    · rw [or_up_miss _ _ _ e]; exact h x y
theorem upM_same {N : PM} {p : Nat × Nat} {s : ByteArray} (h : N p = some s) : upM N p s = N := by
  funext q
  unfold upM
  by_cases e : q = p
  · rw [if_pos e, e, h]
  · rw [if_neg e]
theorem low_top {v i t : Nat} {l : List ByteArray} (h : (upN t l).length = 1) : lowM v i l (t + 1) (v + t, i / 2 ^ t) = some ((upN t l).getD 0 ⟨#[]⟩) := by
  show rowM (lowM v i l t) (v + t) (i / 2 ^ t) (upN t l) (upN t l).length _ = _
  rw [h]
  show upM (lowM v i l t) (v + t, i / 2 ^ t + 0) ((upN t l).getD 0 ⟨#[]⟩) _ = _
  unfold upM
  rw [Nat.add_zero, if_pos rfl]
/-- What is laid ahead of a node of the way. -/
def stepN (N0 : PM) (T B : Nat) (t0 : ByteArray) (u : List ByteArray) : Nat → PM
  | 0 => N0
  | k + 1 => upM (pathM N0 T B t0 u k) (T + k, B / 2 ^ k ^^^ 1) (u.getD k ⟨#[]⟩)
theorem step_top {N0 : PM} {T B : Nat} {t0 : ByteArray} {u : List ByteArray} (h : N0 (T, B) = some t0) : ∀ k, upM (stepN N0 T B t0 u k) (T + k, B / 2 ^ k) (topS B t0 u k) = pathM N0 T B t0 u k
  | 0 => by
    rw [Nat.add_zero, Nat.pow_zero, Nat.div_one]
    exact upM_same h
  | k + 1 => rfl
/-- What the reference knows is what the tree knows. -/
def Alike (n h : Nat) (M R : PM) : Prop := ∀ a b, a ≤ h → b < 2 ^ (h - a) → R (a, b) = getT n M a b
theorem alike_new {n h : Nat} {root : ByteArray} : Alike n h (newT h root) (newR n h root) := fun a b ha hb => by
  rw [newR_get]
  have hp := countN_pos n a
  unfold getT newT upM
  by_cases e : a = h ∧ b = 0
  · obtain ⟨rfl, rfl⟩ := e
    rw [if_pos ⟨rfl, rfl⟩, if_neg (by omega), if_pos rfl]
  · rw [if_neg e, if_neg (fun q => e (Prod.mk.inj q))]
    by_cases c : countN n a ≤ b
    · rw [if_pos ⟨ha, c, hb⟩, if_pos c]
    · rw [if_neg (fun q => c q.2.1), if_neg c]
theorem alike_add {n h : Nat} {M N R R' : PM} (hA : Alike n h M R) (hR : Rel n R N R') : Alike n h (orM N M) R' := fun a b ha hb => by
  rw [hR a b]
  have h0 := hA a b ha hb
  unfold getT at *
  by_cases c : countN n a ≤ b
  · rw [if_neg (by omega), if_pos c]; rw [if_pos c] at h0; exact h0
  · rw [if_pos (by omega), if_neg c]; rw [if_neg c] at h0
    unfold orM
    rw [h0]
theorem alike_at {n h : Nat} {M R : PM} {a b : Nat} (hA : Alike n h M R) (ha : a ≤ h) (hb : b < 2 ^ (h - a)) (hc : b < countN n a) : R (a, b) = M (a, b) := by
  rw [hA a b ha hb]; unfold getT; rw [if_neg (by omega)]
theorem alike_get {n h : Nat} {M R : PM} (hA : Alike n h M R) (v i : Int) : getR h R v i = getG n h M v i := by
  unfold getR getG
  by_cases hn : nodeOk h v i = true
  · obtain ⟨o1, o2, o3, o4⟩ := nodeOk_s hn
    rw [if_pos hn, if_pos hn, hA v.toNat i.toNat (by omega) (by omega)]
  · rw [if_neg hn, if_neg hn]
theorem alike_miss {l : List ByteArray} {M R : PM} (hc : checkE l = 0) (hA : Alike l.length (tallN l.length) M R) (v : Int) : missT l.length (tallN l.length) R v = missT l.length (tallN l.length) M v := by
  obtain ⟨h1, h2, h3⟩ := check_spec hc
  unfold missT
  by_cases hv : 0 ≤ v ∧ v ≤ ((tallN l.length : Nat) : Int)
  · rw [if_pos hv, if_pos hv]
    have e : missTo R v.toNat (countN l.length v.toNat) = missTo M v.toNat (countN l.length v.toNat) := by
      unfold missTo
      refine List.filter_congr fun k hk => ?_
      rw [List.mem_range] at hk
      have hcl := count_le (n := l.length) (v := v.toNat) h1 (by omega) (by omega)
      rw [alike_at hA (by omega) (by omega) hk]
    rw [e]
  · rw [if_neg hv, if_neg hv]
theorem alike_give {n h : Nat} {M R : PM} (hh : h ≤ 12) (hA : Alike n h M R) (v i c u : Int) : giveS h (fun a b => R (a, b)) v i c u = giveS h (getT n M) v i c u :=
  give_congr hh (fun a b ha hb => hA a b ha hb) v i c u
/-- Add keeps the root. -/
theorem add_root {h : Nat} {root : ByteArray} {v i : Int} {l u : List ByteArray} {M : PM} (hh : h ≤ 12) (hM : M (h, 0) = some root) (he : addE h root v i l u = 0) : orM (provM v.toNat i.toNat l u) M (h, 0) = some root := by
  unfold addE at he
  split at he
  · unfold provE at he
    split at he
    · rename_i hr
      split at he
      · rename_i hu
        split at he
        · rename_i hm
          obtain ⟨a1, a2, _⟩ := right_nats hh hr
          obtain ⟨V0, rfl⟩ := nat_of a1
          obtain ⟨I0, rfl⟩ := nat_of a2
          obtain ⟨r1, r2, r3, r4, r5, r6, r7, r8, r9, r10⟩ := room hh hr
          simp only [Int.toNat_natCast] at hm ⊢
          have hK : V0 + tallN l.length + u.length = h := by omega
          have hB : I0 / l.length < 2 ^ u.length := by rw [show u.length = h - (V0 + tallN l.length) from by omega]; exact r7
          unfold orM provM
          rw [pathM_get, r8]
          by_cases hk : u.length = 0
          · have hB0 : I0 / l.length = 0 := by rw [hk, Nat.pow_zero] at hB; exact Nat.lt_one_iff.1 hB
            rw [if_neg (by omega), if_neg (by omega)]
            have hl1 : (upN (tallN l.length) l).length = 1 := by rw [upN_len _ (tallN l.length) l r8.symm (Nat.le_refl _), Nat.sub_self]
            have := low_top (v := V0) (i := I0) hl1
            rw [r8, hB0, show V0 + tallN l.length = h from by omega] at this
            rw [this]
            unfold madeS at hm
            rw [hk] at hm
            rw [← hm]; rfl
          · rw [if_pos ⟨by omega, by omega, by rw [show h - (V0 + tallN l.length) = u.length from by omega]; exact (Nat.div_eq_of_lt hB).symm⟩, show h - (V0 + tallN l.length) = u.length from by omega]
            unfold madeS at hm
            rw [r8] at hm
            rw [← hm]
        · omega
      · omega
    · omega
  · omega
end Go.Proofs.YtlajgickimgigaaGreat
