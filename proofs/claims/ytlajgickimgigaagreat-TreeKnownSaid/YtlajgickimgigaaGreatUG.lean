import Derived.Test.YtlajgickimgigaaGreatUF
set_option linter.unusedSimpArgs false
set_option linter.unusedVariables false
namespace Go.Proofs.YtlajgickimgigaaGreat
open Go.RowKit

theorem cl5 : callable Tryz.prog 5 = true := by kernel_rfl
theorem cl21 : callable Tryz.prog 21 = true := by kernel_rfl
theorem cl34 : callable Tryz.prog 34 = true := by kernel_rfl
theorem cl4 : callable Tryz.prog 4 = true := by kernel_rfl
def hgt (n : Int) : Int × Int := if 1 ≤ n ∧ n ≤ 4096 then (((tallN n.toNat : Nat) : Int), 0) else (0, 7)
theorem hgt_eq (n : Int) : heightV n = .tuple #[.int .i64 (hgt n).1, .int .i64 (hgt n).2] := by unfold heightV hgt; split <;> rfl
theorem leavesS_len (s : ByteArray) : (leavesS s).1.length ≤ 65536 := by
  unfold leavesS
  split
  · exact Nat.zero_le _
  · split
    · exact Nat.zero_le _
    · show (leafTo s _).length ≤ _
      rw [leafTo_len]; omega
theorem layerS_len (l : List ByteArray) (v : Int) : (layerS l v).1.length ≤ l.length := by
  unfold layerS
  split
  · split
    · exact lvlS_le _ _ _
    · exact Nat.zero_le _
  · exact Nat.zero_le _
theorem lvlS_add (k : Nat) (l : List ByteArray) (j : Nat) : ∀ i, lvlS (k + j) (lvlS k l j) i = lvlS k l (j + i)
  | 0 => rfl
  | i + 1 => by
    show nextS (k + j + i) (lvlS (k + j) (lvlS k l j) i) = nextS (k + (j + i)) (lvlS k l (j + i))
    rw [lvlS_add k l j i, Nat.add_assoc]
theorem lvlS_digs {l : List ByteArray} (h : digsB l = true) : ∀ j, digsB (lvlS 0 l j) = true
  | 0 => h
  | j + 1 => upS_digs _
/-- FromLayer of each Layer is the root. -/
theorem roots_from {l : List ByteArray} {v : Int} (h : (layerS l v).2 = 0) : fromS (l.length : Int) v (layerS l v).1 = ((rootS l).1, 0) ∧ (rootS l).2 = 0 := by
  have hc : checkE l = 0 := by
    rcases Decidable.em (checkE l = 0) with h1 | h1
    · exact h1
    · unfold layerS at h; rw [if_neg h1] at h; exact absurd h h1
  have hv : 0 ≤ v ∧ v ≤ (tallN l.length : Int) := by
    rcases Decidable.em (0 ≤ v ∧ v ≤ (tallN l.length : Int)) with h1 | h1
    · exact h1
    · unfold layerS at h; rw [if_pos hc, if_neg h1] at h; exact absurd h (by decide)
  obtain ⟨h1, h2, h3⟩ := check_spec hc
  have e : layerS l v = (lvlS 0 l v.toNat, 0) := by unfold layerS; rw [if_pos hc, if_pos hv]
  have er : rootS l = ((lvlS 0 l (tallN l.length)).getD 0 ⟨#[]⟩, 0) := by unfold rootS; rw [if_pos hc]
  have hlen := lvl_count (l := l) h1 v.toNat
  rw [e, er]
  refine ⟨?_, rfl⟩
  show fromS _ _ (lvlS 0 l v.toNat) = _
  unfold fromS
  rw [if_pos (lvlS_digs h3 _), if_pos (range_t (by omega) (by omega) hv.1 (by simp only [Int.toNat_natCast]; exact hv.2)), if_pos (by simp only [Int.toNat_natCast]; omega)]
  simp only [Int.toNat_natCast]
  rw [from_plain h1 (by omega) (by omega) hlen]
  have := lvlS_add 0 l v.toNat (tallN l.length - v.toNat)
  rw [Nat.zero_add, show v.toNat + (tallN l.length - v.toNat) = tallN l.length from by omega] at this
  rw [this]
theorem texts_same (l : List ByteArray) (p q : Option Addr) (c d : Nat) (hm : l.length ≤ 1099511627776) (w : World) (hr1 : Reads w p l.length c 1 (stV l)) (hr2 : Reads w q l.length d 1 (stV l)) : Calls Tryz.prog 21 #[.slice p l.length c, .slice q l.length d] w fun e w' => e = .returned (.bool true) ∧ S w' [Old w no] := by
  have := texts_l l l p q l.length c l.length d rfl rfl hm w hr1 hr2
  rw [decide_eq_true rfl] at this; exact this
end Go.Proofs.YtlajgickimgigaaGreat
