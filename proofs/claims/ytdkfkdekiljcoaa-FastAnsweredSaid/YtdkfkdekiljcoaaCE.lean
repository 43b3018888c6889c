import Derived.Test.YtdkfkdekiljcoaaAK
import Derived.Test.YtdkfkdekiljcoaaFk
import Derived.Test.YtdkfkdekiljcoaaEd
set_option linter.unusedSimpArgs false
set_option linter.unusedVariables false
namespace Go.Proofs.Ytdkfkdekiljcoaa
open Go.RowKit
theorem ifc20 : Try.prog.underlying 20 = some (.interface (Try.prog.methodsAt 20)) := by kernel_rfl
theorem inf5 : infO Try.prog 5 = some (some (.int .u8 0), 1, 1) := by kernel_rfl
theorem sz28 : szO Try.prog 28 = some 1 := by kernel_rfl
theorem sz5 : szO Try.prog 5 = some 1 := by kernel_rfl
theorem ze28 : zeO Try.prog 28 = some (.int .i64 0) := by kernel_rfl
/-! ## Fields of bits -/
def longN (n : Nat) : Nat := (n + 7) / 8
/-- A bit of a text. -/
def bitA (s : ByteArray) (i : Nat) : Bool := decide (bt' s (i / 8) / 2 ^ (7 - i % 8) % 2 = 1)
/-- The first bit behind n that is set. -/
def firstBad (m : Nat) (s : ByteArray) : Option Nat := (List.range (8 * longN m)).find? (fun i => decide (m ≤ i) && bitA s i)
def wrongN (m : Nat) (s : ByteArray) : Int × Int :=
  if s.size = longN m then match firstBad m s with | some i => ((i : Int), 12) | none => (-1, 0)
  else (min (s.size : Int) (longN m : Int), 11)
def rightB (n : Int) : Bool := decide (0 ≤ n) && decide (n ≤ 4096)
def wrongS (n : Int) (s : ByteArray) : Int × Int := if rightB n = true then wrongN n.toNat s else (0, 7)
def validF (n : Int) (s : ByteArray) : Bool := decide ((wrongS n s).2 = 0)
theorem wrongN_bad {m : Nat} {s : ByteArray} {i : Nat} (hs : s.size = longN m) (h : ∀ j, m ≤ j → j < i → bitA s j = false) (hi : m ≤ i) (hl : i < 8 * longN m) (hb : bitA s i = true) : wrongN m s = ((i : Int), 12) := by
  have : firstBad m s = some i := by
    unfold firstBad
    refine List.find?_eq_some_iff_getElem.2 ⟨by simp [hb, hi], i, by simpa using hl, by simp, fun j hj => ?_⟩
    simp only [List.getElem_range, Bool.not_and, Bool.or_eq_true, Bool.not_eq_true', decide_eq_false_iff_not]
    by_cases hm : m ≤ j
    · right; exact h j hm hj
    · left; exact hm
  unfold wrongN
  rw [if_pos hs, this]
theorem wrongN_ok {m : Nat} {s : ByteArray} (hs : s.size = longN m) (h : ∀ j, m ≤ j → j < 8 * longN m → bitA s j = false) : wrongN m s = (-1, 0) := by
  have : firstBad m s = none := by
    unfold firstBad
    refine List.find?_eq_none.2 fun j hj => ?_
    rw [List.mem_range] at hj
    simp only [Bool.and_eq_true, decide_eq_true_eq, not_and, Bool.not_eq_true]
    exact fun hm => h j hm hj
  unfold wrongN
  rw [if_pos hs, this]
theorem wrongN_size {m : Nat} {s : ByteArray} (hs : ¬ s.size = longN m) : wrongN m s = (min (s.size : Int) (longN m : Int), 11) := by
  unfold wrongN; rw [if_neg hs]
theorem noBit_next {s : ByteArray} {m i : Nat} (h : ∀ j, m ≤ j → j < i → bitA s j = false) (hb : bitA s i = false) : ∀ j, m ≤ j → j < i + 1 → bitA s j = false := fun j h1 h2 => by
  rcases Nat.lt_succ_iff_lt_or_eq.1 h2 with h3 | rfl
  · exact h j h1 h3
  · exact hb
/-! A row of bytes. -/
def nbV (b : List Nat) : Array Value := (b.map (fun (x : Nat) => Value.int .u8 (x : Int))).toArray
theorem nbV_at {b : List Nat} {i : Nat} (h : i < b.length) : (nbV b)[i]? = some (.int .u8 ((b.getD i 0 : Nat) : Int)) := by
  unfold nbV
  simp [List.getD, h]
theorem nbV_set (b : List Nat) (i x : Nat) : (nbV b).setIfInBounds i (.int .u8 (x : Int)) = nbV (b.set i x) := by
  unfold nbV
  apply Array.ext'
  simp [List.map_set]
theorem nbV_size (b : List Nat) : (nbV b).size = b.length := by unfold nbV; simp
theorem nbV_zero (n : Nat) : Array.replicate n (Value.int .u8 0) = nbV (List.replicate n 0) := by
  unfold nbV
  apply Array.ext'
  simp
/-- The text of a row of bytes. -/
def nbS (b : List Nat) : ByteArray := ⟨(b.map UInt8.ofNat).toArray⟩
/-- A step of a field: a bit comes behind. -/
def fldStep (l : List Bool) (b : List Nat) (i : Nat) : List Nat :=
  let c := b.set (i / 8) (2 * b.getD (i / 8) 0 % 256)
  if l.getD i false = true then c.set (i / 8) ((c.getD (i / 8) 0 + 1) % 256) else c
def fldAt (l : List Bool) : Nat → List Nat
  | 0 => List.replicate (longN l.length) 0
  | i + 1 => fldStep l (fldAt l i) i
def fieldS (l : List Bool) : ByteArray := nbS (fldAt l (8 * longN l.length))
theorem fldStep_len (l : List Bool) (b : List Nat) (i : Nat) : (fldStep l b i).length = b.length := by
  unfold fldStep; split <;> simp
theorem fldAt_len (l : List Bool) : ∀ i, (fldAt l i).length = longN l.length
  | 0 => by simp [fldAt]
  | i + 1 => by rw [fldAt, fldStep_len, fldAt_len l i]
theorem fldStep_lt {l : List Bool} {b : List Nat} {i : Nat} (h : ∀ x ∈ b, x < 256) : ∀ x ∈ fldStep l b i, x < 256 := by
  unfold fldStep
  have h1 : ∀ x ∈ b.set (i / 8) (2 * b.getD (i / 8) 0 % 256), x < 256 := fun x hx => by
    rcases List.mem_or_eq_of_mem_set hx with hx | rfl
    · exact h x hx
    · exact Nat.mod_lt _ (by omega)
  split
  · intro x hx
    rcases List.mem_or_eq_of_mem_set hx with hx | rfl
    · exact h1 x hx
    · exact Nat.mod_lt _ (by omega)
  · exact h1
theorem fldAt_lt (l : List Bool) : ∀ i, ∀ x ∈ fldAt l i, x < 256
  | 0 => fun x hx => by rw [fldAt] at hx; have := List.eq_of_mem_replicate hx; omega
  | i + 1 => by rw [fldAt]; exact fldStep_lt (fldAt_lt l i)
theorem getD_lt {b : List Nat} (h : ∀ x ∈ b, x < 256) (i : Nat) : b.getD i 0 < 256 := by
  rw [List.getD_eq_getElem?_getD]
  cases hq : b[i]? with
  | none => show (0 : Nat) < 256; omega
  | some x => exact h x (List.mem_of_getElem? hq)
/-- Setting a bit of a row. -/
def bitStep (b : List Nat) (i : Nat) : List Nat := b.set (i / 8) (b.getD (i / 8) 0 ||| 128 / 2 ^ (i % 8))
def fullAt (n : Nat) : Nat → List Nat
  | 0 => List.replicate (longN n) 0
  | i + 1 => bitStep (fullAt n i) i
theorem fullAt_len (n : Nat) : ∀ i, (fullAt n i).length = longN n
  | 0 => by simp [fullAt]
  | i + 1 => by rw [fullAt, bitStep, List.length_set, fullAt_len n i]
theorem bitStep_lt {b : List Nat} (h : ∀ x ∈ b, x < 256) (i : Nat) : ∀ x ∈ bitStep b i, x < 256 := fun x hx => by
  rcases List.mem_or_eq_of_mem_set hx with hx | rfl
  · exact h x hx
  · have h1 := getD_lt h (i / 8)
    have h2 : 128 / 2 ^ (i % 8) ≤ 128 := Nat.div_le_self _ _
    exact Nat.or_lt_two_pow (n := 8) (by omega) (by omega)
theorem fullAt_lt (n : Nat) : ∀ i, ∀ x ∈ fullAt n i, x < 256
  | 0 => fun x hx => by rw [fullAt] at hx; have := List.eq_of_mem_replicate hx; omega
  | i + 1 => by rw [fullAt]; exact bitStep_lt (fullAt_lt n i) i
def newS (n : Int) : ByteArray × Int := if rightB n = true then (nbS (List.replicate (longN n.toNat) 0), 0) else (⟨#[]⟩, 7)
def fullS (n : Int) : ByteArray × Int := if rightB n = true then (nbS (fullAt n.toNat n.toNat), 0) else (⟨#[]⟩, 7)
end Go.Proofs.Ytdkfkdekiljcoaa
namespace Go.Proofs.Ytdkfkdekiljcoaa
open Go.RowKit

theorem rightB_nat {m : Nat} (h : m ≤ 4096) : rightB (m : Int) = true := by unfold rightB; simp; omega
def checkS (n : Int) (s : ByteArray) : Int := if rightB n = true then (if validF n s = true then 0 else 1) else 7
end Go.Proofs.Ytdkfkdekiljcoaa
namespace Go.Proofs.Ytdkfkdekiljcoaa
open Go.RowKit

theorem cl41 : callable Try.prog 41 = true := by kernel_rfl
theorem cl70 : callable Try.prog 70 = true := by kernel_rfl
theorem sz69 : szO Try.prog 69 = some 2 := by kernel_rfl
theorem ze69 : zeO Try.prog 69 = some (.agg #[.int .i64 0, .slice none 0 0]) := by kernel_rfl
set_option maxRecDepth 20000 in
set_option maxHeartbeats 4000000 in
theorem fail_p (b : Bool) (n : Int) (hb : b = true) (w : World) : Calls Try.prog 38 #[.bool b, .int .i64 n] w fun e w' => e = .panicked [{ v := .iface 83 (.int .i64 n), recovered := false }] ∧ S w' [Old w no] := by
 have H0 := S.old w
 refine enter 7 Try.func38 rfl rfl rfl ?_
 refine g_weak [(0, .bool b), (1, .int .i64 n)] ⟨rfl, rfl, trivial⟩ ?_
 refine w_s ?_
 refine w_m ?_
 refine w_e ?_
 refine g_cond_t rfl hb ?_
 refine g_region ?_
 refine w_m ?_
 refine w_v (v := .iface 83 (.int .i64 n)) (x_makeInterface rfl rfl Try.underlying83 rfl) ?_
 refine l_of (s_panic (wt0 rfl) (xp_panic rfl rfl) ?_)
 refine fin_panic ?_
 exact ⟨rfl, H0.mask [true]⟩
set_option maxRecDepth 20000 in
set_option maxHeartbeats 4000000 in
theorem fail_r (b : Bool) (n : Int) (hb : b = false) (w : World) : Calls Try.prog 38 #[.bool b, .int .i64 n] w fun e w' => e = .returned (.tuple #[]) ∧ S w' [Old w no] := by
 have H0 := S.old w
 refine enter 7 Try.func38 rfl rfl rfl ?_
 refine g_weak [(0, .bool b), (1, .int .i64 n)] ⟨rfl, rfl, trivial⟩ ?_
 refine w_s ?_
 refine w_m ?_
 refine w_e ?_
 refine g_cond_f rfl hb ?_
 refine g_skip ?_
 refine fin_end [] [] rfl trivial ?_
 exact ⟨rfl, H0.mask [true]⟩
set_option maxRecDepth 20000 in
set_option maxHeartbeats 4000000 in
theorem has_b (m gb n c i b : Nat) (w : World) (hb : b < 256) (hi : i / 8 < n) (hi2 : i ≤ 1099511627776) (hc : w.cell? ⟨gb, i / 8, none⟩ = some (.int .u8 ((b : Nat) : Int))) : Calls Try.prog 70 #[.agg #[.int .i64 ((m : Int)), .slice (some ⟨gb, 0, none⟩) (n) (c)], .int .i64 ((i : Int))] w fun e w' => e = .returned (.bool (decide (b / 2 ^ (7 - i % 8) % 2 = 1))) ∧ S w' [Old w no] := by
 have H0 := S.old w
 refine enter 17 Try.func70 rfl rfl rfl ?_
 refine g_weak [(0, .agg #[.int .i64 ((m : Int)), .slice (some ⟨gb, 0, none⟩) (n) (c)]), (1, .int .i64 ((i : Int)))] ⟨rfl, rfl, trivial⟩ ?_
 refine w_s ?_
 refine l_of (s_box H0 (wt0 rfl) rfl rfl rfl rfl ?_)
 intro g1 wq2 H3
 refine w_a ?_
 refine w_e ?_
 refine w_s ?_
 refine w_f 1 ?_
 refine w_1 H3 0 ?_
 refine w_m ?_
 refine w_b (v := .int .i64 (((i / 8 : Nat) : Int))) (hb := (b_quoN (a := i) (b := 8) (by omega))) ?_
 refine w_v (v := .pointer (some ⟨gb, (i / 8), none⟩)) (x_indexAddr (i / 8) rfl rfl rfl Try.underlying67 sz5 (by omega) (off' := i / 8) (by omega)) ?_
 refine w_v (v := .int .u8 (((b : Nat) : Int))) (x_loadC rfl rfl Try.underlying5 rfl (H3.oldCell (k := 1) rfl hc id)) ?_
 refine w_m ?_
 refine w_b (v := .int .i64 (((i % 8 : Nat) : Int))) (hb := (b_remN (a := i) (b := 8) (by omega))) ?_
 refine w_b (v := .int .i64 (((7 - i % 8 : Nat) : Int))) (hb := (b_subN (a := 7) (b := i % 8) (by omega))) ?_
 refine w_b (v := .int .u8 (((b / 2 ^ (7 - i % 8) : Nat) : Int))) (hb := (b_shrN (a := b) (n := 7 - i % 8) (by show 7 - i % 8 ≤ 8; omega))) ?_
 refine w_b (v := .int .u8 (((b / 2 ^ (7 - i % 8) % 2 : Nat) : Int))) (hb := (b_and1 (a := b / 2 ^ (7 - i % 8)) (by have := Nat.div_le_self b (2 ^ (7 - i % 8)); omega))) ?_
 refine w_b ?_
 refine w_a ?_
 refine w_e ?_
 refine g_weak [(4, .bool (decide (((b / 2 ^ (7 - i % 8) % 2 : Nat) : Int) = 1)))] ⟨rfl, trivial⟩ ?_
 refine g_ret ?_
 refine fin_ret [.tmp 4] [.bool (decide (((b / 2 ^ (7 - i % 8) % 2 : Nat) : Int) = 1))] rfl ⟨rfl, trivial⟩ ?_
 have hdd : decide (b / 2 ^ (7 - i % 8) % 2 = 1) = decide (((b / 2 ^ (7 - i % 8) % 2 : Nat) : Int) = 1) := by rw [decide_eq_decide]; omega
 exact ⟨by rw [hdd]; rfl, H3.mask [false, true]⟩
theorem rightB_iff {n : Int} : rightB n = true ↔ 0 ≤ n ∧ n ≤ 4096 := by unfold rightB; simp
set_option maxRecDepth 20000 in
set_option maxHeartbeats 4000000 in
theorem wrong_bo (n : Int) (s : ByteArray) (h : ¬ (0 ≤ n ∧ n ≤ 4096)) (w : World) : Calls Try.prog 41 #[.int .i64 n, .string s] w fun e w' => e = .returned (.tuple #[.int .i64 (wrongS n s).1, .int .i64 (wrongS n s).2]) ∧ S w' [Old w no] := by
 have H0 := S.old w
 refine enter 41 Try.func41 rfl rfl rfl ?_
 refine g_weak [(0, .int .i64 n), (1, .string s)] ⟨rfl, rfl, trivial⟩ ?_
 refine w_s ?_
 refine w_r2 ?_
 refine w_e ?_
 refine g_seq ?_
 refine w_s ?_
 refine w_m ?_
 refine w_b ?_
 refine w_m ?_
 by_cases hb1 : (n : Int) < 0
 ·
  refine w_n (decide_eq_true hb1) ?_
  refine w_n (decide_eq_true hb1) ?_
  refine w_v (v := .bool true) (x_pick_t rfl rfl (decide_eq_true hb1) rfl) ?_
  refine w_e ?_
  refine g_cond_t rfl rfl ?_
  refine w_s ?_
  refine w_r2 ?_
  refine w_e ?_
  refine g_ret ?_
  refine g_then_ret ?_
  refine fin_ret [.tmp 4, .tmp 5] [.int .i64 0, .int .i64 7] rfl ⟨rfl, rfl, trivial⟩ ?_
  exact ⟨by unfold wrongS; rw [if_neg (by rw [rightB_iff]; omega)]; rfl, H0.mask [true]⟩
 ·
  refine w_g (decide_eq_false hb1) xm ?_
  refine w_g (decide_eq_false hb1) (x_bin rfl rfl rfl b_gtr) ?_
  refine w_v (v := .bool (decide ((4096 : Int) < n))) (x_pick_f rfl rfl (decide_eq_false hb1) rfl) ?_
  refine w_e ?_
  refine g_cond_t rfl (decide_eq_true (by omega)) ?_
  refine w_s ?_
  refine w_r2 ?_
  refine w_e ?_
  refine g_ret ?_
  refine g_then_ret ?_
  refine fin_ret [.tmp 4, .tmp 5] [.int .i64 0, .int .i64 7] rfl ⟨rfl, rfl, trivial⟩ ?_
  exact ⟨by unfold wrongS; rw [if_neg (by rw [rightB_iff]; omega)]; rfl, H0.mask [true]⟩
set_option maxRecDepth 20000 in
set_option maxHeartbeats 4000000 in
theorem wrong_bi (m : Nat) (s : ByteArray) (hm : m ≤ 4096) (w : World) : Calls Try.prog 41 #[.int .i64 ((m : Int)), .string s] w fun e w' => e = .returned (.tuple #[.int .i64 (wrongN m s).1, .int .i64 (wrongN m s).2]) ∧ S w' [Old w no] := by
 have H0 := S.old w
 have hlm : longN m ≤ 512 := by unfold longN; omega
 refine enter 41 Try.func41 rfl rfl rfl ?_
 refine g_weak [(0, .int .i64 ((m : Int))), (1, .string s)] ⟨rfl, rfl, trivial⟩ ?_
 refine w_s ?_
 refine w_r2 ?_
 refine w_e ?_
 refine g_seq ?_
 refine w_s ?_
 refine w_m ?_
 refine w_b ?_
 refine w_m ?_
 refine l_of (s_val (v := .int .i64 ((m : Int))) (wt1 rfl rfl rfl rfl (decide_eq_false (by omega))) rfl rfl (x_move rfl rfl) ?_)
 refine l_of (s_val (v := .bool (decide ((4096 : Int) < (m : Int)))) (wt1 rfl rfl rfl rfl (decide_eq_false (by omega))) rfl rfl (x_bin rfl rfl rfl b_gtr) ?_)
 refine w_v (v := .bool (decide ((4096 : Int) < (m : Int)))) (x_pick_f rfl rfl (decide_eq_false (by omega)) rfl) ?_
 refine w_e ?_
 refine g_cond_f rfl (decide_eq_false (by omega)) ?_
 refine g_skip ?_
 refine g_then ?_
 refine w_s ?_
 refine w_m ?_
 refine w_b (v := .int .i64 (((m + 7 : Nat) : Int))) (hb := (b_addN (a := m) (b := 7) (by omega))) ?_
 refine w_b (v := .int .i64 (((longN m : Nat) : Int))) (hb := (b_quoN (a := m + 7) (b := 8) (by omega))) ?_
 refine w_a ?_
 refine w_e ?_
 refine g_seq ?_
 refine w_s ?_
 refine w_m ?_
 refine w_v (v := .int .i64 ((s.size : Int))) (x_lens rfl rfl Try.underlying9) ?_
 refine w_m ?_
 refine w_b (v := .bool (!decide (((s.size : Int) : Int) = ((longN m : Nat) : Int)))) (hb := b_neq) ?_
 refine w_e ?_
 refine g_weak [(0, .int .i64 ((m : Int))), (1, .string s), (6, .int .i64 (((longN m : Nat) : Int))), (21, .bool (!decide (((s.size : Int) : Int) = ((longN m : Nat) : Int))))] ⟨rfl, rfl, rfl, rfl, trivial⟩ ?_
 by_cases hb1 : ((s.size : Int) : Int) = ((longN m : Nat) : Int)
 ·
  refine g_cond_f rfl (nf hb1) ?_
  refine g_skip ?_
  refine g_then ?_
  refine w_s ?_
  refine w_r2 ?_
  refine l_of (s_bytesOf H0 (wt0 rfl) rfl rfl rfl rfl Try.underlying9 Try.underlying67 Try.underlying5 ?_)
  intro g2 c3 fr4 cs5 wq8 H9 hcs6 hcc7
  refine w_v (v := .agg #[.int .i64 ((m : Int)), .slice (some ⟨g2, 0, none⟩) (s.size) (c3)]) (x_build (vs := [.int .i64 ((m : Int)), .slice (some ⟨g2, 0, none⟩) (s.size) (c3)]) rfl rfl (cells := #[.int .i64 ((m : Int)), .slice (some ⟨g2, 0, none⟩) (s.size) (c3)]) (by kernel_rfl)) ?_
  refine l_of (s_alloc H9 (wt0 rfl) rfl rfl rfl ze69 ?_)
  intro g10 wq11 H12
  refine l_of (w_st #[.int .i64 ((m : Int)), .slice (some ⟨g2, 0, none⟩) (s.size) (c3)] H12 0 ?_)
  intro wq13 H14
  refine w_e ?_
  refine g_seq ?_
  refine w_s ?_
  refine w_r2 ?_
  refine w_e ?_
  refine g_block ?_
  refine g_loop (ι := Nat) (fun i => [(6, .int .i64 (((longN m : Nat) : Int))), (7, .pointer (some ⟨g10, 0, none⟩)), (8, .int .i64 ((i : Int)))]) (fun i wx => (m ≤ i) ∧ (i ≤ 8 * longN m) ∧ (∀ j, m ≤ j → j < i → bitA s j = false) ∧ S wx [Ob g10 (.cells #[.int .i64 ((m : Int)), .slice (some ⟨g2, 0, none⟩) (s.size) (c3)] 69 (0, 0)), Ob g2 (.cells cs5 5 fr4), Old w no]) (fun i => 8 * longN m - i) (m) ⟨rfl, rfl, rfl, trivial⟩ ⟨Nat.le_refl _, (by unfold longN; omega), (fun j h1 h2 => by omega), H14⟩ ?_
  rintro i wq15 ⟨hmi, hil, hno, H16⟩
  refine g_weak [(6, .int .i64 (((longN m : Nat) : Int))), (7, .pointer (some ⟨g10, 0, none⟩)), (8, .int .i64 ((i : Int)))] ⟨rfl, rfl, rfl, trivial⟩ ?_
  refine g_seq ?_
  refine w_s ?_
  refine w_r2 ?_
  refine w_b (v := .int .i64 (((8 * longN m : Nat) : Int))) (hb := (b_mulN (a := 8) (b := longN m) (by omega))) ?_
  refine w_b ?_
  refine w_e ?_
  by_cases hb17 : ((i : Int) : Int) < ((8 * longN m : Nat) : Int)
  ·
   refine g_cond_t rfl (decide_eq_true hb17) ?_
   refine g_skip ?_
   refine g_then ?_
   refine g_seq ?_
   refine g_block ?_
   refine w_s ?_
   refine w_v (v := .agg #[.int .i64 ((m : Int)), .slice (some ⟨g2, 0, none⟩) (s.size) (c3)]) (x_loadA H16 0 rfl rfl Try.underlying69 rfl sz69 rfl rfl rfl) ?_
   refine w_m ?_
   have hb8 := bt'_lt s (i / 8)
   refine l_of (s_call0 H16 (wt0 rfl) (x_call' rfl rfl cl70) (has_b m g2 s.size c3 i (bt' s (i / 8)) _ hb8 (by omega) (by omega) (H16.cell (k := 1) rfl (hcs6 (i / 8) (by omega)))) rfl rfl ?_)
   intro wq18 H19
   refine w_e ?_
   rcases Bool.eq_false_or_eq_true (bitA s i) with hb20 | hb20
   ·
    refine g_cond_t rfl hb20 ?_
    refine w_s ?_
    refine w_r3 ?_
    refine w_e ?_
    refine g_ret ?_
    refine g_in_ret ?_
    refine g_then_ret ?_
    refine g_then_ret ?_
    refine g_in_ret ?_
    refine g_then_ret ?_
    refine fin_ret [.tmp 4, .tmp 5] [.int .i64 ((i : Int)), .int .i64 12] rfl ⟨rfl, rfl, trivial⟩ ?_
    exact ⟨by rw [wrongN_bad (by omega) hno hmi (by omega) hb20]; rfl, H19.mask [false, false, true]⟩
   ·
    refine g_cond_f rfl hb20 ?_
    refine g_skip ?_
    refine g_in ?_
    refine g_then ?_
    refine g_region ?_
    refine w_m ?_
    refine w_b (v := .int .i64 ((i : Int) + 1)) (hb := (b_add (w64 (by omega)))) ?_
    refine w_a ?_
    refine w_e ?_
    refine g_round (i := (i)) (i + 1) ?_ ?_ ?_
    · exact ⟨rfl, rfl, rfl, trivial⟩
    · exact ⟨by omega, by omega, (noBit_next hno hb20), H19⟩
    · (try dsimp only); omega
  ·
   refine g_cond_f rfl (decide_eq_false hb17) ?_
   refine g_exit ?_
   refine g_then_exit ?_
   refine g_then_exit ?_
   refine g_in_hit ?_
   refine g_then ?_
   refine w_s ?_
   refine w_r2 ?_
   refine w_e ?_
   refine g_ret ?_
   refine fin_ret [.tmp 4, .tmp 5] [.int .i64 (-1), .int .i64 0] rfl ⟨rfl, rfl, trivial⟩ ?_
   exact ⟨by rw [wrongN_ok (by omega) (fun j h1 h2 => hno j h1 (by omega))]; rfl, H16.mask [false, false, true]⟩
 ·
  refine g_cond_t rfl (nt hb1) ?_
  refine w_s ?_
  refine w_m ?_
  refine w_v (v := .int .i64 ((s.size : Int))) (x_lens rfl rfl Try.underlying9) ?_
  refine w_m ?_
  refine w_v (v := .int .i64 (min (s.size : Int) ((longN m : Nat) : Int))) (x_min rfl rfl rfl) ?_
  refine w_r2 ?_
  refine w_e ?_
  refine g_ret ?_
  refine g_then_ret ?_
  refine fin_ret [.tmp 4, .tmp 5] [.int .i64 (min (s.size : Int) ((longN m : Nat) : Int)), .int .i64 11] rfl ⟨rfl, rfl, trivial⟩ ?_
  exact ⟨by rw [wrongN_size (by omega)]; have hmn : min (s.size : Int) (longN m : Int) = (min (s.size : Int) ((longN m : Nat) : Int)) := (by omega); rw [hmn]; rfl, H0.mask [true]⟩
theorem wrong_b (n : Int) (s : ByteArray) (w : World) : Calls Try.prog 41 #[.int .i64 n, .string s] w fun e w' => e = .returned (.tuple #[.int .i64 (wrongS n s).1, .int .i64 (wrongS n s).2]) ∧ S w' [Old w no] := by
  by_cases h1 : 0 ≤ n ∧ n ≤ 4096
  · obtain ⟨m, rfl⟩ : ∃ m : Nat, n = m := ⟨n.toNat, by omega⟩
    have e : wrongS (m : Int) s = wrongN m s := by unfold wrongS; rw [if_pos (rightB_iff.2 h1), Int.toNat_natCast]
    rw [e]; exact wrong_bi m s (by omega) w
  · exact wrong_bo n s h1 w
set_option maxRecDepth 20000 in
set_option maxHeartbeats 4000000 in
theorem valid_b (n : Int) (s : ByteArray)  (w : World) : Calls Try.prog 34 #[.int .i64 n, .string s] w fun e w' => e = .returned (.bool (validF n s)) ∧ S w' [Old w no] := by
 have H0 := S.old w
 refine enter 15 Try.func34 rfl rfl rfl ?_
 refine g_weak [(0, .int .i64 n), (1, .string s)] ⟨rfl, rfl, trivial⟩ ?_
 refine w_s ?_
 refine w_a ?_
 refine w_e ?_
 refine w_s ?_
 refine w_r2 ?_
 refine l_of (s_call0 H0 (wt0 rfl) (x_call' rfl rfl cl41) (wrong_b _ _ _) rfl rfl ?_)
 intro wq1 H2
 refine w_r5 ?_
 refine w_e ?_
 refine w_s ?_
 refine w_m ?_
 refine w_b ?_
 refine w_a ?_
 refine w_e ?_
 refine g_weak [(4, .bool (decide (((wrongS n s).2 : Int) = 0)))] ⟨rfl, trivial⟩ ?_
 refine g_ret ?_
 refine fin_ret [.tmp 4] [.bool (decide (((wrongS n s).2 : Int) = 0))] rfl ⟨rfl, trivial⟩ ?_
 exact ⟨rfl, H2.mask [true]⟩
end Go.Proofs.Ytdkfkdekiljcoaa
namespace Go.Proofs.Ytdkfkdekiljcoaa
open Go.RowKit

theorem cl26 : callable Try.prog 26 = true := by kernel_rfl
theorem cl27 : callable Try.prog 27 = true := by kernel_rfl
theorem cl73 : callable Try.prog 73 = true := by kernel_rfl
theorem cl38 : callable Try.prog 38 = true := by kernel_rfl
theorem nbV_bytes {b : List Nat} (h : ∀ x ∈ b, x < 256) : (nbV b).toList = bytesV (b.map UInt8.ofNat) := by
  unfold nbV bytesV
  rw [List.map_map]
  refine List.map_congr_left fun x hx => ?_
  have := h x hx
  simp only [Function.comp]
  congr 1
  rw [UInt8.toNat_ofNat']
  omega
theorem zeros_lt (n : Nat) : ∀ x ∈ List.replicate n 0, x < 256 := fun x hx => by have := List.eq_of_mem_replicate hx; omega
set_option maxRecDepth 20000 in
set_option maxHeartbeats 4000000 in
theorem caughtb_p (ge : Nat) (y e0 : Int) (older : List PanicEntry) (w : World) (he : w.heap[ge]? = some (.cells #[.int .i64 e0] 28 (0, 0))) :
  CallsD Try.prog 26 #[.pointer (some ⟨ge, 0, none⟩)] (.panicking ({ v := .iface 83 (.int .i64 y), recovered := false } :: older)) w
   (fun e u' w' => (e = .returned (.tuple #[]) ∧ S w' [Ob ge (.cells #[.int .i64 y] 28 (0, 0)), Old w (fun i => i ∈ [ge])]) ∧ u' = .panicking ({ v := .iface 83 (.int .i64 y), recovered := true } :: older)) := by
 have H0 := S.beginL [(ge, .cells #[.int .i64 e0] 28 (0, 0))] (by intro p hp; rw [List.mem_singleton] at hp; subst hp; exact he) (by simp) (fun i => i ∈ [ge]) (fun i => Iff.rfl)
 refine callsD_rec 19 Try.func26 rfl rfl rfl rfl rfl rfl rfl rfl rfl ?_
 refine g_weak [(0, .pointer (some ⟨ge, 0, none⟩)), (2, .iface 83 (.int .i64 y)), (5, .iface 83 (.int .i64 y))] ⟨rfl, rfl, rfl, trivial⟩ ?_
 refine w_s ?_
 refine w_m ?_
 refine w_b (v := .bool true) (hb := (b_neqHeld ifc20)) ?_
 refine w_e ?_
 refine g_cond_t rfl rfl ?_
 refine w_s ?_
 refine w_m ?_
 refine w_v (v := .tuple #[.int .i64 y, .bool true]) (x_assertOk rfl rfl Try.underlying83 rfl) ?_
 refine w_r5 ?_
 refine w_e ?_
 refine g_seq ?_
 refine w_s ?_
 refine w_m ?_
 refine w_v (v := .bool false) (x_not (b := true) rfl rfl) ?_
 refine w_e ?_
 refine g_cond_f rfl rfl ?_
 refine g_skip ?_
 refine g_then ?_
 refine g_weak [(0, .pointer (some ⟨ge, 0, none⟩)), (3, .int .i64 y)] ⟨rfl, rfl, trivial⟩ ?_
 refine g_region ?_
 refine w_r3 ?_
 refine l_of (w_st #[.int .i64 y] H0 0 ?_)
 intro wq1 H2
 refine g_nil ?_
 refine fin_end [] [] rfl trivial ?_
 exact ⟨⟨rfl, H2.mask [true, true]⟩, rfl⟩
set_option maxHeartbeats 4000000 in
set_option maxRecDepth 20000 in
theorem caughtb_n (ge : Nat) (w : World) : CallsD Try.prog 26 #[.pointer (some ⟨ge, 0, none⟩)] .returning w (fun e u' w' => (e = .returned (.tuple #[]) ∧ S w' [Old w no]) ∧ u' = .returning) := by
 have H0 := S.old w
 refine callsD_rec 19 Try.func26 rfl rfl rfl rfl rfl rfl rfl rfl rfl ?_
 refine g_weak [(0, .pointer (some ⟨ge, 0, none⟩)), (2, .nilIface), (5, .nilIface)] ⟨rfl, rfl, rfl, trivial⟩ ?_
 refine w_s ?_
 refine w_m ?_
 refine w_b (v := .bool false) (hb := (b_neqNil ifc20)) ?_
 refine w_e ?_
 refine g_cond_f rfl rfl ?_
 refine g_skip ?_
 refine fin_end [] [] rfl trivial ?_
 exact ⟨⟨rfl, H0.mask [true]⟩, rfl⟩
set_option maxRecDepth 20000 in
set_option maxHeartbeats 4000000 in
theorem empty_o (n : Int) (h : ¬ (0 ≤ n ∧ n ≤ 4096)) (w : World) : Calls Try.prog 27 #[.int .i64 n] w fun e w' => e = .panicked [{ v := .iface 83 (.int .i64 7), recovered := false }] ∧ S w' [Old w no] := by
 have H0 := S.old w
 refine enter 16 Try.func27 rfl rfl rfl ?_
 refine g_weak [(0, .int .i64 n)] ⟨rfl, trivial⟩ ?_
 refine w_s ?_
 refine l_of (s_alloc H0 (wt0 rfl) rfl rfl rfl ze69 ?_)
 intro g1 wq2 H3
 refine w_e ?_
 refine w_s ?_
 refine w_m ?_
 refine w_b ?_
 refine w_m ?_
 by_cases hb4 : (n : Int) < 0
 ·
  refine w_n (decide_eq_true hb4) ?_
  refine w_n (decide_eq_true hb4) ?_
  refine w_v (v := .bool true) (x_pick_t rfl rfl (decide_eq_true hb4) rfl) ?_
  refine l_of (s_call (wt0 rfl) (x_call' rfl rfl cl38) (fail_p _ _ rfl _) ?_)
  rintro _ wq5 ⟨rfl, H6⟩
  replace H6 : S wq5 [Ob g1 (.cells #[.int .i64 0, .slice none 0 0] 69 (0, 0)), Old w no] := H3.absorb (new := []) H6
  refine b_panic ?_
  refine g_then_panic ?_
  refine fin_panic ?_
  exact ⟨rfl, H6.mask [false, true]⟩
 ·
  refine w_g (decide_eq_false hb4) xm ?_
  refine w_g (decide_eq_false hb4) (x_bin rfl rfl rfl b_gtr) ?_
  refine w_v (v := .bool (decide ((4096 : Int) < n))) (x_pick_f rfl rfl (decide_eq_false hb4) rfl) ?_
  refine l_of (s_call (wt0 rfl) (x_call' rfl rfl cl38) (fail_p _ _ (decide_eq_true (by omega)) _) ?_)
  rintro _ wq7 ⟨rfl, H8⟩
  replace H8 : S wq7 [Ob g1 (.cells #[.int .i64 0, .slice none 0 0] 69 (0, 0)), Old w no] := H3.absorb (new := []) H8
  refine b_panic ?_
  refine g_then_panic ?_
  refine fin_panic ?_
  exact ⟨rfl, H8.mask [false, true]⟩
set_option maxRecDepth 20000 in
set_option maxHeartbeats 4000000 in
theorem empty_i (m : Nat) (hm : m ≤ 4096) (w : World) : Calls Try.prog 27 #[.int .i64 ((m : Int))] w fun e w' => ∃ g, e = .returned (.agg #[.int .i64 (m : Int), .slice (some ⟨g, 0, none⟩) (longN m) (longN m)]) ∧ S w' ([Ob g (.cells (nbV (List.replicate (longN m) 0)) 5 (0, 0))] ++ [Old w no]) := by
 have H0 := S.old w
 have hlm : longN m ≤ 512 := by unfold longN; omega
 refine enter 16 Try.func27 rfl rfl rfl ?_
 refine g_weak [(0, .int .i64 ((m : Int)))] ⟨rfl, trivial⟩ ?_
 refine w_s ?_
 refine l_of (s_alloc H0 (wt0 rfl) rfl rfl rfl ze69 ?_)
 intro g1 wq2 H3
 refine w_e ?_
 refine w_s ?_
 refine w_m ?_
 refine w_b ?_
 refine w_m ?_
 refine l_of (s_val (v := .int .i64 ((m : Int))) (wt1 rfl rfl rfl rfl (decide_eq_false (by omega))) rfl rfl (x_move rfl rfl) ?_)
 refine l_of (s_val (v := .bool (decide ((4096 : Int) < (m : Int)))) (wt1 rfl rfl rfl rfl (decide_eq_false (by omega))) rfl rfl (x_bin rfl rfl rfl b_gtr) ?_)
 refine w_v (v := .bool (decide ((4096 : Int) < (m : Int)))) (x_pick_f rfl rfl (decide_eq_false (by omega)) rfl) ?_
 refine l_of (s_call0 H3 (wt0 rfl) (x_call' rfl rfl cl38) (fail_r _ _ (decide_eq_false (by omega)) _) rfl rfl ?_)
 intro wq4 H5
 refine w_e ?_
 refine w_s ?_
 refine w_r2 ?_
 refine w_b (v := .int .i64 (((m + 7 : Nat) : Int))) (hb := (b_addN (a := m) (b := 7) (by omega))) ?_
 refine w_b (v := .int .i64 (((longN m : Nat) : Int))) (hb := (b_quoN (a := m + 7) (b := 8) (by omega))) ?_
 refine l_of (s_make1 (longN m) H5 (wt0 rfl) rfl rfl rfl rfl rfl Try.underlying67 inf5 rfl (by omega) ?_)
 intro g6 wq7 H8
 rw [nbV_zero] at H8
 replace H8 : S wq7 [Ob g6 (.cells (nbV (List.replicate (longN m) 0)) 5 (0, 0)), Ob g1 (.cells #[.int .i64 0, .slice none 0 0] 69 (0, 0)), Old w no] := H8
 refine w_v (v := .agg #[.int .i64 ((m : Int)), .slice (some ⟨g6, 0, none⟩) (longN m) (longN m)]) (x_build (vs := [.int .i64 ((m : Int)), .slice (some ⟨g6, 0, none⟩) (longN m) (longN m)]) rfl rfl (cells := #[.int .i64 ((m : Int)), .slice (some ⟨g6, 0, none⟩) (longN m) (longN m)]) (by kernel_rfl)) ?_
 refine l_of (w_st #[.int .i64 ((m : Int)), .slice (some ⟨g6, 0, none⟩) (longN m) (longN m)] H8 1 ?_)
 intro wq9 H10
 refine w_e ?_
 refine g_weak [(2, .pointer (some ⟨g1, 0, none⟩))] ⟨rfl, trivial⟩ ?_
 refine g_ret ?_
 refine fin_ret [.cell 2 69] [.agg #[.int .i64 ((m : Int)), .slice (some ⟨g6, 0, none⟩) (longN m) (longN m)]] rfl ⟨⟨_, rfl, run_loadA (H10.ob (k := 1) rfl) Try.underlying69 rfl sz69 rfl rfl⟩, trivial⟩ ?_
 exact ⟨_, rfl, H10.takes [0, 2] (by decide)⟩
set_option maxRecDepth 20000 in
set_option maxHeartbeats 4000000 in
theorem new_b_o (n : Int) (h : ¬ (0 ≤ n ∧ n ≤ 4096)) (w : World) : Calls Try.prog 19 #[.int .i64 n] w fun e w' => e = .returned (.tuple #[.string (newS n).1, .int .i64 (newS n).2]) ∧ S w' [Old w no] := by
 have H0 := S.old w
 refine enter_d 8 Try.func19 rfl rfl rfl ?_
 refine g_weak [(0, .int .i64 n)] ⟨rfl, trivial⟩ ?_
 refine w_s ?_
 refine w_a ?_
 refine l_of (s_alloc H0 (wt0 rfl) rfl rfl rfl ze28 ?_)
 intro g1 wq2 H3
 refine w_e ?_
 refine w_s ?_
 refine l_of (s_defer (wt0 rfl) rfl (xd_defer rfl rfl rfl) ?_)
 refine w_e ?_
 refine w_s ?_
 refine w_m ?_
 refine l_of (s_call (wt0 rfl) (x_call' rfl rfl cl27) (empty_o n h _) ?_)
 rintro _ wq4 ⟨rfl, H5⟩
 replace H5 : S wq4 [Ob g1 (.cells #[.int .i64 0] 28 (0, 0)), Old w no] := H3.absorb (new := []) H5
 refine b_panic ?_
 refine g_then_panic ?_
 refine fin_dpanic ?_
 refine gl_step (by simp) cl26 (caughtb_p g1 7 (0) [] _ (H5.ob (k := 0) rfl)) ?_
 rintro _ _ wq6 ⟨⟨rfl, H7⟩, rfl⟩
 replace H7 : S wq6 [Ob g1 (.cells #[.int .i64 7] 28 (0, 0)), Old w no] := H5.absorbK (new := [Ob g1 (.cells #[.int .i64 7] 28 (0, 0))]) [0] (by intro g hg; rw [List.mem_singleton] at hg; subst hg; exact ⟨0, rfl, _, rfl, rfl⟩) H7
 refine (?_ : GL _ _ _ _ _ _ FrameMode.returning _)
 refine gl_ret [.tmp 2, .cell 3 28] [.string (⟨#[]⟩), .int .i64 7] rfl ⟨rfl, ⟨_, rfl, run_load1 Try.underlying28 rfl (H7.cell (k := 0) rfl rfl)⟩, trivial⟩ ?_
 exact ⟨by unfold newS; rw [if_neg (by rw [rightB_iff]; exact h)]; rfl, H7.mask [false, true]⟩
set_option maxRecDepth 20000 in
set_option maxHeartbeats 4000000 in
theorem new_b_i (m : Nat) (hm : m ≤ 4096) (w : World) : Calls Try.prog 19 #[.int .i64 ((m : Int))] w fun e w' => e = .returned (.tuple #[.string (nbS (List.replicate (longN m) 0)), .int .i64 0]) ∧ S w' [Old w no] := by
 have H0 := S.old w
 have hlm : longN m ≤ 512 := by unfold longN; omega
 refine enter_d 8 Try.func19 rfl rfl rfl ?_
 refine g_weak [(0, .int .i64 ((m : Int)))] ⟨rfl, trivial⟩ ?_
 refine w_s ?_
 refine w_a ?_
 refine l_of (s_alloc H0 (wt0 rfl) rfl rfl rfl ze28 ?_)
 intro g1 wq2 H3
 refine w_e ?_
 refine w_s ?_
 refine l_of (s_defer (wt0 rfl) rfl (xd_defer rfl rfl rfl) ?_)
 refine w_e ?_
 refine w_s ?_
 refine w_m ?_
 refine l_of (s_call (wt0 rfl) (x_call' rfl rfl cl27) (empty_i m hm _) ?_)
 rintro _ wq4 ⟨g6, rfl, H5⟩
 replace H5 : S wq4 [Ob g6 (.cells (nbV (List.replicate (longN m) 0)) 5 (0, 0)), Ob g1 (.cells #[.int .i64 0] 28 (0, 0)), Old w no] := H3.absorb (new := [Ob g6 (.cells (nbV (List.replicate (longN m) 0)) 5 (0, 0))]) H5
 refine b_ret rfl rfl ?_
 refine w_v (v := .slice (some ⟨g6, 0, none⟩) (longN m) (longN m)) (x_field (n := 0) (m := 0) rfl rfl Try.underlying69 rfl (run_part1 Try.underlying67 rfl rfl)) ?_
 refine w_v (v := .string ((nbS (List.replicate (longN m) 0)))) (x_bytes (l := ((List.replicate (longN m) 0)).map UInt8.ofNat) rfl rfl Try.underlying67 Try.underlying9 Try.underlying5 (by simp) (hc_ob (k := 0) H5 rfl (nbV_bytes (zeros_lt _)))) ?_
 refine w_a ?_
 refine l_of (w_st #[.int .i64 0] H5 1 ?_)
 intro wq7 H8
 refine w_e ?_
 refine g_ret ?_
 refine fin_dret ?_
 refine gl_step (by simp) cl26 (caughtb_n g1 _) ?_
 rintro _ _ wq9 ⟨⟨rfl, H10⟩, rfl⟩
 replace H10 : S wq9 [Ob g6 (.cells (nbV (List.replicate (longN m) 0)) 5 (0, 0)), Ob g1 (.cells #[.int .i64 0] 28 (0, 0)), Old w no] := H8.absorb (new := []) H10
 refine (?_ : GL _ _ _ _ _ _ FrameMode.returning _)
 refine gl_ret [.tmp 2, .cell 3 28] [.string ((nbS (List.replicate (longN m) 0))), .int .i64 0] rfl ⟨rfl, ⟨_, rfl, run_load1 Try.underlying28 rfl (H10.cell (k := 1) rfl rfl)⟩, trivial⟩ ?_
 exact ⟨rfl, H10.mask [false, false, true]⟩
theorem new_b (n : Int) (w : World) : Calls Try.prog 19 #[.int .i64 n] w fun e w' => e = .returned (.tuple #[.string (newS n).1, .int .i64 (newS n).2]) ∧ S w' [Old w no] := by
  by_cases h1 : 0 ≤ n ∧ n ≤ 4096
  · obtain ⟨m, rfl⟩ : ∃ m : Nat, n = m := ⟨n.toNat, by omega⟩
    have e : newS (m : Int) = (nbS (List.replicate (longN m) 0), 0) := by unfold newS; rw [if_pos (rightB_iff.2 h1), Int.toNat_natCast]
    rw [e]; exact new_b_i m (by omega) w
  · exact new_b_o n h1 w
set_option maxRecDepth 20000 in
set_option maxHeartbeats 4000000 in
theorem set_b (m gb c i : Nat) (b : List Nat) (hb : ∀ x ∈ b, x < 256) (hc : b.length ≤ c) (hi : i / 8 < b.length) (hi2 : i ≤ 1099511627776) (w : World) (HB : S w [Ob gb (.cells (nbV b) 5 (0, 0))]) :
  Calls Try.prog 73 #[.agg #[.int .i64 (m : Int), .slice (some ⟨gb, 0, none⟩) b.length c], .int .i64 (i : Int), .bool true] w fun e w' => e = .returned (.tuple #[]) ∧ S w' ([Ob gb (.cells (nbV (bitStep b i)) 5 (0, 0))] ++ [Old w (fps [Ob gb (.cells (nbV b) 5 (0, 0))])]) := by
 have H0 : S w [Ob gb (.cells (nbV b) 5 (0, 0)), Old w (fps [Ob gb (.cells (nbV b) 5 (0, 0))])] := HB.beginI
 have hb8 := getD_lt hb (i / 8)
 have h128 : 128 / 2 ^ (i % 8) ≤ 128 := Nat.div_le_self _ _
 refine enter 29 Try.func73 rfl rfl rfl ?_
 refine g_weak [(0, .agg #[.int .i64 ((m : Int)), .slice (some ⟨gb, 0, none⟩) (b.length) (c)]), (1, .int .i64 ((i : Int))), (2, .bool true)] ⟨rfl, rfl, rfl, trivial⟩ ?_
 refine w_s ?_
 refine l_of (s_box H0 (wt0 rfl) rfl rfl rfl rfl ?_)
 intro g1 wq2 H3
 refine w_e ?_
 refine w_s ?_
 refine w_m ?_
 refine w_b (v := .int .i64 (((i % 8 : Nat) : Int))) (hb := (b_remN (a := i) (b := 8) (by omega))) ?_
 refine w_b (v := .int .u8 (((128 / 2 ^ (i % 8) : Nat) : Int))) (hb := (b_shrN (a := 128) (n := i % 8) (by show i % 8 ≤ 8; omega))) ?_
 refine w_a ?_
 refine w_e ?_
 refine w_s ?_
 refine w_m ?_
 refine w_e ?_
 refine g_cond_t rfl rfl ?_
 refine g_region ?_
 refine w_f 1 ?_
 refine w_1 H3 0 ?_
 refine w_m ?_
 refine w_b (v := .int .i64 (((i / 8 : Nat) : Int))) (hb := (b_quoN (a := i) (b := 8) (by omega))) ?_
 refine w_v (v := .pointer (some ⟨gb, (i / 8), none⟩)) (x_indexAddr (i / 8) rfl rfl rfl Try.underlying67 sz5 (by omega) (off' := (i / 8)) (by omega)) ?_
 refine w_v (x_load1 H3 1 rfl rfl Try.underlying5 rfl rfl (nbV_at (by omega))) ?_
 refine w_m ?_
 refine w_b (v := .int .u8 (((b.getD (i / 8) 0 ||| 128 / 2 ^ (i % 8) : Nat) : Int))) (hb := (b_or8 (a := b.getD (i / 8) 0) (b := 128 / 2 ^ (i % 8)) (by omega))) ?_
 refine w_v (v := .pointer (some ⟨gb, (i / 8), none⟩)) (x_indexAddr (i / 8) rfl rfl rfl Try.underlying67 sz5 (by omega) (off' := (i / 8)) (by omega)) ?_
 refine l_of (s_store1 H3 1 (wt0 rfl) rfl rfl rfl rfl rfl sz5 rfl rfl (by rw [nbV_size]; omega) ?_)
 intro wq4 H5
 rw [nbV_set b (i / 8) (b.getD (i / 8) 0 ||| 128 / 2 ^ (i % 8))] at H5
 replace H5 : S wq4 [Ob g1 (.cells #[.int .i64 ((m : Int)), .slice (some ⟨gb, 0, none⟩) (b.length) (c)] 69 (0, 0)), Ob gb (.cells (nbV (b.set (i / 8) (b.getD (i / 8) 0 ||| 128 / 2 ^ (i % 8)))) 5 (0, 0)), Old w (fps [Ob gb (.cells (nbV b) 5 (0, 0))])] := H5
 refine g_nil ?_
 refine fin_end [] [] rfl trivial ?_
 exact ⟨rfl, H5.mask [false, true, true]⟩
set_option maxRecDepth 20000 in
set_option maxHeartbeats 4000000 in
theorem full_b_o (n : Int) (h : ¬ (0 ≤ n ∧ n ≤ 4096)) (w : World) : Calls Try.prog 71 #[.int .i64 n] w fun e w' => e = .returned (.tuple #[.string (fullS n).1, .int .i64 (fullS n).2]) ∧ S w' [Old w no] := by
 have H0 := S.old w
 refine enter_d 19 Try.func71 rfl rfl rfl ?_
 refine g_weak [(0, .int .i64 n)] ⟨rfl, trivial⟩ ?_
 refine w_s ?_
 refine w_a ?_
 refine l_of (s_alloc H0 (wt0 rfl) rfl rfl rfl ze28 ?_)
 intro g1 wq2 H3
 refine w_e ?_
 refine w_s ?_
 refine l_of (s_defer (wt0 rfl) rfl (xd_defer rfl rfl rfl) ?_)
 refine w_e ?_
 refine w_s ?_
 refine w_m ?_
 refine l_of (s_call (wt0 rfl) (x_call' rfl rfl cl27) (empty_o n h _) ?_)
 rintro _ wq4 ⟨rfl, H5⟩
 replace H5 : S wq4 [Ob g1 (.cells #[.int .i64 0] 28 (0, 0)), Old w no] := H3.absorb (new := []) H5
 refine b_panic ?_
 refine g_then_panic ?_
 refine fin_dpanic ?_
 refine gl_step (by simp) cl26 (caughtb_p g1 7 (0) [] _ (H5.ob (k := 0) rfl)) ?_
 rintro _ _ wq6 ⟨⟨rfl, H7⟩, rfl⟩
 replace H7 : S wq6 [Ob g1 (.cells #[.int .i64 7] 28 (0, 0)), Old w no] := H5.absorbK (new := [Ob g1 (.cells #[.int .i64 7] 28 (0, 0))]) [0] (by intro g hg; rw [List.mem_singleton] at hg; subst hg; exact ⟨0, rfl, _, rfl, rfl⟩) H7
 refine (?_ : GL _ _ _ _ _ _ FrameMode.returning _)
 refine gl_ret [.tmp 2, .cell 3 28] [.string (⟨#[]⟩), .int .i64 7] rfl ⟨rfl, ⟨_, rfl, run_load1 Try.underlying28 rfl (H7.cell (k := 0) rfl rfl)⟩, trivial⟩ ?_
 exact ⟨by unfold fullS; rw [if_neg (by rw [rightB_iff]; exact h)]; rfl, H7.mask [false, true]⟩
set_option maxRecDepth 20000 in
set_option maxHeartbeats 4000000 in
theorem full_b_i (m : Nat) (hm : m ≤ 4096) (w : World) : Calls Try.prog 71 #[.int .i64 ((m : Int))] w fun e w' => e = .returned (.tuple #[.string (nbS (fullAt m m)), .int .i64 0]) ∧ S w' [Old w no] := by
 have H0 := S.old w
 have hlm : longN m ≤ 512 := by unfold longN; omega
 refine enter_d 19 Try.func71 rfl rfl rfl ?_
 refine g_weak [(0, .int .i64 ((m : Int)))] ⟨rfl, trivial⟩ ?_
 refine w_s ?_
 refine w_a ?_
 refine l_of (s_alloc H0 (wt0 rfl) rfl rfl rfl ze28 ?_)
 intro g1 wq2 H3
 refine w_e ?_
 refine w_s ?_
 refine l_of (s_defer (wt0 rfl) rfl (xd_defer rfl rfl rfl) ?_)
 refine w_e ?_
 refine w_s ?_
 refine w_m ?_
 refine l_of (s_call (wt0 rfl) (x_call' rfl rfl cl27) (empty_i m hm _) ?_)
 rintro _ wq4 ⟨g6, rfl, H5⟩
 replace H5 : S wq4 [Ob g6 (.cells (nbV (fullAt m 0)) 5 (0, 0)), Ob g1 (.cells #[.int .i64 0] 28 (0, 0)), Old w no] := H3.absorb (new := [Ob g6 (.cells (nbV (fullAt m 0)) 5 (0, 0))]) H5
 refine b_ret rfl rfl ?_
 refine l_of (s_alloc H5 (wt0 rfl) rfl rfl rfl ze69 ?_)
 intro g7 wq8 H9
 refine l_of (w_st #[.int .i64 ((m : Int)), .slice (some ⟨g6, 0, none⟩) (longN m) (longN m)] H9 0 ?_)
 intro wq10 H11
 refine w_e ?_
 refine g_seq ?_
 refine w_s ?_
 refine w_r2 ?_
 refine w_e ?_
 refine g_block ?_
 refine g_loop (ι := Nat) (fun i => [(3, .pointer (some ⟨g1, 0, none⟩)), (4, .pointer (some ⟨g7, 0, none⟩)), (8, .int .i64 ((m : Int))), (9, .int .i64 ((i : Int)))]) (fun i wx => (i ≤ m) ∧ S wx [Ob g6 (.cells (nbV (fullAt m i)) 5 (0, 0)), Ob g7 (.cells #[.int .i64 ((m : Int)), .slice (some ⟨g6, 0, none⟩) (longN m) (longN m)] 69 (0, 0)), Ob g1 (.cells #[.int .i64 0] 28 (0, 0)), Old w no]) (fun i => m - i) (0) ⟨rfl, rfl, rfl, rfl, trivial⟩ ⟨Nat.zero_le _, (H11.takes [1, 0, 2, 3] (by decide))⟩ ?_
 rintro i wq12 ⟨hi, H13⟩
 refine g_weak [(3, .pointer (some ⟨g1, 0, none⟩)), (4, .pointer (some ⟨g7, 0, none⟩)), (8, .int .i64 ((m : Int))), (9, .int .i64 ((i : Int)))] ⟨rfl, rfl, rfl, rfl, trivial⟩ ?_
 refine w_s ?_
 refine w_b ?_
 refine w_e ?_
 refine g_seq ?_
 by_cases hb14 : ((i : Int) : Int) < (m : Int)
 ·
  refine g_cond_t rfl (decide_eq_true hb14) ?_
  refine g_skip ?_
  refine g_then ?_
  refine g_seq ?_
  refine g_block ?_
  refine w_s ?_
  refine w_r2 ?_
  refine w_e ?_
  refine g_region ?_
  refine w_v (v := .agg #[.int .i64 ((m : Int)), .slice (some ⟨g6, 0, none⟩) (longN m) (longN m)]) (x_loadA H13 1 rfl rfl Try.underlying69 rfl sz69 rfl rfl rfl) ?_
  refine w_m ?_
  have hfl := fullAt_len m i
  have hset := set_b m g6 (longN m) i (fullAt m i) (fullAt_lt m i) (by omega) (by rw [hfl]; unfold longN; omega) (by omega) wq12 (H13.takes [0] (by decide))
  rw [hfl] at hset
  refine l_of (s_call (wt0 rfl) (x_call' rfl rfl cl73) hset ?_)
  rintro _ wq15 ⟨rfl, H16⟩
  replace H16 : S wq15 [Ob g6 (.cells (nbV (fullAt m (i + 1))) 5 (0, 0)), Ob g7 (.cells #[.int .i64 ((m : Int)), .slice (some ⟨g6, 0, none⟩) (longN m) (longN m)] 69 (0, 0)), Ob g1 (.cells #[.int .i64 0] 28 (0, 0)), Old w no] := by have h := H13.absorbI [0] H16; exact h
  refine b_ret rfl rfl ?_
  refine g_nil ?_
  refine g_in ?_
  refine g_then ?_
  refine g_region ?_
  refine w_b (v := .int .i64 ((i : Int) + 1)) (hb := (b_add (w64 (by omega)))) ?_
  refine w_m ?_
  refine w_e ?_
  refine g_round (i := (i)) (i + 1) ?_ ?_ ?_
  · exact ⟨rfl, rfl, rfl, rfl, trivial⟩
  · exact ⟨by omega, (H16.takes [0, 1, 2, 3] (by decide))⟩
  · (try dsimp only); omega
 ·
  refine g_cond_f rfl (decide_eq_false hb14) ?_
  refine g_exit ?_
  refine g_then_exit ?_
  refine g_then_exit ?_
  refine g_in_hit ?_
  refine g_then ?_
  refine w_s ?_
  refine w_f 1 ?_
  refine w_1 H13 1 ?_
  refine w_v (v := .string ((nbS (fullAt m i)))) (x_bytes (l := (fullAt m i).map UInt8.ofNat) rfl rfl Try.underlying67 Try.underlying9 Try.underlying5 (by simp [fullAt_len]) (hc_ob (k := 0) H13 rfl (nbV_bytes (fullAt_lt m i)))) ?_
  refine w_a ?_
  refine l_of (w_st #[.int .i64 0] H13 2 ?_)
  intro wq17 H18
  refine w_e ?_
  refine g_ret ?_
  refine fin_dret ?_
  refine gl_step (by simp) cl26 (caughtb_n g1 _) ?_
  rintro _ _ wq19 ⟨⟨rfl, H20⟩, rfl⟩
  replace H20 : S wq19 [Ob g6 (.cells (nbV (fullAt m i)) 5 (0, 0)), Ob g7 (.cells #[.int .i64 ((m : Int)), .slice (some ⟨g6, 0, none⟩) (longN m) (longN m)] 69 (0, 0)), Ob g1 (.cells #[.int .i64 0] 28 (0, 0)), Old w no] := H18.absorb (new := []) H20
  refine (?_ : GL _ _ _ _ _ _ FrameMode.returning _)
  refine gl_ret [.tmp 2, .cell 3 28] [.string ((nbS (fullAt m i))), .int .i64 0] rfl ⟨rfl, ⟨_, rfl, run_load1 Try.underlying28 rfl (H20.cell (k := 2) rfl rfl)⟩, trivial⟩ ?_
  have him : i = m := by omega
  exact ⟨by rw [him]; rfl, H20.mask [false, false, false, true]⟩
theorem full_b (n : Int) (w : World) : Calls Try.prog 71 #[.int .i64 n] w fun e w' => e = .returned (.tuple #[.string (fullS n).1, .int .i64 (fullS n).2]) ∧ S w' [Old w no] := by
  by_cases h1 : 0 ≤ n ∧ n ≤ 4096
  · obtain ⟨m, rfl⟩ : ∃ m : Nat, n = m := ⟨n.toNat, by omega⟩
    have e : fullS (m : Int) = (nbS (fullAt m m), 0) := by unfold fullS; rw [if_pos (rightB_iff.2 h1), Int.toNat_natCast]
    rw [e]; exact full_b_i m (by omega) w
  · exact full_b_o n h1 w
end Go.Proofs.Ytdkfkdekiljcoaa
namespace Go.Proofs.Ytdkfkdekiljcoaa
open Go.RowKit

def bsV (l : List Bool) : List Value := l.map Value.bool
theorem getD_out {l : List Bool} {i : Nat} (h : l.length ≤ i) : l.getD i false = false := by
  rw [List.getD_eq_getElem?_getD, List.getElem?_eq_none h]; rfl
theorem fldAt_one {l : List Bool} {i : Nat} (h : l.getD i false = true) : fldAt l (i + 1) = ((fldAt l i).set (i / 8) (2 * (fldAt l i).getD (i / 8) 0 % 256)).set (i / 8) ((((fldAt l i).set (i / 8) (2 * (fldAt l i).getD (i / 8) 0 % 256)).getD (i / 8) 0 + 1) % 256) := by
  rw [fldAt]; unfold fldStep; simp only [h, if_true]
theorem fldAt_zero {l : List Bool} {i : Nat} (h : l.getD i false = false) : fldAt l (i + 1) = (fldAt l i).set (i / 8) (2 * (fldAt l i).getD (i / 8) 0 % 256) := by
  rw [fldAt]; unfold fldStep; simp only [h, Bool.false_eq_true, if_false]
def truthsS (m : Nat) (s : ByteArray) : List Bool := (List.range m).map (bitA s)
/-- The first i are turned round. -/
def flipTo (i : Nat) (l : List Bool) : List Bool := (l.take i).map (!·) ++ l.drop i
/-! ## The plain law -/
theorem set_same {b : List Nat} {k : Nat} : b.set k (b.getD k 0) = b := by
  apply List.ext_getElem?
  intro j
  rw [List.getElem?_set]
  by_cases h : k = j
  · subst h
    rw [if_pos rfl, List.getD_eq_getElem?_getD]
    by_cases hk : k < b.length
    · rw [if_pos hk, List.getElem?_eq_getElem hk]; rfl
    · rw [if_neg hk, List.getElem?_eq_none (by omega)]
  · rw [if_neg h]
theorem getD_rep (n k : Nat) : (List.replicate n 0).getD k 0 = 0 := by
  rw [List.getD_eq_getElem?_getD, List.getElem?_replicate]; split <;> rfl
theorem getD_repB (n k : Nat) : (List.replicate n false).getD k false = false := by
  rw [List.getD_eq_getElem?_getD, List.getElem?_replicate]; split <;> rfl
theorem fld_zeros (m : Nat) : ∀ i, fldAt (List.replicate m false) i = List.replicate (longN m) 0
  | 0 => by rw [fldAt, List.length_replicate]
  | i + 1 => by
    rw [fldAt_zero (getD_repB m i), fld_zeros m i, getD_rep]
    have := set_same (b := List.replicate (longN m) 0) (k := i / 8)
    rw [getD_rep] at this
    exact this
theorem field_zeros (m : Nat) : fieldS (List.replicate m false) = nbS (List.replicate (longN m) 0) := by unfold fieldS; rw [fld_zeros]
theorem nbS_size (b : List Nat) : (nbS b).size = b.length := by show ((b.map UInt8.ofNat).toArray).size = _; simp
/-- A byte of ones and zeros. -/
def onesB (j o : Nat) : Nat := (2 ^ o - 1) * 2 ^ (j - o)
theorem ones_more : ∀ j, j < 8 → 2 * onesB j j % 256 + 1 = onesB (j + 1) (j + 1) ∧ (2 * onesB j j % 256 + 1) % 256 = onesB (j + 1) (j + 1) := by decide
theorem ones_shift : ∀ j, j < 8 → ∀ o, o < 9 → o ≤ j → 2 * onesB j o % 256 = onesB (j + 1) o := by decide
theorem ones_or : ∀ j, j < 8 → onesB 8 j ||| 128 / 2 ^ j = onesB 8 (j + 1) := by decide
theorem getD_set {b : List Nat} {i k x : Nat} (h : i < b.length) : (b.set i x).getD k 0 = if k = i then x else b.getD k 0 := by
  rw [List.getD_eq_getElem?_getD, List.getElem?_set, List.getD_eq_getElem?_getD]
  by_cases hk : k = i
  · subst hk; rw [if_pos rfl, if_pos rfl, if_pos h]; rfl
  · rw [if_neg (fun e => hk e.symm), if_neg hk]
theorem getD_repT (n k : Nat) : (List.replicate n true).getD k false = decide (k < n) := by
  rw [List.getD_eq_getElem?_getD, List.getElem?_replicate]
  by_cases h : k < n
  · rw [if_pos h, decide_eq_true h]; rfl
  · rw [if_neg h, decide_eq_false h]; rfl
theorem fld_ones (m : Nat) : ∀ i, i ≤ 8 * longN m → ∀ k, k < longN m → (fldAt (List.replicate m true) i).getD k 0 = onesB (min (i - 8 * k) 8) (min (min (i - 8 * k) 8) (m - 8 * k))
  | 0, _, k, hk => by
    rw [fldAt, getD_rep, Nat.zero_sub, Nat.zero_min, Nat.zero_min]; rfl
  | i + 1, hi, k, hk => by
    have hl : longN (List.replicate m true).length = longN m := by rw [List.length_replicate]
    have hlen := fldAt_len (List.replicate m true) i
    have hik : i / 8 < longN m := by omega
    have ih := fld_ones m i (by omega)
    have ihk := ih (i / 8) hik
    by_cases hb : i < m
    · have h1 : (List.replicate m true).getD i false = true := by rw [getD_repT, decide_eq_true hb]
      rw [fldAt_one h1, getD_set (by rw [List.length_set, hlen, hl]; exact hik), getD_set (by rw [hlen, hl]; exact hik), if_pos rfl]
      by_cases hke : k = i / 8
      · subst hke
        rw [if_pos rfl, ihk]
        have e1 : min (i - 8 * (i / 8)) 8 = i % 8 := by omega
        have e2 : min (i % 8) (m - 8 * (i / 8)) = i % 8 := by omega
        have e3 : min (i + 1 - 8 * (i / 8)) 8 = i % 8 + 1 := by omega
        have e4 : min (i % 8 + 1) (m - 8 * (i / 8)) = i % 8 + 1 := by omega
        rw [e1, e2, e3, e4]
        exact (ones_more (i % 8) (by omega)).2
      · rw [if_neg hke, getD_set (by rw [hlen, hl]; exact hik), if_neg hke, ih k hk]
        rcases Nat.lt_or_gt_of_ne hke with h | h
        · have : min (i + 1 - 8 * k) 8 = min (i - 8 * k) 8 := by omega
          rw [this]
        · have : min (i + 1 - 8 * k) 8 = min (i - 8 * k) 8 := by omega
          rw [this]
    · have h1 : (List.replicate m true).getD i false = false := by rw [getD_repT, decide_eq_false hb]
      rw [fldAt_zero h1, getD_set (by rw [hlen, hl]; exact hik)]
      by_cases hke : k = i / 8
      · subst hke
        rw [if_pos rfl, ihk]
        have e1 : min (i - 8 * (i / 8)) 8 = i % 8 := by omega
        have e2 : min (i % 8) (m - 8 * (i / 8)) = m - 8 * (i / 8) := by omega
        have e3 : min (i + 1 - 8 * (i / 8)) 8 = i % 8 + 1 := by omega
        have e4 : min (i % 8 + 1) (m - 8 * (i / 8)) = m - 8 * (i / 8) := by omega
        rw [e1, e2, e3, e4]
        exact ones_shift (i % 8) (by omega) (m - 8 * (i / 8)) (by omega) (by omega)
      · rw [if_neg hke, ih k hk]
        have : min (i + 1 - 8 * k) 8 = min (i - 8 * k) 8 := by omega
        rw [this]
theorem full_ones (n : Nat) : ∀ i, i ≤ n → ∀ k, k < longN n → (fullAt n i).getD k 0 = onesB 8 (min (i - 8 * k) 8)
  | 0, _, k, hk => by rw [fullAt, getD_rep, Nat.zero_sub, Nat.zero_min]; rfl
  | i + 1, hi, k, hk => by
    have hik : i / 8 < longN n := by unfold longN; omega
    have ih := full_ones n i (by omega)
    rw [fullAt, bitStep, getD_set (by rw [fullAt_len]; exact hik)]
    by_cases hke : k = i / 8
    · subst hke
      rw [if_pos rfl, ih _ hik]
      have e1 : min (i - 8 * (i / 8)) 8 = i % 8 := by omega
      have e3 : min (i + 1 - 8 * (i / 8)) 8 = i % 8 + 1 := by omega
      rw [e1, e3]
      exact ones_or (i % 8) (by omega)
    · rw [if_neg hke, ih k hk]
      have : min (i + 1 - 8 * k) 8 = min (i - 8 * k) 8 := by omega
      rw [this]
theorem field_ones (m : Nat) : fieldS (List.replicate m true) = nbS (fullAt m m) := by
  unfold fieldS
  rw [List.length_replicate]
  congr 1
  have h1 := fldAt_len (List.replicate m true) (8 * longN m)
  rw [List.length_replicate] at h1
  have h2 := fullAt_len m m
  apply List.ext_getElem (by omega)
  intro k hk1 hk2
  have a1 := fld_ones m (8 * longN m) (Nat.le_refl _) k (by omega)
  have a2 := full_ones m m (Nat.le_refl _) k (by omega)
  rw [List.getD_eq_getElem?_getD, List.getElem?_eq_getElem hk1] at a1
  rw [List.getD_eq_getElem?_getD, List.getElem?_eq_getElem hk2] at a2
  rw [Option.getD_some] at a1 a2
  rw [a1, a2]
  have e1 : min (8 * longN m - 8 * k) 8 = 8 := by omega
  have e2 : min 8 (m - 8 * k) = min (m - 8 * k) 8 := Nat.min_comm _ _
  rw [e1, e2]
end Go.Proofs.Ytdkfkdekiljcoaa
namespace Go.Proofs.Ytdkfkdekiljcoaa
open Go.RowKit

theorem sz4 : szO Try.prog 4 = some 1 := by kernel_rfl
theorem ze4 : zeO Try.prog 4 = some (.bool false) := by kernel_rfl
theorem reads_ob {w : World} {L : List Item} {k g n e : Nat} {cs : Array Value} {fr : Nat × Nat} (H : S w L) (hk : L[k]? = some (Ob g (.cells cs e fr))) (hn : cs.size = n) : Reads w (some ⟨g, 0, none⟩) n n 1 cs.toList :=
  ⟨by simpa using hn, Nat.le_refl _, fun _ => ⟨_, rfl, news_ob H hk⟩⟩
end Go.Proofs.Ytdkfkdekiljcoaa
