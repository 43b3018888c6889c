import Derived.Test.YtlikhpfdncidkaaFk
import Derived.Test.YtlikhpfdncidkaaCa
set_option linter.unusedSimpArgs false
set_option linter.unusedVariables false
namespace Go.Proofs.Ytlikhpfdncidkaa
open Go.RowKit

theorem cl67 : callable Try.prog 67 = true := by kernel_rfl
theorem fo109_0 : foO Try.prog 109 0 = some 0 := by kernel_rfl
theorem sz109 : szO Try.prog 109 = some 5 := by kernel_rfl
theorem ze109 : zeO Try.prog 109 = some (.agg #[.int .i64 0, .int .i64 0, .int .i64 0, .int .i64 0, .string (⟨#[]⟩)]) := by kernel_rfl
theorem ins_asc {out l : List Int} {v : Int} {k : Nat} (ho : out = ascI l) (h1 : ∀ y ∈ out.take k, y < v) (h2 : ∀ x, out[k]? = some x → v < x) : out.take k ++ ([v] ++ out.drop k) = ascI (l ++ [v]) := by
  have hp : out.Pairwise (· < ·) := ho ▸ ascI_lt l
  have hd : ∀ y ∈ out.drop k, v < y := fun y hy => by
    obtain ⟨j, hj⟩ := List.getElem?_of_mem hy
    rw [List.getElem?_drop] at hj
    have hjl := (List.getElem?_eq_some_iff.1 hj).1
    obtain ⟨x, hx⟩ := ex_at (l := out) (j := k) (by omega)
    have h3 := h2 x hx
    by_cases e : j = 0
    · subst e; rw [Nat.add_zero, hx] at hj; cases hj; exact h3
    · obtain ⟨a1, a2⟩ := List.getElem?_eq_some_iff.1 hx
      obtain ⟨b1, b2⟩ := List.getElem?_eq_some_iff.1 hj
      have := List.pairwise_iff_getElem.1 hp k (k + j) a1 b1 (by omega)
      omega
  refine (ascI_of ?_ fun x => ?_).symm
  · rw [List.pairwise_append]
    refine ⟨hp.sublist (List.take_sublist ..), ?_, fun a ha b hb => ?_⟩
    · rw [List.singleton_append, List.pairwise_cons]
      exact ⟨hd, hp.sublist (List.drop_sublist ..)⟩
    · rcases List.mem_append.1 hb with hb | hb
      · rw [List.mem_singleton] at hb; subst hb; exact h1 a ha
      · have := h1 a ha; have := hd b hb; omega
  · have hm : x ∈ out ↔ x ∈ l := by rw [ho, ascI_mem]
    rw [List.mem_append, ← hm]
    conv => lhs; rw [← List.take_append_drop k out]
    simp only [List.mem_append, List.mem_singleton]
    constructor
    · rintro ((h | h) | h) <;> simp [h]
    · rintro (h | h | h) <;> simp [h]
theorem ins_same {out l : List Int} {v : Int} {k : Nat} (ho : out = ascI l) (h : out[k]? = some v) : out = ascI (l ++ [v]) := by
  have hv : v ∈ l := by rw [← ascI_mem, ← ho]; exact List.mem_of_getElem? h
  rw [ho]
  exact ascI_same fun x => by
    rw [List.mem_append, List.mem_singleton]
    exact ⟨.inl, fun h => h.elim id fun e => e ▸ hv⟩
theorem lt_take {out : List Int} {v x : Int} {k : Nat} (h : ∀ y ∈ out.take k, y < v) (hx : out[k]? = some x) (hv : x < v) : ∀ y ∈ out.take (k + 1), y < v := fun y hy => by
  rw [take_snoc hx] at hy
  rcases List.mem_append.1 hy with hy | hy
  · exact h y hy
  · rw [List.mem_singleton] at hy; subst hy; exact hv
theorem at_end {α : Type} {l : List α} {k : Nat} (h : k = l.length) {P : α → Prop} : ∀ x, l[k]? = some x → P x := fun x hx => by rw [h, List.getElem?_eq_none (Nat.le_refl _)] at hx; cases hx
theorem at_is {α : Type} {l : List α} {k : Nat} {y : α} (h : l[k]? = some y) {P : α → Prop} (hp : P y) : ∀ x, l[k]? = some x → P x := fun x hx => by rw [h] at hx; cases hx; exact hp
set_option maxRecDepth 20000 in
set_option maxHeartbeats 4000000 in
theorem piece_r (i : Int) (w : World) : Calls Try.prog 67 #[.int .i64 i] w fun e w' => e = .returned (.bool (pieceB i)) ∧ S w' [Old w no] := by
 have H0 := S.old w
 refine enter 9 Try.func67 rfl rfl rfl ?_
 refine g_weak [(0, .int .i64 i)] ⟨rfl, trivial⟩ ?_
 refine w_s ?_
 refine w_a ?_
 refine w_e ?_
 refine w_s ?_
 refine w_m ?_
 refine w_b ?_
 refine w_m ?_
 by_cases hb1 : (0 : Int) ≤ i
 ·
  refine w_g (decide_eq_true hb1) xm ?_
  refine w_g (decide_eq_true hb1) (x_bin rfl rfl rfl b_lss) ?_
  refine w_v (v := .bool (decide ((i : Int) < 4096))) (x_pick_t rfl rfl (decide_eq_true hb1) rfl) ?_
  refine w_a ?_
  refine w_e ?_
  refine g_ret ?_
  refine fin_ret [.tmp 2] [.bool (decide ((i : Int) < 4096))] rfl ⟨rfl, trivial⟩ ?_
  exact ⟨by rw [show (decide ((i : Int) < 4096)) = pieceB i from by (unfold pieceB; rw [Bool.eq_iff_iff]; simp; omega)]; rfl, H0.mask [true]⟩
 ·
  refine w_n (decide_eq_false hb1) ?_
  refine w_n (decide_eq_false hb1) ?_
  refine w_v (v := .bool false) (x_pick_f rfl rfl (decide_eq_false hb1) rfl) ?_
  refine w_a ?_
  refine w_e ?_
  refine g_ret ?_
  refine fin_ret [.tmp 2] [.bool false] rfl ⟨rfl, trivial⟩ ?_
  exact ⟨by rw [show (false) = pieceB i from by (unfold pieceB; rw [Bool.eq_iff_iff]; simp; omega)]; rfl, H0.mask [true]⟩
set_option maxRecDepth 20000 in
set_option maxHeartbeats 4000000 in
theorem right_r (p i bg ln : Int) (w : World) : Calls Try.prog 70 #[.int .i64 p, .agg #[.int .i64 i, .int .i64 bg, .int .i64 ln]] w fun e w' => e = .returned (.bool (peerB p && blockB i bg ln)) ∧ S w' [Old w no] := by
 have H0 := S.old w
 refine enter 44 Try.func70 rfl rfl rfl ?_
 refine g_weak [(0, .int .i64 p), (1, .agg #[.int .i64 i, .int .i64 bg, .int .i64 ln])] ⟨rfl, rfl, trivial⟩ ?_
 refine w_s ?_
 refine l_of (s_box H0 (wt0 rfl) rfl rfl rfl rfl ?_)
 intro g1 wq2 H3
 refine w_a ?_
 refine w_e ?_
 refine w_s ?_
 refine w_m ?_
 refine w_b ?_
 refine w_m ?_
 by_cases hb4 : (1 : Int) ≤ p
 ·
  refine w_g (decide_eq_true hb4) xm ?_
  refine w_g (decide_eq_true hb4) (x_bin rfl rfl rfl b_leq) ?_
  refine w_v (v := .bool (decide ((p : Int) ≤ 1000))) (x_pick_t rfl rfl (decide_eq_true hb4) rfl) ?_
  refine w_m ?_
  by_cases hb5 : (p : Int) ≤ 1000
  ·
   refine w_g (decide_eq_true hb5) (xf 0) ?_
   refine w_g (decide_eq_true hb5) (xl H3 0) ?_
   refine l_of (s_call0 H3 (wt1 rfl rfl rfl rfl (decide_eq_true hb5)) (x_call' rfl rfl cl67) (piece_r _ _) rfl rfl ?_)
   intro wq6 H7
   refine w_v (v := .bool ((pieceB i))) (x_pick_t rfl rfl (decide_eq_true hb5) rfl) ?_
   refine w_m ?_
   rcases Bool.eq_false_or_eq_true ((pieceB i)) with hb8 | hb8
   ·
    refine w_g hb8 (xf 1) ?_
    refine w_g hb8 (xl H7 0) ?_
    refine w_g hb8 (x_bin rfl rfl rfl b_geq) ?_
    refine w_v (v := .bool (decide ((0 : Int) ≤ bg))) (x_pick_t rfl rfl hb8 rfl) ?_
    refine w_m ?_
    by_cases hb9 : (0 : Int) ≤ bg
    ·
     refine w_g (decide_eq_true hb9) (xf 1) ?_
     refine w_g (decide_eq_true hb9) (xl H7 0) ?_
     refine w_g (decide_eq_true hb9) (x_bin rfl rfl rfl b_leq) ?_
     refine w_v (v := .bool (decide ((bg : Int) ≤ 1024))) (x_pick_t rfl rfl (decide_eq_true hb9) rfl) ?_
     refine w_m ?_
     by_cases hb10 : (bg : Int) ≤ 1024
     ·
      refine w_g (decide_eq_true hb10) (xf 2) ?_
      refine w_g (decide_eq_true hb10) (xl H7 0) ?_
      refine w_g (decide_eq_true hb10) (x_bin rfl rfl rfl b_geq) ?_
      refine w_v (v := .bool (decide ((1 : Int) ≤ ln))) (x_pick_t rfl rfl (decide_eq_true hb10) rfl) ?_
      refine w_m ?_
      by_cases hb11 : (1 : Int) ≤ ln
      ·
       refine w_g (decide_eq_true hb11) (xf 2) ?_
       refine w_g (decide_eq_true hb11) (xl H7 0) ?_
       refine w_g (decide_eq_true hb11) (x_bin rfl rfl rfl b_leq) ?_
       refine w_v (v := .bool (decide ((ln : Int) ≤ 1024))) (x_pick_t rfl rfl (decide_eq_true hb11) rfl) ?_
       refine w_m ?_
       by_cases hb12 : (ln : Int) ≤ 1024
       ·
        refine w_g (decide_eq_true hb12) (xf 1) ?_
        refine w_g (decide_eq_true hb12) (xl H7 0) ?_
        refine w_g (decide_eq_true hb12) (xf 2) ?_
        refine w_g (decide_eq_true hb12) (xl H7 0) ?_
        refine w_g (v := .int .i64 (bg + ln)) (decide_eq_true hb12) (x_bin rfl rfl rfl (b_add (w64 (by omega)))) ?_
        refine w_g (decide_eq_true hb12) (x_bin rfl rfl rfl b_leq) ?_
        refine w_v (v := .bool (decide ((bg + ln : Int) ≤ 1024))) (x_pick_t rfl rfl (decide_eq_true hb12) rfl) ?_
        refine w_a ?_
        refine w_e ?_
        refine g_weak [(4, .bool (decide ((bg + ln : Int) ≤ 1024)))] ⟨rfl, trivial⟩ ?_
        refine g_ret ?_
        refine fin_ret [.tmp 4] [.bool (decide ((bg + ln : Int) ≤ 1024))] rfl ⟨rfl, trivial⟩ ?_
        have hpi : (decide (0 ≤ i) && decide (i < 4096)) = true := hb8
        exact ⟨by rw [show (decide ((bg + ln : Int) ≤ 1024)) = (peerB p && blockB i bg ln) from by (unfold peerB blockB pieceB; rw [Bool.eq_iff_iff]; simp only [Bool.and_eq_true, decide_eq_true_eq, Bool.and_eq_false_iff, decide_eq_false_iff_not] at hpi; simp; omega)]; rfl, H7.mask [false, true]⟩
       ·
        refine w_n (decide_eq_false hb12) ?_
        refine w_n (decide_eq_false hb12) ?_
        refine w_n (decide_eq_false hb12) ?_
        refine w_n (decide_eq_false hb12) ?_
        refine w_n (decide_eq_false hb12) ?_
        refine w_n (decide_eq_false hb12) ?_
        refine w_v (v := .bool false) (x_pick_f rfl rfl (decide_eq_false hb12) rfl) ?_
        refine w_a ?_
        refine w_e ?_
        refine g_weak [(4, .bool false)] ⟨rfl, trivial⟩ ?_
        refine g_ret ?_
        refine fin_ret [.tmp 4] [.bool false] rfl ⟨rfl, trivial⟩ ?_
        have hpi : (decide (0 ≤ i) && decide (i < 4096)) = true := hb8
        exact ⟨by rw [show (false) = (peerB p && blockB i bg ln) from by (unfold peerB blockB pieceB; rw [Bool.eq_iff_iff]; simp only [Bool.and_eq_true, decide_eq_true_eq, Bool.and_eq_false_iff, decide_eq_false_iff_not] at hpi; simp; omega)]; rfl, H7.mask [false, true]⟩
      ·
       refine w_n (decide_eq_false hb11) ?_
       refine w_n (decide_eq_false hb11) ?_
       refine w_n (decide_eq_false hb11) ?_
       refine w_v (v := .bool false) (x_pick_f rfl rfl (decide_eq_false hb11) rfl) ?_
       refine w_m ?_
       refine w_n rfl ?_
       refine w_n rfl ?_
       refine w_n rfl ?_
       refine w_n rfl ?_
       refine w_n rfl ?_
       refine w_n rfl ?_
       refine w_v (v := .bool false) (x_pick_f rfl rfl rfl rfl) ?_
       refine w_a ?_
       refine w_e ?_
       refine g_weak [(4, .bool false)] ⟨rfl, trivial⟩ ?_
       refine g_ret ?_
       refine fin_ret [.tmp 4] [.bool false] rfl ⟨rfl, trivial⟩ ?_
       have hpi : (decide (0 ≤ i) && decide (i < 4096)) = true := hb8
       exact ⟨by rw [show (false) = (peerB p && blockB i bg ln) from by (unfold peerB blockB pieceB; rw [Bool.eq_iff_iff]; simp only [Bool.and_eq_true, decide_eq_true_eq, Bool.and_eq_false_iff, decide_eq_false_iff_not] at hpi; simp; omega)]; rfl, H7.mask [false, true]⟩
     ·
      refine w_n (decide_eq_false hb10) ?_
      refine w_n (decide_eq_false hb10) ?_
      refine w_n (decide_eq_false hb10) ?_
      refine w_v (v := .bool false) (x_pick_f rfl rfl (decide_eq_false hb10) rfl) ?_
      refine w_m ?_
      refine w_n rfl ?_
      refine w_n rfl ?_
      refine w_n rfl ?_
      refine w_v (v := .bool false) (x_pick_f rfl rfl rfl rfl) ?_
      refine w_m ?_
      refine w_n rfl ?_
      refine w_n rfl ?_
      refine w_n rfl ?_
      refine w_n rfl ?_
      refine w_n rfl ?_
      refine w_n rfl ?_
      refine w_v (v := .bool false) (x_pick_f rfl rfl rfl rfl) ?_
      refine w_a ?_
      refine w_e ?_
      refine g_weak [(4, .bool false)] ⟨rfl, trivial⟩ ?_
      refine g_ret ?_
      refine fin_ret [.tmp 4] [.bool false] rfl ⟨rfl, trivial⟩ ?_
      have hpi : (decide (0 ≤ i) && decide (i < 4096)) = true := hb8
      exact ⟨by rw [show (false) = (peerB p && blockB i bg ln) from by (unfold peerB blockB pieceB; rw [Bool.eq_iff_iff]; simp only [Bool.and_eq_true, decide_eq_true_eq, Bool.and_eq_false_iff, decide_eq_false_iff_not] at hpi; simp; omega)]; rfl, H7.mask [false, true]⟩
    ·
     refine w_n (decide_eq_false hb9) ?_
     refine w_n (decide_eq_false hb9) ?_
     refine w_n (decide_eq_false hb9) ?_
     refine w_v (v := .bool false) (x_pick_f rfl rfl (decide_eq_false hb9) rfl) ?_
     refine w_m ?_
     refine w_n rfl ?_
     refine w_n rfl ?_
     refine w_n rfl ?_
     refine w_v (v := .bool false) (x_pick_f rfl rfl rfl rfl) ?_
     refine w_m ?_
     refine w_n rfl ?_
     refine w_n rfl ?_
     refine w_n rfl ?_
     refine w_v (v := .bool false) (x_pick_f rfl rfl rfl rfl) ?_
     refine w_m ?_
     refine w_n rfl ?_
     refine w_n rfl ?_
     refine w_n rfl ?_
     refine w_n rfl ?_
     refine w_n rfl ?_
     refine w_n rfl ?_
     refine w_v (v := .bool false) (x_pick_f rfl rfl rfl rfl) ?_
     refine w_a ?_
     refine w_e ?_
     refine g_weak [(4, .bool false)] ⟨rfl, trivial⟩ ?_
     refine g_ret ?_
     refine fin_ret [.tmp 4] [.bool false] rfl ⟨rfl, trivial⟩ ?_
     have hpi : (decide (0 ≤ i) && decide (i < 4096)) = true := hb8
     exact ⟨by rw [show (false) = (peerB p && blockB i bg ln) from by (unfold peerB blockB pieceB; rw [Bool.eq_iff_iff]; simp only [Bool.and_eq_true, decide_eq_true_eq, Bool.and_eq_false_iff, decide_eq_false_iff_not] at hpi; simp; omega)]; rfl, H7.mask [false, true]⟩
   ·
    refine w_n hb8 ?_
    refine w_n hb8 ?_
    refine w_n hb8 ?_
    refine w_v (v := .bool false) (x_pick_f rfl rfl hb8 rfl) ?_
    refine w_m ?_
    refine w_n rfl ?_
    refine w_n rfl ?_
    refine w_n rfl ?_
    refine w_v (v := .bool false) (x_pick_f rfl rfl rfl rfl) ?_
    refine w_m ?_
    refine w_n rfl ?_
    refine w_n rfl ?_
    refine w_n rfl ?_
    refine w_v (v := .bool false) (x_pick_f rfl rfl rfl rfl) ?_
    refine w_m ?_
    refine w_n rfl ?_
    refine w_n rfl ?_
    refine w_n rfl ?_
    refine w_v (v := .bool false) (x_pick_f rfl rfl rfl rfl) ?_
    refine w_m ?_
    refine w_n rfl ?_
    refine w_n rfl ?_
    refine w_n rfl ?_
    refine w_n rfl ?_
    refine w_n rfl ?_
    refine w_n rfl ?_
    refine w_v (v := .bool false) (x_pick_f rfl rfl rfl rfl) ?_
    refine w_a ?_
    refine w_e ?_
    refine g_weak [(4, .bool false)] ⟨rfl, trivial⟩ ?_
    refine g_ret ?_
    refine fin_ret [.tmp 4] [.bool false] rfl ⟨rfl, trivial⟩ ?_
    have hpi : (decide (0 ≤ i) && decide (i < 4096)) = false := hb8
    exact ⟨by rw [show (false) = (peerB p && blockB i bg ln) from by (unfold peerB blockB pieceB; rw [Bool.eq_iff_iff]; simp only [Bool.and_eq_true, decide_eq_true_eq, Bool.and_eq_false_iff, decide_eq_false_iff_not] at hpi; simp; omega)]; rfl, H7.mask [false, true]⟩
  ·
   refine w_n (decide_eq_false hb5) ?_
   refine w_n (decide_eq_false hb5) ?_
   refine w_n (decide_eq_false hb5) ?_
   refine w_v (v := .bool false) (x_pick_f rfl rfl (decide_eq_false hb5) rfl) ?_
   refine w_m ?_
   refine w_n rfl ?_
   refine w_n rfl ?_
   refine w_n rfl ?_
   refine w_v (v := .bool false) (x_pick_f rfl rfl rfl rfl) ?_
   refine w_m ?_
   refine w_n rfl ?_
   refine w_n rfl ?_
   refine w_n rfl ?_
   refine w_v (v := .bool false) (x_pick_f rfl rfl rfl rfl) ?_
   refine w_m ?_
   refine w_n rfl ?_
   refine w_n rfl ?_
   refine w_n rfl ?_
   refine w_v (v := .bool false) (x_pick_f rfl rfl rfl rfl) ?_
   refine w_m ?_
   refine w_n rfl ?_
   refine w_n rfl ?_
   refine w_n rfl ?_
   refine w_v (v := .bool false) (x_pick_f rfl rfl rfl rfl) ?_
   refine w_m ?_
   refine w_n rfl ?_
   refine w_n rfl ?_
   refine w_n rfl ?_
   refine w_n rfl ?_
   refine w_n rfl ?_
   refine w_n rfl ?_
   refine w_v (v := .bool false) (x_pick_f rfl rfl rfl rfl) ?_
   refine w_a ?_
   refine w_e ?_
   refine g_weak [(4, .bool false)] ⟨rfl, trivial⟩ ?_
   refine g_ret ?_
   refine fin_ret [.tmp 4] [.bool false] rfl ⟨rfl, trivial⟩ ?_
   exact ⟨by rw [show (false) = (peerB p && blockB i bg ln) from by (unfold peerB blockB pieceB; rw [Bool.eq_iff_iff]; simp; omega)]; rfl, H3.mask [false, true]⟩
 ·
  refine w_n (decide_eq_false hb4) ?_
  refine w_n (decide_eq_false hb4) ?_
  refine w_v (v := .bool false) (x_pick_f rfl rfl (decide_eq_false hb4) rfl) ?_
  refine w_m ?_
  refine w_n rfl ?_
  refine w_n rfl ?_
  refine w_n rfl ?_
  refine w_v (v := .bool false) (x_pick_f rfl rfl rfl rfl) ?_
  refine w_m ?_
  refine w_n rfl ?_
  refine w_n rfl ?_
  refine w_n rfl ?_
  refine w_v (v := .bool false) (x_pick_f rfl rfl rfl rfl) ?_
  refine w_m ?_
  refine w_n rfl ?_
  refine w_n rfl ?_
  refine w_n rfl ?_
  refine w_v (v := .bool false) (x_pick_f rfl rfl rfl rfl) ?_
  refine w_m ?_
  refine w_n rfl ?_
  refine w_n rfl ?_
  refine w_n rfl ?_
  refine w_v (v := .bool false) (x_pick_f rfl rfl rfl rfl) ?_
  refine w_m ?_
  refine w_n rfl ?_
  refine w_n rfl ?_
  refine w_n rfl ?_
  refine w_v (v := .bool false) (x_pick_f rfl rfl rfl rfl) ?_
  refine w_m ?_
  refine w_n rfl ?_
  refine w_n rfl ?_
  refine w_n rfl ?_
  refine w_n rfl ?_
  refine w_n rfl ?_
  refine w_n rfl ?_
  refine w_v (v := .bool false) (x_pick_f rfl rfl rfl rfl) ?_
  refine w_a ?_
  refine w_e ?_
  refine g_weak [(4, .bool false)] ⟨rfl, trivial⟩ ?_
  refine g_ret ?_
  refine fin_ret [.tmp 4] [.bool false] rfl ⟨rfl, trivial⟩ ?_
  exact ⟨by rw [show (false) = (peerB p && blockB i bg ln) from by (unfold peerB blockB pieceB; rw [Bool.eq_iff_iff]; simp; omega)]; rfl, H3.mask [false, true]⟩
set_option maxRecDepth 20000 in
set_option maxHeartbeats 4000000 in
theorem who_r (p : Option Addr) (n c : Nat) (l : List E5) (hn : n ≤ 100000) (w : World) (hr : Reads w p n c 5 (fl e5L l)) : Calls Try.prog 68 #[.slice p n c] w fun e w' => ∃ p' c', e = .returned (.slice p' (ascI (l.map E5.pr)).length c') ∧ S w' ([Rw 3 1 p' ((ascI (l.map E5.pr)).length) c' (fl intL (ascI (l.map E5.pr)))] ++ [Old w no]) := by
 have H0 := S.old w
 refine enter 55 Try.func68 rfl rfl rfl ?_
 refine g_weak [(0, .slice p n c)] ⟨rfl, trivial⟩ ?_
 refine w_s ?_
 refine w_a ?_
 refine w_e ?_
 refine w_s ?_
 have H1 := H0.nilFl 3 1 intL
 refine w_a ?_
 refine w_e ?_
 refine g_seq ?_
 refine w_s ?_
 refine w_m ?_
 refine w_v (v := .int .i64 ((n : Int))) (x_lenl rfl rfl Try.underlying94) ?_
 refine w_m ?_
 refine w_e ?_
 refine g_block ?_
 refine g_loop (ι := Nat × List Int × Option Addr × Nat × Nat) (fun (i, out, po, mo, co) => [(3, .slice po mo co), (7, .slice p n c), (8, .int .i64 ((n : Int))), (9, .int .i64 ((i : Int)))]) (fun (i, out, po, mo, co) wx => (i ≤ n) ∧ (out = ascI ((l.take i).map E5.pr)) ∧ (mo = out.length ∧ mo ≤ i) ∧ S wx [Rw 3 1 po mo co (fl intL out), Old w no]) (fun (i, out, po, mo, co) => n - i) (0, [], none, 0, 0) ⟨rfl, rfl, rfl, rfl, trivial⟩ ⟨Nat.zero_le _, (by simp [ascI_of (l := []) (m := []) .nil (fun x => Iff.rfl)]), ⟨rfl, Nat.le_refl _⟩, (H1.takes [0, 1] (by decide))⟩ ?_
 rintro ⟨i, out, po, mo, co⟩ wq2 ⟨hi, ho, hno, H3⟩
 refine g_weak [(3, .slice po mo co), (7, .slice p n c), (8, .int .i64 ((n : Int))), (9, .int .i64 ((i : Int)))] ⟨rfl, rfl, rfl, rfl, trivial⟩ ?_
 refine w_s ?_
 refine w_b ?_
 refine w_e ?_
 refine g_seq ?_
 by_cases hb4 : ((i : Int) : Int) < (n : Int)
 ·
  refine g_cond_t rfl (decide_eq_true hb4) ?_
  refine g_skip ?_
  refine g_then ?_
  refine g_seq ?_
  refine g_block ?_
  refine w_s ?_
  refine w_v (v := .pointer ((p).map fun q => q.add (i * 5))) (x_idxR i (H3.oldReads (k := 1) rfl hr) rfl rfl rfl Try.underlying94 sz109 (by omega)) ?_
  have hlq := (H3.oldReads (k := 1) rfl hr).lenL e5E
  obtain ⟨x5, hx5⟩ := ex_at (l := l) (j := i) (by omega)
  clear hlq
  refine w_v (v := .agg #[.int .i64 (x5.pr), .int .i64 (x5.pc), .int .i64 (x5.bg), .int .i64 (x5.ln), .string (x5.dg)]) (x_loadRA (vs := e5L x5) i (H3.oldReads (k := 1) rfl hr) (by omega) rfl rfl Try.underlying109 rfl sz109 (by rfl) (e5E.flAt hx5)) ?_
  refine l_of (s_alloc H3 (wt0 rfl) rfl rfl rfl ze109 ?_)
  intro g6 wq7 H8
  refine l_of (w_st #[.int .i64 (x5.pr), .int .i64 (x5.pc), .int .i64 (x5.bg), .int .i64 (x5.ln), .string (x5.dg)] H8 0 ?_)
  intro wq9 H10
  refine w_e ?_
  refine w_s ?_
  refine w_a ?_
  refine w_e ?_
  refine g_seq ?_
  refine g_block ?_
  refine g_loop (ι := Nat) (fun at_ => [(3, .slice po mo co), (5, .pointer (some ⟨g6, 0, none⟩)), (6, .int .i64 ((at_ : Int))), (7, .slice p n c), (8, .int .i64 ((n : Int))), (9, .int .i64 ((i : Int)))]) (fun at_ wx => (at_ ≤ mo) ∧ (∀ y ∈ out.take at_, y < x5.pr) ∧ S wx [Ob g6 (.cells #[.int .i64 (x5.pr), .int .i64 (x5.pc), .int .i64 (x5.bg), .int .i64 (x5.ln), .string (x5.dg)] 109 (0, 0)), Rw 3 1 po mo co (fl intL out), Old w no]) (fun at_ => mo - at_) (0) ⟨rfl, rfl, rfl, rfl, rfl, rfl, trivial⟩ ⟨Nat.zero_le _, (fun y hy => by simp at hy), H10⟩ ?_
  rintro at_ wq11 ⟨hal, hat, H12⟩
  refine g_weak [(3, .slice po mo co), (5, .pointer (some ⟨g6, 0, none⟩)), (6, .int .i64 ((at_ : Int))), (7, .slice p n c), (8, .int .i64 ((n : Int))), (9, .int .i64 ((i : Int)))] ⟨rfl, rfl, rfl, rfl, rfl, rfl, trivial⟩ ?_
  refine g_seq ?_
  refine g_seq ?_
  refine g_quiet (by kernel_rfl) (by kernel_rfl) H12 ?_
  refine q_val (v := .int .i64 ((at_ : Int))) (wt0 rfl) rfl rfl (fun wx H => x_move rfl rfl) ?_
  refine q_val (v := .slice po mo co) (wt0 rfl) rfl rfl (fun wx H => x_move rfl rfl) ?_
  refine q_val (v := .int .i64 ((mo : Int))) (wt0 rfl) rfl rfl (fun wx H => x_lenl rfl rfl Try.underlying24) ?_
  refine q_val (v := .bool (decide (((at_ : Int) : Int) < (mo : Int)))) (wt0 rfl) rfl rfl (fun wx H => x_bin rfl rfl rfl b_lss) ?_
  refine q_val (v := .bool (decide (((at_ : Int) : Int) < (mo : Int)))) (wt0 rfl) rfl rfl (fun wx H => x_move rfl rfl) ?_
  by_cases hb13 : ((at_ : Int) : Int) < (mo : Int)
  ·
   refine q_val (v := .slice po mo co) (wt1 rfl rfl rfl rfl (decide_eq_true hb13)) rfl rfl (fun wx H => x_move rfl rfl) ?_
   refine q_val (v := .int .i64 ((at_ : Int))) (wt1 rfl rfl rfl rfl (decide_eq_true hb13)) rfl rfl (fun wx H => x_move rfl rfl) ?_
   refine q_val (v := .pointer ((po).map fun q => q.add (at_ * 1))) (wt1 rfl rfl rfl rfl (decide_eq_true hb13)) rfl rfl (fun wx H => x_idxP at_ ((H12.rwReads (k := 1) rfl).some (by omega)) rfl rfl rfl Try.underlying24 sz3 (by omega)) ?_
   have hlq := (H12.rwReads (k := 1) rfl).lenL intE
   obtain ⟨x14, hx14⟩ := ex_at (l := out) (j := at_) (by omega)
   clear hlq
   refine q_val (v := .int .i64 x14) (wt1 rfl rfl rfl rfl (decide_eq_true hb13)) rfl rfl (fun wx H => x_loadR1 at_ (H.rwReads (k := 1) rfl) (by omega) rfl rfl Try.underlying3 rfl (intE.flAt1 hx14 rfl)) ?_
   refine q_val (v := .pointer (some ⟨g6, 0, none⟩)) (wt1 rfl rfl rfl rfl (decide_eq_true hb13)) rfl rfl (fun wx H => x_fieldAddr rfl rfl fo109_0 rfl) ?_
   refine q_val (v := .int .i64 (x5.pr)) (wt1 rfl rfl rfl rfl (decide_eq_true hb13)) rfl rfl (fun wx H => x_load1 H 0 rfl rfl Try.underlying3 rfl rfl rfl) ?_
   refine q_val (v := .bool (decide ((x14 : Int) < x5.pr))) (wt1 rfl rfl rfl rfl (decide_eq_true hb13)) rfl rfl (fun wx H => x_bin rfl rfl rfl b_lss) ?_
   refine q_val (v := .bool (decide ((x14 : Int) < x5.pr))) (wt0 rfl) rfl rfl (fun wx H => x_pick_t rfl rfl (decide_eq_true hb13) rfl) ?_
   refine q_nil (fun wq15 H16 => ?_)
   refine g_then ?_
   by_cases hb17 : (x14 : Int) < x5.pr
   ·
    refine g_cond_t rfl (decide_eq_true hb17) ?_
    refine g_skip ?_
    refine g_then ?_
    refine g_block ?_
    refine g_region ?_
    refine w_m ?_
    refine w_b (v := .int .i64 (((at_ + 1 : Nat) : Int))) (hb := (b_add (by rw [w64 (by omega)]; omega))) ?_
    refine w_a ?_
    refine g_nil ?_
    refine g_in ?_
    refine g_then ?_
    refine g_round (i := (at_)) ((at_ + 1)) ?_ ?_ ?_
    · exact ⟨rfl, rfl, rfl, rfl, rfl, rfl, trivial⟩
    · exact ⟨by omega, (lt_take hat hx14 hb17), H16⟩
    · (try dsimp only); omega
   ·
    refine g_cond_f rfl (decide_eq_false hb17) ?_
    refine g_exit ?_
    refine g_then_exit ?_
    refine g_then_exit ?_
    refine g_in_hit ?_
    refine g_then ?_
    refine g_seq ?_
    refine g_quiet (by kernel_rfl) (by kernel_rfl) H16 ?_
    refine q_val (v := .int .i64 ((at_ : Int))) (wt0 rfl) rfl rfl (fun wx H => x_move rfl rfl) ?_
    refine q_val (v := .slice po mo co) (wt0 rfl) rfl rfl (fun wx H => x_move rfl rfl) ?_
    refine q_val (v := .int .i64 ((mo : Int))) (wt0 rfl) rfl rfl (fun wx H => x_lenl rfl rfl Try.underlying24) ?_
    refine q_val (v := .bool (decide (((at_ : Int) : Int) = (mo : Int)))) (wt0 rfl) rfl rfl (fun wx H => x_bin rfl rfl rfl b_eql) ?_
    refine q_val (v := .bool (decide (((at_ : Int) : Int) = (mo : Int)))) (wt0 rfl) rfl rfl (fun wx H => x_move rfl rfl) ?_
    refine q_val (v := .slice po mo co) (wt1 rfl rfl rfl rfl (decide_eq_false (by omega))) rfl rfl (fun wx H => x_move rfl rfl) ?_
    refine q_val (v := .int .i64 ((at_ : Int))) (wt1 rfl rfl rfl rfl (decide_eq_false (by omega))) rfl rfl (fun wx H => x_move rfl rfl) ?_
    refine q_val (v := .pointer ((po).map fun q => q.add (at_ * 1))) (wt1 rfl rfl rfl rfl (decide_eq_false (by omega))) rfl rfl (fun wx H => x_idxP at_ ((H16.rwReads (k := 1) rfl).some (by omega)) rfl rfl rfl Try.underlying24 sz3 (by omega)) ?_
    refine q_val (v := .int .i64 x14) (wt1 rfl rfl rfl rfl (decide_eq_false (by omega))) rfl rfl (fun wx H => x_loadR1 at_ (H.rwReads (k := 1) rfl) (by omega) rfl rfl Try.underlying3 rfl (intE.flAt1 hx14 rfl)) ?_
    refine q_val (v := .pointer (some ⟨g6, 0, none⟩)) (wt1 rfl rfl rfl rfl (decide_eq_false (by omega))) rfl rfl (fun wx H => x_fieldAddr rfl rfl fo109_0 rfl) ?_
    refine q_val (v := .int .i64 (x5.pr)) (wt1 rfl rfl rfl rfl (decide_eq_false (by omega))) rfl rfl (fun wx H => x_load1 H 0 rfl rfl Try.underlying3 rfl rfl rfl) ?_
    refine q_val (v := .bool (!decide ((x14 : Int) = x5.pr))) (wt1 rfl rfl rfl rfl (decide_eq_false (by omega))) rfl rfl (fun wx H => x_bin rfl rfl rfl b_neq) ?_
    refine q_val (v := .bool (!decide ((x14 : Int) = x5.pr))) (wt0 rfl) rfl rfl (fun wx H => x_pick_f rfl rfl (decide_eq_false (by omega)) rfl) ?_
    refine q_nil (fun wq18 H19 => ?_)
    refine g_then ?_
    by_cases hb20 : (x14 : Int) = x5.pr
    ·
     refine g_cond_f rfl (nf hb20) ?_
     refine g_skip ?_
     refine g_in ?_
     refine g_then ?_
     refine g_weak [(3, .slice po mo co), (7, .slice p n c), (8, .int .i64 ((n : Int))), (9, .int .i64 ((i : Int))), (18, .slice po mo co), (19, .int .i64 ((at_ : Int))), (20, .pointer ((po).map fun q => q.add (at_ * 1))), (21, .int .i64 x14), (22, .pointer (some ⟨g6, 0, none⟩)), (23, .int .i64 (x5.pr)), (24, .bool (decide ((x14 : Int) < x5.pr))), (33, .slice po mo co), (34, .int .i64 ((at_ : Int))), (35, .pointer ((po).map fun q => q.add (at_ * 1))), (36, .int .i64 x14), (37, .pointer (some ⟨g6, 0, none⟩)), (38, .int .i64 (x5.pr)), (39, .bool (!decide ((x14 : Int) = x5.pr)))] ⟨rfl, rfl, rfl, rfl, rfl, rfl, rfl, rfl, rfl, rfl, rfl, rfl, rfl, rfl, rfl, rfl, rfl, rfl, trivial⟩ ?_
     refine g_region ?_
     refine w_b (v := .int .i64 (((i + 1 : Nat) : Int))) (hb := (b_add (by rw [w64 (by omega)]; omega))) ?_
     refine w_m ?_
     refine w_e ?_
     refine g_round (i := (i, out, po, mo, co)) ((i + 1), out, po, mo, co) ?_ ?_ ?_
     · exact ⟨rfl, rfl, rfl, rfl, trivial⟩
     · exact ⟨by omega, (by rw [take_snoc hx5, List.map_append, List.map_singleton]; exact ins_same ho (hb20 ▸ hx14)), ⟨hno.1, by omega⟩, (H19.takes [1, 2] (by decide))⟩
     · (try dsimp only); omega
    ·
     refine g_cond_t rfl (nt hb20) ?_
     refine g_any [] (fun wx => S wx [Ob g6 (.cells #[.int .i64 (x5.pr), .int .i64 (x5.pc), .int .i64 (x5.bg), .int .i64 (x5.ln), .string (x5.dg)] 109 (0, 0))]) [] (by kernel_rfl) H19 (fun wq21 H22 => ?_)
     refine w_t 0 rfl (H22.mask [true, false, false]) (fun _ _ => xm) ?_
     refine w_t 1 rfl (H22.mask [true, false, false]) (fun _ _ => xm) ?_
     refine w_t 2 rfl (H22.mask [true, false, false]) (fun _ _ => xm) ?_
     have hnc := (H22.rwReads (k := 1) rfl).2.1
     refine w_t (v := .slice (clipP po at_ 1) at_ at_) 3 rfl (H22.mask [true, false, false]) (fun _ _ => x_clip at_ at_ rfl rfl rfl rfl Try.underlying24 sz3 (by omega)) ?_
     refine w_t 4 rfl (H22.mask [true, false, false]) (fun _ _ => xf 0) ?_
     refine w_t 5 rfl (H22.mask [true, false, false]) (fun _ H => xl H 0) ?_
     refine w_t 7 rfl (H22.mask [true, false, false]) (fun _ _ => xm) ?_
     refine w_t 8 rfl (H22.mask [true, false, false]) (fun _ _ => xm) ?_
     have hnc := (H22.rwReads (k := 1) rfl).2.1
     refine w_t (v := .slice (cutP po at_ co 1) (mo - at_) (co - at_)) 9 rfl (H22.mask [true, false, false]) (fun _ _ => x_cut at_ rfl rfl rfl Try.underlying24 sz3 (by omega)) ?_
     refine a_one (i := 6) (by kernel_rfl) rfl ?_
     refine s_buildSlice H22 (wt0 rfl) rfl rfl rfl (vs := [.int .i64 (x5.pr)]) rfl Try.underlying24 sz3 ze3 rfl rfl (cells := #[.int .i64 (x5.pr)]) (by kernel_rfl) ?_
     intro g23 wq24 H25
     refine a_k (H25.mask [false, true, false, false]) ?_
     refine a_one (i := 10) (by kernel_rfl) rfl ?_
     have H26 : S wq24 [Rw 3 1 (some ⟨g23, 0, none⟩) 1 1 (fl intL ([x5.pr])), Ob g6 (.cells #[.int .i64 (x5.pr), .int .i64 (x5.pc), .int .i64 (x5.bg), .int .i64 (x5.ln), .string (x5.dg)] 109 (0, 0)), Rw 3 1 po mo co (fl intL out), Old w no] := S.obFl intE H25 (k := 0) rfl rfl (by decide) rfl
     refine s_appL (l := [x5.pr]) (l2 := (out.drop at_)) intE H26 0 (wt0 rfl) rfl rfl rfl rfl rfl rfl Try.underlying24 inf3 rfl (by decide) ((H26.rwReads (k := 2) rfl).cutL intE at_ (by omega)) (by omega) ?_
     intro p27 c28 wq29 H30
     refine a_k (H30.mask [false, true, false, false]) ?_
     refine a_one (i := 11) (by kernel_rfl) rfl ?_
     refine s_appC (l := (out.take at_)) (l2 := ([x5.pr] ++ (out.drop at_))) intE H30 (wt0 rfl) rfl rfl rfl rfl rfl ((H30.rwReads (k := 2) rfl).clipL intE at_ (by omega)) Try.underlying24 inf3 rfl (by decide) (H30.rwReads (k := 0) rfl) (by omega) (by omega) ?_
     intro p31 c32 wq33 H34
     have cm1 := H34.mask [false, false, true, false, false]
     refine a_k cm1 ?_
     refine w_t 12 rfl cm1 (fun _ _ => xa) ?_
     refine a_done (by kernel_rfl) ?_
     refine g_in ?_
     refine g_then ?_
     refine g_weak [(3, .slice p31 (at_ + (1 + (mo - at_))) c32), (7, .slice p n c), (8, .int .i64 ((n : Int))), (9, .int .i64 ((i : Int))), (18, .slice po mo co), (19, .int .i64 ((at_ : Int))), (20, .pointer ((po).map fun q => q.add (at_ * 1))), (21, .int .i64 x14), (22, .pointer (some ⟨g6, 0, none⟩)), (23, .int .i64 (x5.pr)), (24, .bool (decide ((x14 : Int) < x5.pr))), (33, .slice po mo co), (34, .int .i64 ((at_ : Int))), (35, .pointer ((po).map fun q => q.add (at_ * 1))), (36, .int .i64 x14), (37, .pointer (some ⟨g6, 0, none⟩)), (38, .int .i64 (x5.pr)), (39, .bool (!decide ((x14 : Int) = x5.pr)))] ⟨rfl, rfl, rfl, rfl, rfl, rfl, rfl, rfl, rfl, rfl, rfl, rfl, rfl, rfl, rfl, rfl, rfl, rfl, trivial⟩ ?_
     refine g_region ?_
     refine w_b (v := .int .i64 (((i + 1 : Nat) : Int))) (hb := (b_add (by rw [w64 (by omega)]; omega))) ?_
     refine w_m ?_
     refine w_e ?_
     refine g_round (i := (i, out, po, mo, co)) ((i + 1), ((out.take at_) ++ ([x5.pr] ++ (out.drop at_))), p31, at_ + (1 + (mo - at_)), c32) ?_ ?_ ?_
     · exact ⟨rfl, rfl, rfl, rfl, trivial⟩
     · exact ⟨by omega, (by rw [take_snoc hx5, List.map_append, List.map_singleton]; exact ins_asc ho hat (at_is hx14 (by omega))), ⟨by simp only [List.length_append, List.length_take, List.length_drop, List.length_singleton]; omega, by omega⟩, (H34.takes [0, 4] (by decide))⟩
     · (try dsimp only); omega
  ·
   refine q_not (wn1 rfl rfl rfl rfl (decide_eq_false hb13)) rfl rfl ?_
   refine q_not (wn1 rfl rfl rfl rfl (decide_eq_false hb13)) rfl rfl ?_
   refine q_not (wn1 rfl rfl rfl rfl (decide_eq_false hb13)) rfl rfl ?_
   refine q_not (wn1 rfl rfl rfl rfl (decide_eq_false hb13)) rfl rfl ?_
   refine q_not (wn1 rfl rfl rfl rfl (decide_eq_false hb13)) rfl rfl ?_
   refine q_not (wn1 rfl rfl rfl rfl (decide_eq_false hb13)) rfl rfl ?_
   refine q_not (wn1 rfl rfl rfl rfl (decide_eq_false hb13)) rfl rfl ?_
   refine q_val (v := .bool false) (wt0 rfl) rfl rfl (fun wx H => x_pick_f rfl rfl (decide_eq_false hb13) rfl) ?_
   refine q_nil (fun wq35 H36 => ?_)
   refine g_then ?_
   refine g_cond_f rfl rfl ?_
   refine g_exit ?_
   refine g_then_exit ?_
   refine g_then_exit ?_
   refine g_in_hit ?_
   refine g_then ?_
   refine g_seq ?_
   refine g_quiet (by kernel_rfl) (by kernel_rfl) H36 ?_
   refine q_val (v := .int .i64 ((at_ : Int))) (wt0 rfl) rfl rfl (fun wx H => x_move rfl rfl) ?_
   refine q_val (v := .slice po mo co) (wt0 rfl) rfl rfl (fun wx H => x_move rfl rfl) ?_
   refine q_val (v := .int .i64 ((mo : Int))) (wt0 rfl) rfl rfl (fun wx H => x_lenl rfl rfl Try.underlying24) ?_
   refine q_val (v := .bool (decide (((at_ : Int) : Int) = (mo : Int)))) (wt0 rfl) rfl rfl (fun wx H => x_bin rfl rfl rfl b_eql) ?_
   refine q_val (v := .bool (decide (((at_ : Int) : Int) = (mo : Int)))) (wt0 rfl) rfl rfl (fun wx H => x_move rfl rfl) ?_
   refine q_not (wn1 rfl rfl rfl rfl (decide_eq_true (by omega))) rfl rfl ?_
   refine q_not (wn1 rfl rfl rfl rfl (decide_eq_true (by omega))) rfl rfl ?_
   refine q_not (wn1 rfl rfl rfl rfl (decide_eq_true (by omega))) rfl rfl ?_
   refine q_not (wn1 rfl rfl rfl rfl (decide_eq_true (by omega))) rfl rfl ?_
   refine q_not (wn1 rfl rfl rfl rfl (decide_eq_true (by omega))) rfl rfl ?_
   refine q_not (wn1 rfl rfl rfl rfl (decide_eq_true (by omega))) rfl rfl ?_
   refine q_not (wn1 rfl rfl rfl rfl (decide_eq_true (by omega))) rfl rfl ?_
   refine q_val (v := .bool true) (wt0 rfl) rfl rfl (fun wx H => x_pick_t rfl rfl (decide_eq_true (by omega)) rfl) ?_
   refine q_nil (fun wq37 H38 => ?_)
   refine g_then ?_
   refine g_cond_t rfl rfl ?_
   refine g_any [] (fun wx => S wx [Ob g6 (.cells #[.int .i64 (x5.pr), .int .i64 (x5.pc), .int .i64 (x5.bg), .int .i64 (x5.ln), .string (x5.dg)] 109 (0, 0))]) [] (by kernel_rfl) H38 (fun wq39 H40 => ?_)
   refine w_t 0 rfl (H40.mask [true, false, false]) (fun _ _ => xm) ?_
   refine w_t 1 rfl (H40.mask [true, false, false]) (fun _ _ => xm) ?_
   refine w_t 2 rfl (H40.mask [true, false, false]) (fun _ _ => xm) ?_
   have hnc := (H40.rwReads (k := 1) rfl).2.1
   refine w_t (v := .slice (clipP po at_ 1) at_ at_) 3 rfl (H40.mask [true, false, false]) (fun _ _ => x_clip at_ at_ rfl rfl rfl rfl Try.underlying24 sz3 (by omega)) ?_
   refine w_t 4 rfl (H40.mask [true, false, false]) (fun _ _ => xf 0) ?_
   refine w_t 5 rfl (H40.mask [true, false, false]) (fun _ H => xl H 0) ?_
   refine w_t 7 rfl (H40.mask [true, false, false]) (fun _ _ => xm) ?_
   refine w_t 8 rfl (H40.mask [true, false, false]) (fun _ _ => xm) ?_
   have hnc := (H40.rwReads (k := 1) rfl).2.1
   refine w_t (v := .slice (cutP po at_ co 1) (mo - at_) (co - at_)) 9 rfl (H40.mask [true, false, false]) (fun _ _ => x_cut at_ rfl rfl rfl Try.underlying24 sz3 (by omega)) ?_
   refine a_one (i := 6) (by kernel_rfl) rfl ?_
   refine s_buildSlice H40 (wt0 rfl) rfl rfl rfl (vs := [.int .i64 (x5.pr)]) rfl Try.underlying24 sz3 ze3 rfl rfl (cells := #[.int .i64 (x5.pr)]) (by kernel_rfl) ?_
   intro g41 wq42 H43
   refine a_k (H43.mask [false, true, false, false]) ?_
   refine a_one (i := 10) (by kernel_rfl) rfl ?_
   have H44 : S wq42 [Rw 3 1 (some ⟨g41, 0, none⟩) 1 1 (fl intL ([x5.pr])), Ob g6 (.cells #[.int .i64 (x5.pr), .int .i64 (x5.pc), .int .i64 (x5.bg), .int .i64 (x5.ln), .string (x5.dg)] 109 (0, 0)), Rw 3 1 po mo co (fl intL out), Old w no] := S.obFl intE H43 (k := 0) rfl rfl (by decide) rfl
   refine s_appL (l := [x5.pr]) (l2 := (out.drop at_)) intE H44 0 (wt0 rfl) rfl rfl rfl rfl rfl rfl Try.underlying24 inf3 rfl (by decide) ((H44.rwReads (k := 2) rfl).cutL intE at_ (by omega)) (by omega) ?_
   intro p45 c46 wq47 H48
   refine a_k (H48.mask [false, true, false, false]) ?_
   refine a_one (i := 11) (by kernel_rfl) rfl ?_
   refine s_appC (l := (out.take at_)) (l2 := ([x5.pr] ++ (out.drop at_))) intE H48 (wt0 rfl) rfl rfl rfl rfl rfl ((H48.rwReads (k := 2) rfl).clipL intE at_ (by omega)) Try.underlying24 inf3 rfl (by decide) (H48.rwReads (k := 0) rfl) (by omega) (by omega) ?_
   intro p49 c50 wq51 H52
   have cm2 := H52.mask [false, false, true, false, false]
   refine a_k cm2 ?_
   refine w_t 12 rfl cm2 (fun _ _ => xa) ?_
   refine a_done (by kernel_rfl) ?_
   refine g_in ?_
   refine g_then ?_
   refine g_weak [(3, .slice p49 (at_ + (1 + (mo - at_))) c50), (7, .slice p n c), (8, .int .i64 ((n : Int))), (9, .int .i64 ((i : Int))), (18, undef), (19, undef), (20, undef), (21, undef), (22, undef), (23, undef), (24, undef), (33, undef), (34, undef), (35, undef), (36, undef), (37, undef), (38, undef), (39, undef)] ⟨rfl, rfl, rfl, rfl, rfl, rfl, rfl, rfl, rfl, rfl, rfl, rfl, rfl, rfl, rfl, rfl, rfl, rfl, trivial⟩ ?_
   refine g_region ?_
   refine w_b (v := .int .i64 (((i + 1 : Nat) : Int))) (hb := (b_add (by rw [w64 (by omega)]; omega))) ?_
   refine w_m ?_
   refine w_e ?_
   refine g_round (i := (i, out, po, mo, co)) ((i + 1), ((out.take at_) ++ ([x5.pr] ++ (out.drop at_))), p49, at_ + (1 + (mo - at_)), c50) ?_ ?_ ?_
   · exact ⟨rfl, rfl, rfl, rfl, trivial⟩
   · exact ⟨by omega, (by rw [take_snoc hx5, List.map_append, List.map_singleton]; exact ins_asc ho hat (at_end (by omega))), ⟨by simp only [List.length_append, List.length_take, List.length_drop, List.length_singleton]; omega, by omega⟩, (H52.takes [0, 4] (by decide))⟩
   · (try dsimp only); omega
 ·
  refine g_cond_f rfl (decide_eq_false hb4) ?_
  refine g_exit ?_
  refine g_then_exit ?_
  refine g_then_exit ?_
  refine g_in_hit ?_
  refine g_then ?_
  refine w_s ?_
  refine w_r2 ?_
  refine w_e ?_
  refine g_ret ?_
  refine fin_ret [.tmp 2] [.slice po mo co] rfl ⟨rfl, trivial⟩ ?_
  have hin : i = n := by omega
  subst hin
  have hlen := hr.lenL e5E
  rw [List.take_of_length_le (by omega)] at ho
  subst ho
  exact ⟨po, co, by rw [hno.1]; rfl, by rw [← hno.1]; exact H3.takes [0, 1] (by decide)⟩
end Go.Proofs.Ytlikhpfdncidkaa
