import Derived.Test.YtlikhpfdncidkaaFk
import Derived.Test.YtlikhpfdncidkaaBq
set_option linter.unusedSimpArgs false
set_option linter.unusedVariables false
namespace Go.Proofs.Ytlikhpfdncidkaa
open Go.RowKit

theorem cl29 : callable Try.prog 29 = true := by kernel_rfl
theorem cl30 : callable Try.prog 30 = true := by kernel_rfl
theorem cl31 : callable Try.prog 31 = true := by kernel_rfl
theorem cl36 : callable Try.prog 36 = true := by kernel_rfl
theorem cl39 : callable Try.prog 39 = true := by kernel_rfl
theorem cl58 : callable Try.prog 58 = true := by kernel_rfl
theorem fo37_0 : foO Try.prog 37 0 = some 0 := by kernel_rfl
theorem fo37_1 : foO Try.prog 37 1 = some 1 := by kernel_rfl
theorem fo37_2 : foO Try.prog 37 2 = some 2 := by kernel_rfl
theorem fo62_0 : foO Try.prog 62 0 = some 0 := by kernel_rfl
theorem fo62_1 : foO Try.prog 62 1 = some 1 := by kernel_rfl
theorem fo66_0 : foO Try.prog 66 0 = some 0 := by kernel_rfl
theorem fo66_1 : foO Try.prog 66 1 = some 2 := by kernel_rfl
theorem fo66_2 : foO Try.prog 66 2 = some 3 := by kernel_rfl
theorem sz70 : szO Try.prog 70 = some 1 := by kernel_rfl
theorem ze67 : zeO Try.prog 67 = some (.slice none 0 0) := by kernel_rfl
theorem ze70 : zeO Try.prog 70 = some (.map none) := by kernel_rfl
def peerB (p : Int) : Bool := decide (1 ≤ p) && decide (p ≤ 1000)
def pieceB (i : Int) : Bool := decide (0 ≤ i) && decide (i < 4096)
def blockB (i b l : Int) : Bool := pieceB i && decide (0 ≤ b) && decide (1 ≤ l) && decide (b ≤ 1024) && decide (l ≤ 1024 - b)
def onOld (od : Int → Option (Ro Nat)) (ct : Nat → Tr) (p : Int) : Prop := ∃ i, okI i ∧ ∃ m ∈ odR od i, p ∈ whoL (ct m)
noncomputable def parB (bn : Int → Option Bool) (od : Int → Option (Ro Nat)) (ct : Nat → Tr) (p : Int) : Bool := !((bn p).getD false) && (open Classical in decide (onOld od ct p))
theorem parB_ban {bn : Int → Option Bool} {od : Int → Option (Ro Nat)} {ct : Nat → Tr} {p : Int} (h : (bn p).getD false = true) : parB bn od ct p = false := by unfold parB; rw [h]; rfl
theorem parB_yes {bn : Int → Option Bool} {od : Int → Option (Ro Nat)} {ct : Nat → Tr} {p : Int} (h : (bn p).getD false = false) (h2 : onOld od ct p) : parB bn od ct p = true := by
  unfold parB; rw [h, @decide_eq_true _ (_) h2]; rfl
theorem parB_no {bn : Int → Option Bool} {od : Int → Option (Ro Nat)} {ct : Nat → Tr} {p : Int} (h : (bn p).getD false = false) (h2 : ¬ onOld od ct p) : parB bn od ct p = false := by
  unfold parB; rw [h, @decide_eq_false _ (_) h2]; rfl
noncomputable def mayB (bn : Int → Option Bool) (nw : Int → Option Nat) (od : Int → Option (Ro Nat)) (ct : Nat → Tr) (p i : Int) : Bool := peerB p && pieceB i && !((bn p).getD false) && (whoL (tryOf ct (nw i))).all fun x => decide (x = p) || !(parB bn od ct p || parB bn od ct x)
set_option maxRecDepth 20000 in
set_option maxHeartbeats 4000000 in
set_option maxRecDepth 20000 in
set_option maxHeartbeats 4000000 in
theorem peer_s (p : Int) (w : World) : Calls Try.prog 32 #[.int .i64 p] w fun e w' => e = .returned (.bool (peerB p)) ∧ S w' [Old w no] := by
 have H0 := S.old w
 refine enter 9 Try.func32 rfl rfl rfl ?_
 refine g_weak [(0, .int .i64 p)] ⟨rfl, trivial⟩ ?_
 refine g_seq ?_
 refine g_region ?_
 refine l_of (s_val (v := .bool false) (wt0 rfl) rfl rfl (x_assign rfl rfl) ?_)
 refine g_nil ?_
 refine g_then ?_
 refine g_seq ?_
 refine g_region ?_
 refine l_of (s_val (v := .int .i64 p) (wt0 rfl) rfl rfl (x_move rfl rfl) ?_)
 refine l_of (s_val (v := .bool (decide ((1 : Int) ≤ p))) (wt0 rfl) rfl rfl (x_bin rfl rfl rfl b_geq) ?_)
 refine l_of (s_val (v := .bool (decide ((1 : Int) ≤ p))) (wt0 rfl) rfl rfl (x_move rfl rfl) ?_)
 by_cases hb1 : (1 : Int) ≤ p
 ·
  refine l_of (s_val (v := .int .i64 p) (wt1 rfl rfl rfl rfl (decide_eq_true hb1)) rfl rfl (x_move rfl rfl) ?_)
  refine l_of (s_val (v := .bool (decide ((p : Int) ≤ 1000))) (wt1 rfl rfl rfl rfl (decide_eq_true hb1)) rfl rfl (x_bin rfl rfl rfl b_leq) ?_)
  refine l_of (s_val (v := .bool (decide ((p : Int) ≤ 1000))) (wt0 rfl) rfl rfl (x_pick_t rfl rfl (decide_eq_true hb1) rfl) ?_)
  refine l_of (s_val (v := .bool (decide ((p : Int) ≤ 1000))) (wt0 rfl) rfl rfl (x_assign rfl rfl) ?_)
  refine g_nil ?_
  refine g_then ?_
  refine g_ret ?_
  refine fin_ret [.tmp 2] [.bool (decide ((p : Int) ≤ 1000))] rfl ⟨rfl, trivial⟩ ?_
  exact ⟨by simp [peerB, tupled, hb1], H0.mask [true]⟩
 ·
  refine l_of (s_not (wn1 rfl rfl rfl rfl (decide_eq_false hb1)) rfl rfl ?_)
  refine l_of (s_not (wn1 rfl rfl rfl rfl (decide_eq_false hb1)) rfl rfl ?_)
  refine l_of (s_val (v := .bool false) (wt0 rfl) rfl rfl (x_pick_f rfl rfl (decide_eq_false hb1) rfl) ?_)
  refine l_of (s_val (v := .bool false) (wt0 rfl) rfl rfl (x_assign rfl rfl) ?_)
  refine g_nil ?_
  refine g_then ?_
  refine g_ret ?_
  refine fin_ret [.tmp 2] [.bool false] rfl ⟨rfl, trivial⟩ ?_
  exact ⟨by simp [peerB, tupled, hb1], H0.mask [true]⟩
set_option maxRecDepth 20000 in
set_option maxHeartbeats 4000000 in
set_option maxRecDepth 20000 in
set_option maxHeartbeats 4000000 in
theorem piece_s (i : Int) (w : World) : Calls Try.prog 39 #[.int .i64 i] w fun e w' => e = .returned (.bool (pieceB i)) ∧ S w' [Old w no] := by
 have H0 := S.old w
 refine enter 9 Try.func39 rfl rfl rfl ?_
 refine g_weak [(0, .int .i64 i)] ⟨rfl, trivial⟩ ?_
 refine g_seq ?_
 refine g_region ?_
 refine l_of (s_val (v := .bool false) (wt0 rfl) rfl rfl (x_assign rfl rfl) ?_)
 refine g_nil ?_
 refine g_then ?_
 refine g_seq ?_
 refine g_region ?_
 refine l_of (s_val (v := .int .i64 i) (wt0 rfl) rfl rfl (x_move rfl rfl) ?_)
 refine l_of (s_val (v := .bool (decide ((0 : Int) ≤ i))) (wt0 rfl) rfl rfl (x_bin rfl rfl rfl b_geq) ?_)
 refine l_of (s_val (v := .bool (decide ((0 : Int) ≤ i))) (wt0 rfl) rfl rfl (x_move rfl rfl) ?_)
 by_cases hb1 : (0 : Int) ≤ i
 ·
  refine l_of (s_val (v := .int .i64 i) (wt1 rfl rfl rfl rfl (decide_eq_true hb1)) rfl rfl (x_move rfl rfl) ?_)
  refine l_of (s_val (v := .bool (decide ((i : Int) < 4096))) (wt1 rfl rfl rfl rfl (decide_eq_true hb1)) rfl rfl (x_bin rfl rfl rfl b_lss) ?_)
  refine l_of (s_val (v := .bool (decide ((i : Int) < 4096))) (wt0 rfl) rfl rfl (x_pick_t rfl rfl (decide_eq_true hb1) rfl) ?_)
  refine l_of (s_val (v := .bool (decide ((i : Int) < 4096))) (wt0 rfl) rfl rfl (x_assign rfl rfl) ?_)
  refine g_nil ?_
  refine g_then ?_
  refine g_ret ?_
  refine fin_ret [.tmp 2] [.bool (decide ((i : Int) < 4096))] rfl ⟨rfl, trivial⟩ ?_
  exact ⟨by simp [pieceB, tupled, hb1], H0.mask [true]⟩
 ·
  refine l_of (s_not (wn1 rfl rfl rfl rfl (decide_eq_false hb1)) rfl rfl ?_)
  refine l_of (s_not (wn1 rfl rfl rfl rfl (decide_eq_false hb1)) rfl rfl ?_)
  refine l_of (s_val (v := .bool false) (wt0 rfl) rfl rfl (x_pick_f rfl rfl (decide_eq_false hb1) rfl) ?_)
  refine l_of (s_val (v := .bool false) (wt0 rfl) rfl rfl (x_assign rfl rfl) ?_)
  refine g_nil ?_
  refine g_then ?_
  refine g_ret ?_
  refine fin_ret [.tmp 2] [.bool false] rfl ⟨rfl, trivial⟩ ?_
  exact ⟨by simp [pieceB, tupled, hb1], H0.mask [true]⟩
set_option maxRecDepth 20000 in
set_option maxHeartbeats 4000000 in
set_option maxRecDepth 20000 in
set_option maxHeartbeats 4000000 in
theorem block_s (i b l : Int) (w : World) : Calls Try.prog 33 #[.agg #[.int .i64 i, .int .i64 b, .int .i64 l]] w fun e w' => e = .returned (.bool (blockB i b l)) ∧ S w' [Old w no] := by
 have H0 := S.old w
 refine enter 29 Try.func33 rfl rfl rfl ?_
 refine g_weak [(0, .agg #[.int .i64 i, .int .i64 b, .int .i64 l])] ⟨rfl, trivial⟩ ?_
 refine g_seq ?_
 refine g_region ?_
 refine l_of (s_box H0 (wt0 rfl) rfl rfl rfl rfl ?_)
 intro g1 wq2 H3
 refine l_of (s_val (v := .bool false) (wt0 rfl) rfl rfl (x_assign rfl rfl) ?_)
 refine g_nil ?_
 refine g_then ?_
 refine g_seq ?_
 refine g_region ?_
 refine l_of (s_val (v := .pointer (some ⟨g1, 0, none⟩)) (wt0 rfl) rfl rfl (x_fieldAddr rfl rfl fo37_0 rfl) ?_)
 refine l_of (s_val (v := .int .i64 i) (wt0 rfl) rfl rfl (x_load1 H3 0 rfl rfl Try.underlying3 rfl rfl rfl) ?_)
 refine l_of (s_call (wt0 rfl) (x_call' rfl rfl cl39) (piece_s _ _) ?_)
 rintro _ wq4 ⟨rfl, H5⟩
 replace H5 : S wq4 [Ob g1 (.cells #[.int .i64 i, .int .i64 b, .int .i64 l] 37 (0, 0)), Old w no] := H3.absorb (new := []) H5
 refine b_ret rfl rfl ?_
 refine l_of (s_val (v := .bool ((pieceB i))) (wt0 rfl) rfl rfl (x_move rfl rfl) ?_)
 rcases Bool.eq_false_or_eq_true ((pieceB i)) with hb6 | hb6
 ·
  refine l_of (s_val (v := .pointer (some ⟨g1, 1, none⟩)) (wt1 rfl rfl rfl rfl hb6) rfl rfl (x_fieldAddr rfl rfl fo37_1 rfl) ?_)
  refine l_of (s_val (v := .int .i64 b) (wt1 rfl rfl rfl rfl hb6) rfl rfl (x_load1 H5 0 rfl rfl Try.underlying3 rfl rfl rfl) ?_)
  refine l_of (s_val (v := .bool (decide ((0 : Int) ≤ b))) (wt1 rfl rfl rfl rfl hb6) rfl rfl (x_bin rfl rfl rfl b_geq) ?_)
  refine l_of (s_val (v := .bool (decide ((0 : Int) ≤ b))) (wt0 rfl) rfl rfl (x_pick_t rfl rfl hb6 rfl) ?_)
  refine l_of (s_val (v := .bool (decide ((0 : Int) ≤ b))) (wt0 rfl) rfl rfl (x_move rfl rfl) ?_)
  by_cases hb7 : (0 : Int) ≤ b
  ·
   refine l_of (s_val (v := .pointer (some ⟨g1, 2, none⟩)) (wt1 rfl rfl rfl rfl (decide_eq_true hb7)) rfl rfl (x_fieldAddr rfl rfl fo37_2 rfl) ?_)
   refine l_of (s_val (v := .int .i64 l) (wt1 rfl rfl rfl rfl (decide_eq_true hb7)) rfl rfl (x_load1 H5 0 rfl rfl Try.underlying3 rfl rfl rfl) ?_)
   refine l_of (s_val (v := .bool (decide ((1 : Int) ≤ l))) (wt1 rfl rfl rfl rfl (decide_eq_true hb7)) rfl rfl (x_bin rfl rfl rfl b_geq) ?_)
   refine l_of (s_val (v := .bool (decide ((1 : Int) ≤ l))) (wt0 rfl) rfl rfl (x_pick_t rfl rfl (decide_eq_true hb7) rfl) ?_)
   refine l_of (s_val (v := .bool (decide ((1 : Int) ≤ l))) (wt0 rfl) rfl rfl (x_move rfl rfl) ?_)
   by_cases hb8 : (1 : Int) ≤ l
   ·
    refine l_of (s_val (v := .pointer (some ⟨g1, 1, none⟩)) (wt1 rfl rfl rfl rfl (decide_eq_true hb8)) rfl rfl (x_fieldAddr rfl rfl fo37_1 rfl) ?_)
    refine l_of (s_val (v := .int .i64 b) (wt1 rfl rfl rfl rfl (decide_eq_true hb8)) rfl rfl (x_load1 H5 0 rfl rfl Try.underlying3 rfl rfl rfl) ?_)
    refine l_of (s_val (v := .bool (decide ((b : Int) ≤ 1024))) (wt1 rfl rfl rfl rfl (decide_eq_true hb8)) rfl rfl (x_bin rfl rfl rfl b_leq) ?_)
    refine l_of (s_val (v := .bool (decide ((b : Int) ≤ 1024))) (wt0 rfl) rfl rfl (x_pick_t rfl rfl (decide_eq_true hb8) rfl) ?_)
    refine l_of (s_val (v := .bool (decide ((b : Int) ≤ 1024))) (wt0 rfl) rfl rfl (x_move rfl rfl) ?_)
    by_cases hb9 : (b : Int) ≤ 1024
    ·
     refine l_of (s_val (v := .pointer (some ⟨g1, 2, none⟩)) (wt1 rfl rfl rfl rfl (decide_eq_true hb9)) rfl rfl (x_fieldAddr rfl rfl fo37_2 rfl) ?_)
     refine l_of (s_val (v := .int .i64 l) (wt1 rfl rfl rfl rfl (decide_eq_true hb9)) rfl rfl (x_load1 H5 0 rfl rfl Try.underlying3 rfl rfl rfl) ?_)
     refine l_of (s_val (v := .pointer (some ⟨g1, 1, none⟩)) (wt1 rfl rfl rfl rfl (decide_eq_true hb9)) rfl rfl (x_fieldAddr rfl rfl fo37_1 rfl) ?_)
     refine l_of (s_val (v := .int .i64 b) (wt1 rfl rfl rfl rfl (decide_eq_true hb9)) rfl rfl (x_load1 H5 0 rfl rfl Try.underlying3 rfl rfl rfl) ?_)
     refine l_of (s_val (v := .int .i64 (1024 - b)) (wt1 rfl rfl rfl rfl (decide_eq_true hb9)) rfl rfl (x_bin rfl rfl rfl (b_sub (w64 (by omega)))) ?_)
     refine l_of (s_val (v := .bool (decide ((l : Int) ≤ 1024 - b))) (wt1 rfl rfl rfl rfl (decide_eq_true hb9)) rfl rfl (x_bin rfl rfl rfl b_leq) ?_)
     refine l_of (s_val (v := .bool (decide ((l : Int) ≤ 1024 - b))) (wt0 rfl) rfl rfl (x_pick_t rfl rfl (decide_eq_true hb9) rfl) ?_)
     refine l_of (s_val (v := .bool (decide ((l : Int) ≤ 1024 - b))) (wt0 rfl) rfl rfl (x_assign rfl rfl) ?_)
     refine g_nil ?_
     refine g_then ?_
     refine g_weak [(2, .bool (decide ((l : Int) ≤ 1024 - b)))] ⟨rfl, trivial⟩ ?_
     refine g_ret ?_
     refine fin_ret [.tmp 2] [.bool (decide ((l : Int) ≤ 1024 - b))] rfl ⟨rfl, trivial⟩ ?_
     exact ⟨by simp [blockB, tupled, hb6, hb7, hb8, hb9], H5.mask [false, true]⟩
    ·
     refine l_of (s_not (wn1 rfl rfl rfl rfl (decide_eq_false hb9)) rfl rfl ?_)
     refine l_of (s_not (wn1 rfl rfl rfl rfl (decide_eq_false hb9)) rfl rfl ?_)
     refine l_of (s_not (wn1 rfl rfl rfl rfl (decide_eq_false hb9)) rfl rfl ?_)
     refine l_of (s_not (wn1 rfl rfl rfl rfl (decide_eq_false hb9)) rfl rfl ?_)
     refine l_of (s_not (wn1 rfl rfl rfl rfl (decide_eq_false hb9)) rfl rfl ?_)
     refine l_of (s_not (wn1 rfl rfl rfl rfl (decide_eq_false hb9)) rfl rfl ?_)
     refine l_of (s_val (v := .bool false) (wt0 rfl) rfl rfl (x_pick_f rfl rfl (decide_eq_false hb9) rfl) ?_)
     refine l_of (s_val (v := .bool false) (wt0 rfl) rfl rfl (x_assign rfl rfl) ?_)
     refine g_nil ?_
     refine g_then ?_
     refine g_weak [(2, .bool false)] ⟨rfl, trivial⟩ ?_
     refine g_ret ?_
     refine fin_ret [.tmp 2] [.bool false] rfl ⟨rfl, trivial⟩ ?_
     exact ⟨by simp [blockB, tupled, hb6, hb7, hb8, hb9], H5.mask [false, true]⟩
   ·
    refine l_of (s_not (wn1 rfl rfl rfl rfl (decide_eq_false hb8)) rfl rfl ?_)
    refine l_of (s_not (wn1 rfl rfl rfl rfl (decide_eq_false hb8)) rfl rfl ?_)
    refine l_of (s_not (wn1 rfl rfl rfl rfl (decide_eq_false hb8)) rfl rfl ?_)
    refine l_of (s_val (v := .bool false) (wt0 rfl) rfl rfl (x_pick_f rfl rfl (decide_eq_false hb8) rfl) ?_)
    refine l_of (s_val (v := .bool false) (wt0 rfl) rfl rfl (x_move rfl rfl) ?_)
    refine l_of (s_not (wn1 rfl rfl rfl rfl rfl) rfl rfl ?_)
    refine l_of (s_not (wn1 rfl rfl rfl rfl rfl) rfl rfl ?_)
    refine l_of (s_not (wn1 rfl rfl rfl rfl rfl) rfl rfl ?_)
    refine l_of (s_not (wn1 rfl rfl rfl rfl rfl) rfl rfl ?_)
    refine l_of (s_not (wn1 rfl rfl rfl rfl rfl) rfl rfl ?_)
    refine l_of (s_not (wn1 rfl rfl rfl rfl rfl) rfl rfl ?_)
    refine l_of (s_val (v := .bool false) (wt0 rfl) rfl rfl (x_pick_f rfl rfl rfl rfl) ?_)
    refine l_of (s_val (v := .bool false) (wt0 rfl) rfl rfl (x_assign rfl rfl) ?_)
    refine g_nil ?_
    refine g_then ?_
    refine g_weak [(2, .bool false)] ⟨rfl, trivial⟩ ?_
    refine g_ret ?_
    refine fin_ret [.tmp 2] [.bool false] rfl ⟨rfl, trivial⟩ ?_
    exact ⟨by simp [blockB, tupled, hb6, hb7, hb8], H5.mask [false, true]⟩
  ·
   refine l_of (s_not (wn1 rfl rfl rfl rfl (decide_eq_false hb7)) rfl rfl ?_)
   refine l_of (s_not (wn1 rfl rfl rfl rfl (decide_eq_false hb7)) rfl rfl ?_)
   refine l_of (s_not (wn1 rfl rfl rfl rfl (decide_eq_false hb7)) rfl rfl ?_)
   refine l_of (s_val (v := .bool false) (wt0 rfl) rfl rfl (x_pick_f rfl rfl (decide_eq_false hb7) rfl) ?_)
   refine l_of (s_val (v := .bool false) (wt0 rfl) rfl rfl (x_move rfl rfl) ?_)
   refine l_of (s_not (wn1 rfl rfl rfl rfl rfl) rfl rfl ?_)
   refine l_of (s_not (wn1 rfl rfl rfl rfl rfl) rfl rfl ?_)
   refine l_of (s_not (wn1 rfl rfl rfl rfl rfl) rfl rfl ?_)
   refine l_of (s_val (v := .bool false) (wt0 rfl) rfl rfl (x_pick_f rfl rfl rfl rfl) ?_)
   refine l_of (s_val (v := .bool false) (wt0 rfl) rfl rfl (x_move rfl rfl) ?_)
   refine l_of (s_not (wn1 rfl rfl rfl rfl rfl) rfl rfl ?_)
   refine l_of (s_not (wn1 rfl rfl rfl rfl rfl) rfl rfl ?_)
   refine l_of (s_not (wn1 rfl rfl rfl rfl rfl) rfl rfl ?_)
   refine l_of (s_not (wn1 rfl rfl rfl rfl rfl) rfl rfl ?_)
   refine l_of (s_not (wn1 rfl rfl rfl rfl rfl) rfl rfl ?_)
   refine l_of (s_not (wn1 rfl rfl rfl rfl rfl) rfl rfl ?_)
   refine l_of (s_val (v := .bool false) (wt0 rfl) rfl rfl (x_pick_f rfl rfl rfl rfl) ?_)
   refine l_of (s_val (v := .bool false) (wt0 rfl) rfl rfl (x_assign rfl rfl) ?_)
   refine g_nil ?_
   refine g_then ?_
   refine g_weak [(2, .bool false)] ⟨rfl, trivial⟩ ?_
   refine g_ret ?_
   refine fin_ret [.tmp 2] [.bool false] rfl ⟨rfl, trivial⟩ ?_
   exact ⟨by simp [blockB, tupled, hb6, hb7], H5.mask [false, true]⟩
 ·
  refine l_of (s_not (wn1 rfl rfl rfl rfl hb6) rfl rfl ?_)
  refine l_of (s_not (wn1 rfl rfl rfl rfl hb6) rfl rfl ?_)
  refine l_of (s_not (wn1 rfl rfl rfl rfl hb6) rfl rfl ?_)
  refine l_of (s_val (v := .bool false) (wt0 rfl) rfl rfl (x_pick_f rfl rfl hb6 rfl) ?_)
  refine l_of (s_val (v := .bool false) (wt0 rfl) rfl rfl (x_move rfl rfl) ?_)
  refine l_of (s_not (wn1 rfl rfl rfl rfl rfl) rfl rfl ?_)
  refine l_of (s_not (wn1 rfl rfl rfl rfl rfl) rfl rfl ?_)
  refine l_of (s_not (wn1 rfl rfl rfl rfl rfl) rfl rfl ?_)
  refine l_of (s_val (v := .bool false) (wt0 rfl) rfl rfl (x_pick_f rfl rfl rfl rfl) ?_)
  refine l_of (s_val (v := .bool false) (wt0 rfl) rfl rfl (x_move rfl rfl) ?_)
  refine l_of (s_not (wn1 rfl rfl rfl rfl rfl) rfl rfl ?_)
  refine l_of (s_not (wn1 rfl rfl rfl rfl rfl) rfl rfl ?_)
  refine l_of (s_not (wn1 rfl rfl rfl rfl rfl) rfl rfl ?_)
  refine l_of (s_val (v := .bool false) (wt0 rfl) rfl rfl (x_pick_f rfl rfl rfl rfl) ?_)
  refine l_of (s_val (v := .bool false) (wt0 rfl) rfl rfl (x_move rfl rfl) ?_)
  refine l_of (s_not (wn1 rfl rfl rfl rfl rfl) rfl rfl ?_)
  refine l_of (s_not (wn1 rfl rfl rfl rfl rfl) rfl rfl ?_)
  refine l_of (s_not (wn1 rfl rfl rfl rfl rfl) rfl rfl ?_)
  refine l_of (s_not (wn1 rfl rfl rfl rfl rfl) rfl rfl ?_)
  refine l_of (s_not (wn1 rfl rfl rfl rfl rfl) rfl rfl ?_)
  refine l_of (s_not (wn1 rfl rfl rfl rfl rfl) rfl rfl ?_)
  refine l_of (s_val (v := .bool false) (wt0 rfl) rfl rfl (x_pick_f rfl rfl rfl rfl) ?_)
  refine l_of (s_val (v := .bool false) (wt0 rfl) rfl rfl (x_assign rfl rfl) ?_)
  refine g_nil ?_
  refine g_then ?_
  refine g_weak [(2, .bool false)] ⟨rfl, trivial⟩ ?_
  refine g_ret ?_
  refine fin_ret [.tmp 2] [.bool false] rfl ⟨rfl, trivial⟩ ?_
  exact ⟨by simp [blockB, tupled, hb6], H5.mask [false, true]⟩
set_option maxRecDepth 20000 in
set_option maxHeartbeats 4000000 in
set_option maxRecDepth 20000 in
set_option maxHeartbeats 4000000 in
theorem banned_s {b m1 m2 m3 m4 : Nat} {bn : Int → Option Bool} {p : Int} (hok_p : okI p)  (w : World) (HS : S w [Ob b (.cells #[.map (some m1), .map (some m2), .map (some m3), .map (some m4)] 66 (0, 0)), Mp (Value.int .i64) Value.bool okI m2 bn]) : Calls Try.prog 10 #[.pointer (some ⟨b, 0, none⟩), .int .i64 p] w fun e w' => e = .returned (.bool ((bn p).getD false)) ∧ S w' ([Ob b (.cells #[.map (some m1), .map (some m2), .map (some m3), .map (some m4)] 66 (0, 0)), Mp (Value.int .i64) Value.bool okI m2 bn] ++ [Old w (fps [Ob b (.cells #[.map (some m1), .map (some m2), .map (some m3), .map (some m4)] 66 (0, 0)), Mp (Value.int .i64) Value.bool okI m2 bn])]) := by
 have H0 := HS.beginI
 refine enter 16 Try.func10 rfl rfl rfl ?_
 refine g_weak [(0, .pointer (some ⟨b, 0, none⟩)), (1, .int .i64 p)] ⟨rfl, rfl, trivial⟩ ?_
 refine g_seq ?_
 refine g_region ?_
 refine l_of (s_val (v := .bool false) (wt0 rfl) rfl rfl (x_assign rfl rfl) ?_)
 refine g_nil ?_
 refine g_then ?_
 refine g_seq ?_
 refine g_region ?_
 refine l_of (s_val (v := .pointer (some ⟨b, 0, none⟩)) (wt0 rfl) rfl rfl (x_move rfl rfl) ?_)
 refine l_of (s_val (v := .bool true) (wt0 rfl) rfl rfl (x_bin rfl rfl rfl (b_neN (r := false) Try.underlying28 rfl)) ?_)
 refine l_of (s_val (v := .bool true) (wt0 rfl) rfl rfl (x_move rfl rfl) ?_)
 refine l_of (s_val (v := .pointer (some ⟨b, 0, none⟩)) (wt1 rfl rfl rfl rfl rfl) rfl rfl (x_move rfl rfl) ?_)
 refine l_of (s_val (v := .pointer (some ⟨b, 0, none⟩)) (wt1 rfl rfl rfl rfl rfl) rfl rfl (x_nilCheck rfl rfl) ?_)
 refine l_of (s_val (v := .pointer (some ⟨b, 0, none⟩)) (wt1 rfl rfl rfl rfl rfl) rfl rfl (x_fieldAddr rfl rfl fo66_0 rfl) ?_)
 refine l_of (s_val (v := .pointer (some ⟨b, 1, none⟩)) (wt1 rfl rfl rfl rfl rfl) rfl rfl (x_fieldAddr rfl rfl fo62_1 rfl) ?_)
 refine l_of (s_val (v := .map (some m2)) (wt1 rfl rfl rfl rfl rfl) rfl rfl (x_load1 H0 0 rfl rfl Try.underlying29 rfl rfl rfl) ?_)
 refine l_of (s_val (v := .int .i64 p) (wt1 rfl rfl rfl rfl rfl) rfl rfl (x_move rfl rfl) ?_)
 refine l_of (s_val (v := .bool (((bn p).getD false))) (wt1 rfl rfl rfl rfl rfl) rfl rfl (ex_cast (x_lookup1 (x := p) (intTy Try.underlying29 Try.underlying3) H0 1 rfl rfl rfl rfl (hok_p) ze4) (look_B _)) ?_)
 refine l_of (s_val (v := .bool (((bn p).getD false))) (wt0 rfl) rfl rfl (x_pick_t rfl rfl rfl rfl) ?_)
 refine l_of (s_val (v := .bool (((bn p).getD false))) (wt0 rfl) rfl rfl (x_assign rfl rfl) ?_)
 refine g_nil ?_
 refine g_then ?_
 refine g_weak [(4, .bool (((bn p).getD false)))] ⟨rfl, trivial⟩ ?_
 refine g_ret ?_
 refine fin_ret [.tmp 4] [.bool (((bn p).getD false))] rfl ⟨rfl, trivial⟩ ?_
 exact ⟨rfl, H0.takes [0, 1, 2] (by decide)⟩
set_option maxRecDepth 20000 in
set_option maxHeartbeats 4000000 in
set_option maxRecDepth 20000 in
set_option maxHeartbeats 4000000 in
theorem score_s {b m1 m2 m3 m4 : Nat} {sc : Int → Option Int} {p : Int} (hok_p : okI p)  (w : World) (HS : S w [Ob b (.cells #[.map (some m1), .map (some m2), .map (some m3), .map (some m4)] 66 (0, 0)), Mp (Value.int .i64) (Value.int .i64) okI m1 sc]) : Calls Try.prog 27 #[.pointer (some ⟨b, 0, none⟩), .int .i64 p] w fun e w' => e = .returned (.int .i64 ((sc p).getD 0)) ∧ S w' ([Ob b (.cells #[.map (some m1), .map (some m2), .map (some m3), .map (some m4)] 66 (0, 0)), Mp (Value.int .i64) (Value.int .i64) okI m1 sc] ++ [Old w (fps [Ob b (.cells #[.map (some m1), .map (some m2), .map (some m3), .map (some m4)] 66 (0, 0)), Mp (Value.int .i64) (Value.int .i64) okI m1 sc])]) := by
 have H0 := HS.beginI
 refine enter 14 Try.func27 rfl rfl rfl ?_
 refine g_weak [(0, .pointer (some ⟨b, 0, none⟩)), (1, .int .i64 p)] ⟨rfl, rfl, trivial⟩ ?_
 refine g_seq ?_
 refine g_region ?_
 refine l_of (s_val (v := .int .i64 0) (wt0 rfl) rfl rfl (x_assign rfl rfl) ?_)
 refine g_nil ?_
 refine g_then ?_
 refine g_seq ?_
 refine g_seq ?_
 refine g_region ?_
 refine l_of (s_val (v := .pointer (some ⟨b, 0, none⟩)) (wt0 rfl) rfl rfl (x_move rfl rfl) ?_)
 refine l_of (s_val (v := .bool false) (wt0 rfl) rfl rfl (x_bin rfl rfl rfl (b_eqN (r := false) Try.underlying28 rfl)) ?_)
 refine g_nil ?_
 refine g_then ?_
 refine g_cond_f rfl rfl ?_
 refine g_skip ?_
 refine g_then ?_
 refine g_seq ?_
 refine g_region ?_
 refine l_of (s_val (v := .pointer (some ⟨b, 0, none⟩)) (wt0 rfl) rfl rfl (x_move rfl rfl) ?_)
 refine l_of (s_val (v := .pointer (some ⟨b, 0, none⟩)) (wt0 rfl) rfl rfl (x_nilCheck rfl rfl) ?_)
 refine l_of (s_val (v := .pointer (some ⟨b, 0, none⟩)) (wt0 rfl) rfl rfl (x_fieldAddr rfl rfl fo66_0 rfl) ?_)
 refine l_of (s_val (v := .pointer (some ⟨b, 0, none⟩)) (wt0 rfl) rfl rfl (x_fieldAddr rfl rfl fo62_0 rfl) ?_)
 refine l_of (s_val (v := .map (some m1)) (wt0 rfl) rfl rfl (x_load1 H0 0 rfl rfl Try.underlying60 rfl rfl rfl) ?_)
 refine l_of (s_val (v := .int .i64 p) (wt0 rfl) rfl rfl (x_move rfl rfl) ?_)
 refine l_of (s_val (v := .int .i64 (((sc p).getD 0))) (wt0 rfl) rfl rfl (ex_cast (x_lookup1 (x := p) (intTy Try.underlying60 Try.underlying3) H0 1 rfl rfl rfl rfl (hok_p) ze3) (look_I _)) ?_)
 refine l_of (s_val (v := .int .i64 (((sc p).getD 0))) (wt0 rfl) rfl rfl (x_assign rfl rfl) ?_)
 refine g_nil ?_
 refine g_then ?_
 refine g_ret ?_
 refine fin_ret [.tmp 4] [.int .i64 (((sc p).getD 0))] rfl ⟨rfl, trivial⟩ ?_
 exact ⟨rfl, H0.takes [0, 1, 2] (by decide)⟩
set_option maxRecDepth 20000 in
set_option maxHeartbeats 4000000 in
set_option maxRecDepth 20000 in
set_option maxHeartbeats 4000000 in
theorem tries_s {b m1 m2 m3 m4 : Nat} {nw : Int → Option Nat} {od : Int → Option (Ro Nat)} {rs : List (Ro Nat)} {ms : List Nat} {ct : Nat → Tr} (hB : BI nw od rs ms ct) {i : Int} (hok_i : okI i)  (w : World) (HS : S w [Ob b (.cells #[.map (some m1), .map (some m2), .map (some m3), .map (some m4)] 66 (0, 0)), Mp (Value.int .i64) roV okI m4 od, RowsI 70 1 mpL rs]) : Calls Try.prog 28 #[.pointer (some ⟨b, 0, none⟩), .int .i64 i] w fun e w' => e = .returned (.int .i64 ((odR od i).length : Int)) ∧ S w' ([Ob b (.cells #[.map (some m1), .map (some m2), .map (some m3), .map (some m4)] 66 (0, 0)), Mp (Value.int .i64) roV okI m4 od, RowsI 70 1 mpL rs] ++ [Old w (fps [Ob b (.cells #[.map (some m1), .map (some m2), .map (some m3), .map (some m4)] 66 (0, 0)), Mp (Value.int .i64) roV okI m4 od, RowsI 70 1 mpL rs])]) := by
 have H0 := HS.beginI
 refine enter 14 Try.func28 rfl rfl rfl ?_
 refine g_weak [(0, .pointer (some ⟨b, 0, none⟩)), (1, .int .i64 i)] ⟨rfl, rfl, trivial⟩ ?_
 refine g_seq ?_
 refine g_region ?_
 refine l_of (s_val (v := .int .i64 0) (wt0 rfl) rfl rfl (x_assign rfl rfl) ?_)
 refine g_nil ?_
 refine g_then ?_
 refine g_seq ?_
 refine g_seq ?_
 refine g_region ?_
 refine l_of (s_val (v := .pointer (some ⟨b, 0, none⟩)) (wt0 rfl) rfl rfl (x_move rfl rfl) ?_)
 refine l_of (s_val (v := .bool false) (wt0 rfl) rfl rfl (x_bin rfl rfl rfl (b_eqN (r := false) Try.underlying28 rfl)) ?_)
 refine g_nil ?_
 refine g_then ?_
 refine g_cond_f rfl rfl ?_
 refine g_skip ?_
 refine g_then ?_
 refine g_seq ?_
 refine g_region ?_
 refine l_of (s_val (v := .pointer (some ⟨b, 0, none⟩)) (wt0 rfl) rfl rfl (x_move rfl rfl) ?_)
 refine l_of (s_val (v := .pointer (some ⟨b, 0, none⟩)) (wt0 rfl) rfl rfl (x_nilCheck rfl rfl) ?_)
 refine l_of (s_val (v := .pointer (some ⟨b, 3, none⟩)) (wt0 rfl) rfl rfl (x_fieldAddr rfl rfl fo66_2 rfl) ?_)
 refine l_of (s_val (v := .map (some m4)) (wt0 rfl) rfl rfl (x_load1 H0 0 rfl rfl Try.underlying64 rfl rfl rfl) ?_)
 refine l_of (s_val (v := .int .i64 i) (wt0 rfl) rfl rfl (x_move rfl rfl) ?_)
 refine l_of (s_val (v := .slice (roO (od i)).p (roO (od i)).l.length (roO (od i)).c) (wt0 rfl) rfl rfl (ex_cast (x_lookup1 (x := i) (intTy Try.underlying64 Try.underlying3) H0 1 rfl rfl rfl rfl (hok_i) ze67) (look_R _)) ?_)
 refine l_of (s_val (v := .int .i64 (((roO (od i)).l.length : Int))) (wt0 rfl) rfl rfl (x_lenl rfl rfl Try.underlying67) ?_)
 refine l_of (s_val (v := .int .i64 (((roO (od i)).l.length : Int))) (wt0 rfl) rfl rfl (x_assign rfl rfl) ?_)
 refine g_nil ?_
 refine g_then ?_
 refine g_ret ?_
 refine fin_ret [.tmp 4] [.int .i64 (((roO (od i)).l.length : Int))] rfl ⟨rfl, trivial⟩ ?_
 exact ⟨(by rw [odR_eq]; rfl), H0.takes [0, 1, 2, 3] (by decide)⟩
set_option maxRecDepth 20000 in
set_option maxHeartbeats 4000000 in
set_option maxRecDepth 20000 in
set_option maxHeartbeats 4000000 in
theorem senders_s {b m1 m2 m3 m4 : Nat} {nw : Int → Option Nat} {od : Int → Option (Ro Nat)} {rs : List (Ro Nat)} {ms : List Nat} {ct : Nat → Tr} (hB : BI nw od rs ms ct) {i : Int} (hok_i : okI i)  (w : World) (HS : S w [Ob b (.cells #[.map (some m1), .map (some m2), .map (some m3), .map (some m4)] 66 (0, 0)), Mp (Value.int .i64) mpV okI m3 nw, FamM spK snV okP ms ct]) : Calls Try.prog 15 #[.pointer (some ⟨b, 0, none⟩), .int .i64 i] w fun e w' => ∃ p c, e = .returned (.slice p (whoL (tryOf ct (nw i))).length c) ∧ S w' ([Rw 3 1 p (whoL (tryOf ct (nw i))).length c (zV (whoL (tryOf ct (nw i)))), Ob b (.cells #[.map (some m1), .map (some m2), .map (some m3), .map (some m4)] 66 (0, 0)), Mp (Value.int .i64) mpV okI m3 nw, FamM spK snV okP ms ct] ++ [Old w (fps [Ob b (.cells #[.map (some m1), .map (some m2), .map (some m3), .map (some m4)] 66 (0, 0)), Mp (Value.int .i64) mpV okI m3 nw, FamM spK snV okP ms ct])]) := by
 have H0 := HS.beginI
 refine enter 15 Try.func15 rfl rfl rfl ?_
 refine g_weak [(0, .pointer (some ⟨b, 0, none⟩)), (1, .int .i64 i)] ⟨rfl, rfl, trivial⟩ ?_
 refine g_seq ?_
 refine g_region ?_
 refine l_of (s_val (v := .slice none 0 0) (wt0 rfl) rfl rfl (x_assign rfl rfl) ?_)
 refine g_nil ?_
 refine g_then ?_
 refine g_seq ?_
 refine g_seq ?_
 refine g_region ?_
 refine l_of (s_val (v := .pointer (some ⟨b, 0, none⟩)) (wt0 rfl) rfl rfl (x_move rfl rfl) ?_)
 refine l_of (s_val (v := .bool false) (wt0 rfl) rfl rfl (x_bin rfl rfl rfl (b_eqN (r := false) Try.underlying28 rfl)) ?_)
 refine g_nil ?_
 refine g_then ?_
 refine g_cond_f rfl rfl ?_
 refine g_skip ?_
 refine g_then ?_
 refine g_seq ?_
 refine g_region ?_
 refine l_of (s_val (v := .pointer (some ⟨b, 0, none⟩)) (wt0 rfl) rfl rfl (x_move rfl rfl) ?_)
 refine l_of (s_val (v := .pointer (some ⟨b, 0, none⟩)) (wt0 rfl) rfl rfl (x_nilCheck rfl rfl) ?_)
 refine l_of (s_val (v := .pointer (some ⟨b, 2, none⟩)) (wt0 rfl) rfl rfl (x_fieldAddr rfl rfl fo66_1 rfl) ?_)
 refine l_of (s_val (v := .map (some m3)) (wt0 rfl) rfl rfl (x_load1 H0 0 rfl rfl Try.underlying63 rfl rfl rfl) ?_)
 refine l_of (s_val (v := .int .i64 i) (wt0 rfl) rfl rfl (x_move rfl rfl) ?_)
 refine l_of (s_val (v := .map (nw i)) (wt0 rfl) rfl rfl (ex_cast (x_lookup1 (x := i) (intTy Try.underlying63 Try.underlying3) H0 1 rfl rfl rfl rfl (hok_i) ze70) (look_M _)) ?_)
 refine l_of (s_call (wt0 rfl) (x_call' rfl rfl cl37) (all_s _ _) ?_)
 rintro _ wq2 ⟨b1, rfl, H3⟩
 replace H3 : S wq2 [Ob b1 (.cells #[.map (nw i)] 70 (0, 0)), Ob b (.cells #[.map (some m1), .map (some m2), .map (some m3), .map (some m4)] 66 (0, 0)), Mp (Value.int .i64) mpV okI m3 nw, FamM spK snV okP ms ct, Old w (fps [Ob b (.cells #[.map (some m1), .map (some m2), .map (some m3), .map (some m4)] 66 (0, 0)), Mp (Value.int .i64) mpV okI m3 nw, FamM spK snV okP ms ct])] := H0.absorb (new := [Ob b1 (.cells #[.map (nw i)] 70 (0, 0))]) H3
 refine b_ret rfl rfl ?_
 refine l_of (s_call (wt0 rfl) (x_call' rfl rfl cl36) (collect_t (mo := (nw i)) (hB.nwm i) hB.tok _ (H3.takes [0, 3] (by decide))) ?_)
 rintro _ wq6 ⟨p4, c5, rfl, H7⟩
 replace H7 : S wq6 [Rw 3 1 p4 (whoL (tryOf ct (nw i))).length c5 (zV (whoL (tryOf ct (nw i)))), FamM spK snV okP ms ct, Ob b (.cells #[.map (some m1), .map (some m2), .map (some m3), .map (some m4)] 66 (0, 0)), Mp (Value.int .i64) mpV okI m3 nw, Old w (fps [Ob b (.cells #[.map (some m1), .map (some m2), .map (some m3), .map (some m4)] 66 (0, 0)), Mp (Value.int .i64) mpV okI m3 nw, FamM spK snV okP ms ct])] := H3.absorbI (new := [Rw 3 1 p4 (whoL (tryOf ct (nw i))).length c5 (zV (whoL (tryOf ct (nw i)))), FamM spK snV okP ms ct]) [0, 3] H7
 refine b_ret rfl rfl ?_
 refine l_of (s_val (v := .slice p4 (whoL (tryOf ct (nw i))).length c5) (wt0 rfl) rfl rfl (x_assign rfl rfl) ?_)
 refine g_nil ?_
 refine g_then ?_
 refine g_weak [(4, .slice p4 (whoL (tryOf ct (nw i))).length c5)] ⟨rfl, trivial⟩ ?_
 refine g_ret ?_
 refine fin_ret [.tmp 4] [.slice p4 (whoL (tryOf ct (nw i))).length c5] rfl ⟨rfl, trivial⟩ ?_
 exact ⟨p4, c5, rfl, H7.takes [0, 2, 3, 1, 4] (by decide)⟩
set_option maxRecDepth 20000 in
set_option maxHeartbeats 4000000 in
set_option maxRecDepth 20000 in
set_option maxHeartbeats 4000000 in
theorem parole1_s {nw : Int → Option Nat} {od : Int → Option (Ro Nat)} {rs : List (Ro Nat)} {ms : List Nat} {ct : Nat → Tr} (hB : BI nw od rs ms ct) {gp m : Nat} {a : Int} (hm : m ∈ ms)  (w : World) (HS : S w [Ob gp (.cells #[.int .i64 a] 3 (0, 0)), FamM spK snV okP ms ct]) : Calls Try.prog 30 #[.map (some m), .pointer (some ⟨gp, 0, none⟩)] w fun e w' => e = .returned (.bool (decide (a ∈ whoL (ct m)))) ∧ S w' ([Ob gp (.cells #[.int .i64 a] 3 (0, 0)), FamM spK snV okP ms ct] ++ [Old w (fps [Ob gp (.cells #[.int .i64 a] 3 (0, 0)), FamM spK snV okP ms ct])]) := by
 have H0 := HS.beginI
 refine enter 7 Try.func30 rfl rfl rfl ?_
 refine g_weak [(0, .map (some m)), (1, .pointer (some ⟨gp, 0, none⟩))] ⟨rfl, rfl, trivial⟩ ?_
 refine g_seq ?_
 refine g_region ?_
 refine l_of (s_val (v := .bool false) (wt0 rfl) rfl rfl (x_assign rfl rfl) ?_)
 refine g_nil ?_
 refine g_then ?_
 refine g_seq ?_
 refine g_region ?_
 refine l_of (s_val (v := .map (some m)) (wt0 rfl) rfl rfl (x_move rfl rfl) ?_)
 refine l_of (s_val (v := .int .i64 a) (wt0 rfl) rfl rfl (x_load1 H0 0 rfl rfl Try.underlying3 rfl rfl rfl) ?_)
 refine l_of (s_call (wt0 rfl) (x_call' rfl rfl cl31) (has_s (fun m2 h2 => by cases h2; exact hm) hB.tok (a := a) _ (H0.takes [1] (by decide))) ?_)
 rintro _ wq1 ⟨rfl, H2⟩
 replace H2 : S wq1 [FamM spK snV okP ms ct, Ob gp (.cells #[.int .i64 a] 3 (0, 0)), Old w (fps [Ob gp (.cells #[.int .i64 a] 3 (0, 0)), FamM spK snV okP ms ct])] := H0.absorbI (new := [FamM spK snV okP ms ct]) [1] H2
 refine b_ret rfl rfl ?_
 refine l_of (s_val (v := .bool ((decide (a ∈ whoL (tryOf ct (some m)))))) (wt0 rfl) rfl rfl (x_assign rfl rfl) ?_)
 refine g_nil ?_
 refine g_then ?_
 refine g_ret ?_
 refine fin_ret [.tmp 3] [.bool ((decide (a ∈ whoL (tryOf ct (some m)))))] rfl ⟨rfl, trivial⟩ ?_
 exact ⟨rfl, H2.takes [1, 0, 2] (by decide)⟩
theorem any_no {l : List Nat} {ct : Nat → Tr} {a : Int} {i : Nat} (h : ∀ m ∈ l.take i, ¬ a ∈ whoL (ct m)) (hi : i = l.length) : (l.any fun m => decide (a ∈ whoL (ct m))) = false := by
  rw [List.any_eq_false]
  intro m hm
  rw [hi, List.take_length] at h
  simpa using h m hm
theorem any_yes {l : List Nat} {ct : Nat → Tr} {a : Int} {m : Nat} (hm : m ∈ l) (h : a ∈ whoL (ct m)) : (l.any fun m => decide (a ∈ whoL (ct m))) = true := List.any_eq_true.2 ⟨m, hm, decide_eq_true h⟩
set_option maxRecDepth 20000 in
set_option maxHeartbeats 4000000 in
set_option maxRecDepth 20000 in
set_option maxHeartbeats 4000000 in
theorem index_s {nw : Int → Option Nat} {od : Int → Option (Ro Nat)} {rs : List (Ro Nat)} {ms : List Nat} {ct : Nat → Tr} (hB : BI nw od rs ms ct) {gp : Nat} {a : Int} {r : Ro Nat} (hr : r ∈ rs ∨ r = ⟨none, 0, []⟩)  (w : World) (HS : S w [Ob gp (.cells #[.int .i64 a] 3 (0, 0)), FamM spK snV okP ms ct, RowsI 70 1 mpL rs]) : Calls Try.prog 58 #[.slice r.p r.l.length r.c, .func (.func 30) #[] #[.pointer (some ⟨gp, 0, none⟩)]] w fun e w' => ∃ k : Int, e = .returned (.int .i64 k) ∧ (decide (0 ≤ k) = (r.l.any fun m => decide (a ∈ whoL (ct m)))) ∧ S w' ([Ob gp (.cells #[.int .i64 a] 3 (0, 0)), FamM spK snV okP ms ct, RowsI 70 1 mpL rs] ++ [Old w (fps [Ob gp (.cells #[.int .i64 a] 3 (0, 0)), FamM spK snV okP ms ct, RowsI 70 1 mpL rs])]) := by
 have H0 := HS.beginI
 have hrl := ro_len hB hr
 refine enter 19 Try.func58 rfl rfl rfl ?_
 refine g_weak [(0, .slice r.p r.l.length r.c), (1, .func (.func 30) #[] #[.pointer (some ⟨gp, 0, none⟩)])] ⟨rfl, rfl, trivial⟩ ?_
 refine g_seq ?_
 refine g_region ?_
 refine l_of (s_val (v := .int .i64 0) (wt0 rfl) rfl rfl (x_assign rfl rfl) ?_)
 refine g_nil ?_
 refine g_then ?_
 refine g_seq ?_
 refine g_seq ?_
 refine g_region ?_
 refine l_of (s_val (v := .slice r.p r.l.length r.c) (wt0 rfl) rfl rfl (x_move rfl rfl) ?_)
 refine l_of (s_val (v := .int .i64 ((r.l.length : Int))) (wt0 rfl) rfl rfl (x_lenl rfl rfl Try.underlying67) ?_)
 refine l_of (s_val (v := .int .i64 0) (wt0 rfl) rfl rfl (x_move rfl rfl) ?_)
 refine g_nil ?_
 refine g_then ?_
 refine g_block ?_
 refine g_loop (ι := Nat) (fun i => [(0, .slice r.p r.l.length r.c), (1, .func (.func 30) #[] #[.pointer (some ⟨gp, 0, none⟩)]), (7, .int .i64 ((r.l.length : Int))), (8, .int .i64 ((i : Int)))]) (fun i wx => (i ≤ r.l.length) ∧ (∀ m ∈ r.l.take i, ¬ a ∈ whoL (ct m)) ∧ S wx [Ob gp (.cells #[.int .i64 a] 3 (0, 0)), FamM spK snV okP ms ct, RowsI 70 1 mpL rs, Old w (fps [Ob gp (.cells #[.int .i64 a] 3 (0, 0)), FamM spK snV okP ms ct, RowsI 70 1 mpL rs])]) (fun i => r.l.length - i) (0) ⟨rfl, rfl, rfl, rfl, trivial⟩ ⟨Nat.zero_le _, (fun _ h => by cases h), H0⟩ ?_
 rintro i wq1 ⟨hi, hno, H2⟩
 refine g_weak [(0, .slice r.p r.l.length r.c), (1, .func (.func 30) #[] #[.pointer (some ⟨gp, 0, none⟩)]), (7, .int .i64 ((r.l.length : Int))), (8, .int .i64 ((i : Int)))] ⟨rfl, rfl, rfl, rfl, trivial⟩ ?_
 refine g_seq ?_
 refine g_region ?_
 refine l_of (s_val (v := .bool (decide (((i : Int) : Int) < (r.l.length : Int)))) (wt0 rfl) rfl rfl (x_bin rfl rfl rfl b_lss) ?_)
 refine g_nil ?_
 refine g_then ?_
 refine g_seq ?_
 by_cases hb3 : ((i : Int) : Int) < (r.l.length : Int)
 ·
  obtain ⟨m, hmj⟩ : ∃ m, r.l[i]? = some m := ⟨_, List.getElem?_eq_getElem (by omega)⟩
  have hmm := ro_ms hB hr (List.mem_of_getElem? hmj)
  refine g_cond_t rfl (decide_eq_true hb3) ?_
  refine g_skip ?_
  refine g_then ?_
  refine g_seq ?_
  refine g_block ?_
  refine g_seq ?_
  refine g_region ?_
  refine l_of (s_val (v := .int .i64 ((i : Int))) (wt0 rfl) rfl rfl (x_move rfl rfl) ?_)
  refine l_of (s_val (v := .int .i64 ((i : Int))) (wt0 rfl) rfl rfl (x_assign rfl rfl) ?_)
  refine g_nil ?_
  refine g_then ?_
  refine g_seq ?_
  refine g_region ?_
  refine l_of (s_val (v := .func (.func 30) #[] #[.pointer (some ⟨gp, 0, none⟩)]) (wt0 rfl) rfl rfl (x_move rfl rfl) ?_)
  refine l_of (s_val (v := .slice r.p r.l.length r.c) (wt0 rfl) rfl rfl (x_move rfl rfl) ?_)
  refine l_of (s_val (v := .int .i64 ((i : Int))) (wt0 rfl) rfl rfl (x_move rfl rfl) ?_)
  refine l_of (s_val (v := .pointer ((r.p).map fun q => q.add (i * 1))) (wt0 rfl) rfl rfl (x_idxR i ((ro_reads (H2.at (k := 2) rfl) hr)) rfl rfl rfl Try.underlying67 sz70 (by omega)) ?_)
  refine l_of (s_val (v := .map (some m)) (wt0 rfl) rfl rfl (x_loadR1 i ((ro_reads (H2.at (k := 2) rfl) hr)) (by omega) rfl rfl Try.underlying70 rfl (mpL_at hmj)) ?_)
  refine l_of (s_call (wt0 rfl) (x_call rfl rfl rfl cl30) (parole1_s hB (m := m) hmm _ (H2.takes [0, 1] (by decide))) ?_)
  rintro _ wq4 ⟨rfl, H5⟩
  replace H5 : S wq4 [Ob gp (.cells #[.int .i64 a] 3 (0, 0)), FamM spK snV okP ms ct, RowsI 70 1 mpL rs, Old w (fps [Ob gp (.cells #[.int .i64 a] 3 (0, 0)), FamM spK snV okP ms ct, RowsI 70 1 mpL rs])] := H2.absorbI (new := [Ob gp (.cells #[.int .i64 a] 3 (0, 0)), FamM spK snV okP ms ct]) [0, 1] H5
  refine b_ret rfl rfl ?_
  refine g_nil ?_
  refine g_then ?_
  rcases Bool.eq_false_or_eq_true ((decide (a ∈ whoL (ct m)))) with hb6 | hb6
  ·
   refine g_cond_t rfl hb6 ?_
   refine g_seq ?_
   refine g_region ?_
   refine l_of (s_val (v := .int .i64 ((i : Int))) (wt0 rfl) rfl rfl (x_move rfl rfl) ?_)
   refine l_of (s_val (v := .int .i64 ((i : Int))) (wt0 rfl) rfl rfl (x_assign rfl rfl) ?_)
   refine g_nil ?_
   refine g_then ?_
   refine g_weak [(4, .int .i64 ((i : Int)))] ⟨rfl, trivial⟩ ?_
   refine g_ret ?_
   refine g_in_ret ?_
   refine g_then_ret ?_
   refine g_then_ret ?_
   refine g_in_ret ?_
   refine g_then_ret ?_
   refine fin_ret [.tmp 4] [.int .i64 ((i : Int))] rfl ⟨rfl, trivial⟩ ?_
   exact ⟨(i : Int), rfl, by rw [any_yes (List.mem_of_getElem? hmj) (of_decide_eq_true hb6)]; simp, H5.takes [0, 1, 2, 3] (by decide)⟩
  ·
   refine g_cond_f rfl hb6 ?_
   refine g_skip ?_
   refine g_in ?_
   refine g_then ?_
   refine g_region ?_
   refine l_of (s_val (v := .int .i64 (((i + 1 : Nat) : Int))) (wt0 rfl) rfl rfl (x_bin rfl rfl rfl (b_add (by rw [w64 (by have := ro_len hB hr; omega)]; omega))) ?_)
   refine l_of (s_val (v := .int .i64 (((i + 1 : Nat) : Int))) (wt0 rfl) rfl rfl (x_move rfl rfl) ?_)
   refine g_nil ?_
   refine g_then ?_
   refine g_round (i := (i)) (i + 1) ?_ ?_ ?_
   · exact ⟨rfl, rfl, rfl, rfl, trivial⟩
   · exact ⟨by omega, (by rw [take_snoc hmj]; exact forall_snoc hno (of_decide_eq_false hb6)), H5⟩
   · (try dsimp only); omega
 ·
  refine g_cond_f rfl (decide_eq_false hb3) ?_
  refine g_exit ?_
  refine g_then_exit ?_
  refine g_then_exit ?_
  refine g_in_hit ?_
  refine g_then ?_
  refine g_seq ?_
  refine g_region ?_
  refine l_of (s_val (v := .int .i64 (-1)) (wt0 rfl) rfl rfl (x_assign rfl rfl) ?_)
  refine g_nil ?_
  refine g_then ?_
  refine g_ret ?_
  refine fin_ret [.tmp 4] [.int .i64 (-1)] rfl ⟨rfl, trivial⟩ ?_
  exact ⟨-1, rfl, by rw [any_no hno (by omega)]; simp, H2.takes [0, 1, 2, 3] (by decide)⟩
set_option maxRecDepth 20000 in
set_option maxHeartbeats 4000000 in
set_option maxRecDepth 20000 in
set_option maxHeartbeats 4000000 in
theorem contains_s {nw : Int → Option Nat} {od : Int → Option (Ro Nat)} {rs : List (Ro Nat)} {ms : List Nat} {ct : Nat → Tr} (hB : BI nw od rs ms ct) {gp : Nat} {a : Int} {r : Ro Nat} (hr : r ∈ rs ∨ r = ⟨none, 0, []⟩)  (w : World) (HS : S w [Ob gp (.cells #[.int .i64 a] 3 (0, 0)), FamM spK snV okP ms ct, RowsI 70 1 mpL rs]) : Calls Try.prog 29 #[.slice r.p r.l.length r.c, .func (.func 30) #[] #[.pointer (some ⟨gp, 0, none⟩)]] w fun e w' => e = .returned (.bool (r.l.any fun m => decide (a ∈ whoL (ct m)))) ∧ S w' ([Ob gp (.cells #[.int .i64 a] 3 (0, 0)), FamM spK snV okP ms ct, RowsI 70 1 mpL rs] ++ [Old w (fps [Ob gp (.cells #[.int .i64 a] 3 (0, 0)), FamM spK snV okP ms ct, RowsI 70 1 mpL rs])]) := by
 have H0 := HS.beginI
 refine enter 9 Try.func29 rfl rfl rfl ?_
 refine g_weak [(0, .slice r.p r.l.length r.c), (1, .func (.func 30) #[] #[.pointer (some ⟨gp, 0, none⟩)])] ⟨rfl, rfl, trivial⟩ ?_
 refine g_seq ?_
 refine g_region ?_
 refine l_of (s_val (v := .bool false) (wt0 rfl) rfl rfl (x_assign rfl rfl) ?_)
 refine g_nil ?_
 refine g_then ?_
 refine g_seq ?_
 refine g_region ?_
 refine l_of (s_val (v := .slice r.p r.l.length r.c) (wt0 rfl) rfl rfl (x_move rfl rfl) ?_)
 refine l_of (s_val (v := .func (.func 30) #[] #[.pointer (some ⟨gp, 0, none⟩)]) (wt0 rfl) rfl rfl (x_move rfl rfl) ?_)
 refine l_of (s_call (wt0 rfl) (x_call' rfl rfl cl58) (index_s hB hr _ (H0.takes [0, 1, 2] (by decide))) ?_)
 rintro _ wq1 ⟨k, rfl, hk, H2⟩
 replace H2 : S wq1 [Ob gp (.cells #[.int .i64 a] 3 (0, 0)), FamM spK snV okP ms ct, RowsI 70 1 mpL rs, Old w (fps [Ob gp (.cells #[.int .i64 a] 3 (0, 0)), FamM spK snV okP ms ct, RowsI 70 1 mpL rs])] := H0.absorbI (new := [Ob gp (.cells #[.int .i64 a] 3 (0, 0)), FamM spK snV okP ms ct, RowsI 70 1 mpL rs]) [0, 1, 2] H2
 refine b_ret rfl rfl ?_
 refine l_of (s_val (v := .bool (decide ((0 : Int) ≤ k))) (wt0 rfl) rfl rfl (x_bin rfl rfl rfl b_geq) ?_)
 refine l_of (s_val (v := .bool (decide ((0 : Int) ≤ k))) (wt0 rfl) rfl rfl (x_assign rfl rfl) ?_)
 refine g_nil ?_
 refine g_then ?_
 refine g_ret ?_
 refine fin_ret [.tmp 4] [.bool (decide ((0 : Int) ≤ k))] rfl ⟨rfl, trivial⟩ ?_
 exact ⟨by rw [← hk]; rfl, H2.takes [0, 1, 2, 3] (by decide)⟩
theorem old_yes {od : Int → Option (Ro Nat)} {ct : Nat → Tr} {a i : Int} {r : Ro Nat} (hi : okI i) (h : od i = some r) (h2 : (r.l.any fun m => decide (a ∈ whoL (ct m))) = true) : onOld od ct a := by
  obtain ⟨m, h3, h4⟩ := List.any_eq_true.1 h2
  exact ⟨i, hi, m, by unfold odR; rw [h]; exact h3, of_decide_eq_true h4⟩
theorem old_no {od : Int → Option (Ro Nat)} {ct : Nat → Tr} {a : Int} {rem0 : List (Int × Ro Nat)} (hr : ∀ p, p ∈ rem0 ↔ okI p.1 ∧ od p.1 = some p.2) (h : ∀ q ∈ rem0, q ∉ ([] : List (Int × Ro Nat)) → (q.2.l.any fun m => decide (a ∈ whoL (ct m))) = false) : ¬ onOld od ct a := by
  rintro ⟨i, hi, m, hm, h3⟩
  unfold odR at hm
  cases ho : od i with
  | none => rw [ho] at hm; cases hm
  | some r =>
    rw [ho] at hm
    have := h (i, r) ((hr (i, r)).2 ⟨hi, ho⟩) (by simp)
    rw [any_yes hm h3] at this
    cases this
theorem seen_next {κ α : Type} {rem0 rem rem2 : List (κ × α)} {F : κ × α → Prop} {q : κ × α} (hm : ∀ z, z ∈ rem2 ↔ z ∈ rem ∧ z ≠ q) (h : ∀ z ∈ rem0, z ∉ rem → F z) (hq : F q) : ∀ z ∈ rem0, z ∉ rem2 → F z := fun z hz hn => by
  by_cases e : z = q
  · rw [e]; exact hq
  · exact h z hz fun h2 => hn ((hm z).2 ⟨h2, e⟩)
set_option maxRecDepth 20000 in
set_option maxHeartbeats 4000000 in
set_option maxRecDepth 20000 in
set_option maxHeartbeats 4000000 in
theorem parole_s {b m1 m2 m3 m4 : Nat} {bn : Int → Option Bool} {nw : Int → Option Nat} {od : Int → Option (Ro Nat)} {rs : List (Ro Nat)} {ms : List Nat} {ct : Nat → Tr} (hB : BI nw od rs ms ct) {a : Int} (hok_a : okI a)  (w : World) (HS : S w [Ob b (.cells #[.map (some m1), .map (some m2), .map (some m3), .map (some m4)] 66 (0, 0)), Mp (Value.int .i64) Value.bool okI m2 bn, Mp (Value.int .i64) roV okI m4 od, FamM spK snV okP ms ct, RowsI 70 1 mpL rs]) : Calls Try.prog 11 #[.pointer (some ⟨b, 0, none⟩), .int .i64 a] w fun e w' => e = .returned (.bool (parB bn od ct a)) ∧ S w' ([Ob b (.cells #[.map (some m1), .map (some m2), .map (some m3), .map (some m4)] 66 (0, 0)), Mp (Value.int .i64) Value.bool okI m2 bn, Mp (Value.int .i64) roV okI m4 od, FamM spK snV okP ms ct, RowsI 70 1 mpL rs] ++ [Old w (fps [Ob b (.cells #[.map (some m1), .map (some m2), .map (some m3), .map (some m4)] 66 (0, 0)), Mp (Value.int .i64) Value.bool okI m2 bn, Mp (Value.int .i64) roV okI m4 od, FamM spK snV okP ms ct, RowsI 70 1 mpL rs])]) := by
 have H0 := HS.beginI
 refine enter 30 Try.func11 rfl rfl rfl ?_
 refine g_weak [(0, .pointer (some ⟨b, 0, none⟩)), (1, .int .i64 a)] ⟨rfl, rfl, trivial⟩ ?_
 refine g_seq ?_
 refine g_region ?_
 refine l_of (s_box H0 (wt0 rfl) rfl rfl rfl rfl ?_)
 intro g1 wq2 H3
 refine l_of (s_val (v := .bool false) (wt0 rfl) rfl rfl (x_assign rfl rfl) ?_)
 refine g_nil ?_
 refine g_then ?_
 refine g_seq ?_
 refine g_seq ?_
 refine g_quiet (by kernel_rfl) (by kernel_rfl) H3 ?_
 refine q_val (v := .pointer (some ⟨b, 0, none⟩)) (wt0 rfl) rfl rfl (fun wx H => x_move rfl rfl) ?_
 refine q_val (v := .bool false) (wt0 rfl) rfl rfl (fun wx H => x_bin rfl rfl rfl (b_eqN (r := false) Try.underlying28 rfl)) ?_
 refine q_val (v := .bool false) (wt0 rfl) rfl rfl (fun wx H => x_move rfl rfl) ?_
 refine q_val (v := .pointer (some ⟨b, 0, none⟩)) (wt1 rfl rfl rfl rfl rfl) rfl rfl (fun wx H => x_move rfl rfl) ?_
 refine q_val (v := .pointer (some ⟨b, 0, none⟩)) (wt1 rfl rfl rfl rfl rfl) rfl rfl (fun wx H => x_nilCheck rfl rfl) ?_
 refine q_val (v := .pointer (some ⟨b, 0, none⟩)) (wt1 rfl rfl rfl rfl rfl) rfl rfl (fun wx H => x_fieldAddr rfl rfl fo66_0 rfl) ?_
 refine q_val (v := .pointer (some ⟨b, 1, none⟩)) (wt1 rfl rfl rfl rfl rfl) rfl rfl (fun wx H => x_fieldAddr rfl rfl fo62_1 rfl) ?_
 refine q_val (v := .map (some m2)) (wt1 rfl rfl rfl rfl rfl) rfl rfl (fun wx H => x_load1 H 1 rfl rfl Try.underlying29 rfl rfl rfl) ?_
 refine q_val (v := .int .i64 a) (wt1 rfl rfl rfl rfl rfl) rfl rfl (fun wx H => x_load1 H 0 rfl rfl Try.underlying3 rfl rfl rfl) ?_
 refine q_val (v := .bool (((bn a).getD false))) (wt1 rfl rfl rfl rfl rfl) rfl rfl (fun wx H => ex_cast (x_lookup1 (x := a) (intTy Try.underlying29 Try.underlying3) H 2 rfl rfl rfl rfl (hok_a) ze4) (look_B _)) ?_
 refine q_val (v := .bool (((bn a).getD false))) (wt0 rfl) rfl rfl (fun wx H => x_pick_f rfl rfl rfl rfl) ?_
 refine q_nil (fun wq4 H5 => ?_)
 refine g_then ?_
 refine g_weak [(0, .pointer (some ⟨b, 0, none⟩)), (3, .pointer (some ⟨g1, 0, none⟩)), (17, .bool (((bn a).getD false)))] ⟨rfl, rfl, rfl, trivial⟩ ?_
 rcases Bool.eq_false_or_eq_true (((bn a).getD false)) with hb6 | hb6
 ·
  refine g_cond_t rfl hb6 ?_
  refine g_seq ?_
  refine g_region ?_
  refine l_of (s_val (v := .bool false) (wt0 rfl) rfl rfl (x_assign rfl rfl) ?_)
  refine g_nil ?_
  refine g_then ?_
  refine g_ret ?_
  refine g_then_ret ?_
  refine fin_ret [.tmp 4] [.bool false] rfl ⟨rfl, trivial⟩ ?_
  exact ⟨by rw [parB_ban hb6]; rfl, H5.takes [1, 2, 3, 4, 5, 6] (by decide)⟩
 ·
  refine g_cond_f rfl hb6 ?_
  refine g_skip ?_
  refine g_then ?_
  refine g_seq ?_
  refine g_seq ?_
  refine g_region ?_
  refine l_of (s_val (v := .pointer (some ⟨b, 0, none⟩)) (wt0 rfl) rfl rfl (x_move rfl rfl) ?_)
  refine l_of (s_val (v := .pointer (some ⟨b, 0, none⟩)) (wt0 rfl) rfl rfl (x_nilCheck rfl rfl) ?_)
  refine l_of (s_val (v := .pointer (some ⟨b, 3, none⟩)) (wt0 rfl) rfl rfl (x_fieldAddr rfl rfl fo66_2 rfl) ?_)
  refine l_of (s_val (v := .map (some m4)) (wt0 rfl) rfl rfl (x_load1 H5 1 rfl rfl Try.underlying64 rfl rfl rfl) ?_)
  refine l_of (s_rangeN (intTy Try.underlying64 Try.underlying3) H5 3 (wt0 rfl) rfl rfl rfl rfl rfl ?_)
  intro rr7 rem8 wq9 hnrem8 hrem8 H10
  refine g_nil ?_
  refine g_then ?_
  refine g_block ?_
  refine g_loop (ι := List (Int × Ro Nat) × Option (Int × Ro Nat)) (fun (rem, cur) => [(3, .pointer (some ⟨g1, 0, none⟩)), (22, .pointer (some ⟨rr7, 0, none⟩))]) (fun (rem, cur) wx => (∀ q ∈ rem8, q ∉ rem → (q.2.l.any fun m => decide (a ∈ whoL (ct m))) = false) ∧ S wx [Ob g1 (.cells #[.int .i64 a] 3 (0, 0)), Ob b (.cells #[.map (some m1), .map (some m2), .map (some m3), .map (some m4)] 66 (0, 0)), Mp (Value.int .i64) Value.bool okI m2 bn, MpR (Value.int .i64) roV okI m4 rr7 od rem cur, FamM spK snV okP ms ct, RowsI 70 1 mpL rs, Old w (fps [Ob b (.cells #[.map (some m1), .map (some m2), .map (some m3), .map (some m4)] 66 (0, 0)), Mp (Value.int .i64) Value.bool okI m2 bn, Mp (Value.int .i64) roV okI m4 od, FamM spK snV okP ms ct, RowsI 70 1 mpL rs])]) (fun (rem, cur) => rem.length) (rem8, none) ⟨rfl, rfl, trivial⟩ ⟨(fun _ h h2 => absurd h h2), (H10.takes [0, 1, 2, 3, 4, 5, 6] (by decide))⟩ ?_
  rintro ⟨rem, cur⟩ wq11 ⟨hrn, H12⟩
  refine g_weak [(3, .pointer (some ⟨g1, 0, none⟩)), (22, .pointer (some ⟨rr7, 0, none⟩))] ⟨rfl, rfl, trivial⟩ ?_
  refine g_seq ?_
  refine g_region ?_
  refine l_of (s_next H12 3 (wt0 rfl) rfl rfl rfl rfl rfl (fun hnil22 => ?_) (fun q13 rem14 wx15 hp16 hok17 hN18 hm19 hl20 Hx21 => ?_))
  ·
   subst hnil22
   have H23 : S wq11 [Ob g1 (.cells #[.int .i64 a] 3 (0, 0)), Ob b (.cells #[.map (some m1), .map (some m2), .map (some m3), .map (some m4)] 66 (0, 0)), Mp (Value.int .i64) Value.bool okI m2 bn, Mp (Value.int .i64) roV okI m4 od, FamM spK snV okP ms ct, RowsI 70 1 mpL rs, Old w (fps [Ob b (.cells #[.map (some m1), .map (some m2), .map (some m3), .map (some m4)] 66 (0, 0)), Mp (Value.int .i64) Value.bool okI m2 bn, Mp (Value.int .i64) roV okI m4 od, FamM spK snV okP ms ct, RowsI 70 1 mpL rs])] := H12.unR (k0 := 3) rfl
   refine l_of (s_val (v := .bool false) (wt0 rfl) rfl rfl (x_extract rfl rfl rfl) ?_)
   refine g_nil ?_
   refine g_then ?_
   refine g_seq ?_
   refine g_cond_f rfl rfl ?_
   refine g_exit ?_
   refine g_then_exit ?_
   refine g_then_exit ?_
   refine g_in_hit ?_
   refine g_then ?_
   refine g_seq ?_
   refine g_region ?_
   refine l_of (s_val (v := .bool false) (wt0 rfl) rfl rfl (x_assign rfl rfl) ?_)
   refine g_nil ?_
   refine g_then ?_
   refine g_ret ?_
   refine fin_ret [.tmp 4] [.bool false] rfl ⟨rfl, trivial⟩ ?_
   exact ⟨by rw [parB_no hb6 (old_no hrem8 hrn)]; rfl, H23.takes [1, 2, 3, 4, 5, 6] (by decide)⟩
  ·
   have H24 : S wx15 [Ob g1 (.cells #[.int .i64 a] 3 (0, 0)), Ob b (.cells #[.map (some m1), .map (some m2), .map (some m3), .map (some m4)] 66 (0, 0)), Mp (Value.int .i64) Value.bool okI m2 bn, MpR (Value.int .i64) roV okI m4 rr7 od rem14 (some q13), FamM spK snV okP ms ct, RowsI 70 1 mpL rs, Old w (fps [Ob b (.cells #[.map (some m1), .map (some m2), .map (some m3), .map (some m4)] 66 (0, 0)), Mp (Value.int .i64) Value.bool okI m2 bn, Mp (Value.int .i64) roV okI m4 od, FamM spK snV okP ms ct, RowsI 70 1 mpL rs])] := Hx21
   refine l_of (s_val (v := .bool true) (wt0 rfl) rfl rfl (x_extract rfl rfl rfl) ?_)
   refine g_nil ?_
   refine g_then ?_
   refine g_seq ?_
   refine g_cond_t rfl rfl ?_
   refine g_skip ?_
   refine g_then ?_
   refine g_block ?_
   refine g_seq ?_
   refine g_region ?_
   refine l_of (s_val (v := .tuple #[.int .i64 (q13.1), .slice q13.2.p q13.2.l.length q13.2.c]) (wt0 rfl) rfl rfl (x_entry (k := 0) (t := 0) (e0 := 0) H24 3 rfl rfl rfl) ?_)
   refine l_of (s_val (v := .slice q13.2.p q13.2.l.length q13.2.c) (wt0 rfl) rfl rfl (x_extract rfl rfl rfl) ?_)
   refine l_of (s_val (v := .slice q13.2.p q13.2.l.length q13.2.c) (wt0 rfl) rfl rfl (x_assign rfl rfl) ?_)
   refine g_nil ?_
   refine g_then ?_
   refine g_seq ?_
   refine g_region ?_
   refine l_of (s_val (v := .slice q13.2.p q13.2.l.length q13.2.c) (wt0 rfl) rfl rfl (x_move rfl rfl) ?_)
   refine l_of (s_val (v := .func (.func 30) #[] #[.pointer (some ⟨g1, 0, none⟩)]) (wt0 rfl) rfl rfl (x_makeFunc rfl rfl rfl) ?_)
   refine l_of (s_call (wt0 rfl) (x_call' rfl rfl cl29) (contains_s hB (r := q13.2) (.inl (hB.odr _ _ hN18)) _ (H24.takes [0, 4, 5] (by decide))) ?_)
   rintro _ wq25 ⟨rfl, H26⟩
   replace H26 : S wq25 [Ob g1 (.cells #[.int .i64 a] 3 (0, 0)), FamM spK snV okP ms ct, RowsI 70 1 mpL rs, Ob b (.cells #[.map (some m1), .map (some m2), .map (some m3), .map (some m4)] 66 (0, 0)), Mp (Value.int .i64) Value.bool okI m2 bn, MpR (Value.int .i64) roV okI m4 rr7 od rem14 (some q13), Old w (fps [Ob b (.cells #[.map (some m1), .map (some m2), .map (some m3), .map (some m4)] 66 (0, 0)), Mp (Value.int .i64) Value.bool okI m2 bn, Mp (Value.int .i64) roV okI m4 od, FamM spK snV okP ms ct, RowsI 70 1 mpL rs])] := H24.absorbI (new := [Ob g1 (.cells #[.int .i64 a] 3 (0, 0)), FamM spK snV okP ms ct, RowsI 70 1 mpL rs]) [0, 4, 5] H26
   refine b_ret rfl rfl ?_
   refine g_nil ?_
   refine g_then ?_
   rcases Bool.eq_false_or_eq_true ((q13.2.l.any fun m => decide (a ∈ whoL (ct m)))) with hb27 | hb27
   ·
    refine g_cond_t rfl hb27 ?_
    refine g_seq ?_
    refine g_region ?_
    refine l_of (s_val (v := .bool true) (wt0 rfl) rfl rfl (x_assign rfl rfl) ?_)
    refine g_nil ?_
    refine g_then ?_
    refine g_ret ?_
    refine g_in_ret ?_
    refine g_then_ret ?_
    refine g_in_ret ?_
    refine g_then_ret ?_
    refine fin_ret [.tmp 4] [.bool true] rfl ⟨rfl, trivial⟩ ?_
    exact ⟨by rw [parB_yes hb6 (old_yes hok17 hN18 hb27)]; rfl, (H26.unR (k0 := 5) rfl).takes [3, 4, 5, 1, 2, 6] (by decide)⟩
   ·
    refine g_cond_f rfl hb27 ?_
    refine g_skip ?_
    refine g_in ?_
    refine g_then ?_
    refine g_round (i := (rem, cur)) (rem14, (some q13)) ?_ ?_ ?_
    · exact ⟨rfl, rfl, trivial⟩
    · exact ⟨(seen_next hm19 hrn hb27), (H26.takes [0, 3, 4, 5, 1, 2, 6] (by decide))⟩
    · exact hl20
end Go.Proofs.Ytlikhpfdncidkaa
