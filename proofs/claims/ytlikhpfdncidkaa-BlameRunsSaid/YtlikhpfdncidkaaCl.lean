import Derived.Test.YtlikhpfdncidkaaFk
import Derived.Test.YtlikhpfdncidkaaCk
import Derived.Test.YtlikhpfdncidkaaBb
set_option linter.unusedSimpArgs false
set_option linter.unusedVariables false
namespace Go.Proofs.Ytlikhpfdncidkaa
open Go.RowKit

theorem cl18 : callable Try.prog 18 = true := by kernel_rfl
theorem cl19 : callable Try.prog 19 = true := by kernel_rfl
theorem cl20 : callable Try.prog 20 = true := by kernel_rfl
theorem cl21 : callable Try.prog 21 = true := by kernel_rfl
set_option maxRecDepth 20000 in
set_option maxHeartbeats 4000000 in
theorem runs_law (l : List Dd) (p : Option Addr) (n c : Nat) (hl : n ≤ 9223372036854775807) (hok_l : ∀ x ∈ l, okI x.pr ∧ okI x.pc)  (w : World) (hr : Reads w p n c 7 (fl ddL l)) : Calls Try.prog 5 #[.slice p n c] w fun e w' => e = .returned (.bool true) ∧ S w' [Old w no] := by
 have H0 := S.old w
 have hn := hr.lenL ddE
 refine enter 53 Try.func5 rfl rfl rfl ?_
 refine g_weak [(0, .slice p n c)] ⟨rfl, trivial⟩ ?_
 refine w_s ?_
 refine w_a ?_
 refine w_e ?_
 refine g_seq ?_
 refine w_s ?_
 refine w_m ?_
 refine l_of (s_call (wt0 rfl) (x_call' rfl rfl cl18) (light_s l p n c (by omega) _ (H0.oldReads (k := 0) rfl hr)) ?_)
 rintro _ wq3 ⟨lb1, rfl, hlb2, H4⟩
 replace H4 : S wq3 [Old w no] := H0.absorb (new := []) H4
 refine b_ret rfl rfl ?_
 refine w_v (v := .bool (!lb1)) (x_not (b := lb1) rfl rfl) ?_
 refine w_e ?_
 rcases Bool.eq_false_or_eq_true (lb1) with hb5 | hb5
 ·
  refine g_cond_f rfl (neg_of hb5) ?_
  refine g_skip ?_
  refine g_then ?_
  refine w_s ?_
  refine l_of (s_call (wt0 rfl) (x_call' rfl rfl cl12) (new_x _) ?_)
  rintro _ wq9 ⟨Y6, hYo7, hYA8, rfl, H10⟩
  replace H10 : S wq9 [Y6.I, Old w no] := H4.absorb (new := [Y6.I]) H10
  refine b_ret rfl rfl ?_
  refine l_of (s_call (wt0 rfl) (x_call' rfl rfl cl19) (rnew_q _) ?_)
  rintro _ wq14 ⟨Z11, hZo12, hZA13, rfl, H15⟩
  replace H15 : S wq14 [Z11.I, stI (⟨[], []⟩ : RSt), Y6.I, Old w no] := H10.absorb (new := [Z11.I, stI (⟨[], []⟩ : RSt)]) H15
  refine b_ret rfl rfl ?_
  refine w_r2 ?_
  refine w_e ?_
  refine g_seq ?_
  refine w_s ?_
  refine w_m ?_
  refine w_v (v := .int .i64 ((n : Int))) (x_lenl rfl rfl Try.underlying47) ?_
  refine w_m ?_
  refine w_e ?_
  refine g_block ?_
  refine g_loop (ι := Nat × BM × RM × RSt × BS) (fun (k, X, Z, s, A) => [(3, .pointer (some ⟨Y6.b, 0, none⟩)), (4, .pointer (some ⟨Z11.b, 0, none⟩)), (15, .slice p n c), (16, .int .i64 ((n : Int))), (17, .int .i64 ((k : Int)))]) (fun (k, X, Z, s, A) wx => (k ≤ n) ∧ (X.ok) ∧ (X.b = Y6.b) ∧ (X.A = A) ∧ (Z.ok s) ∧ (Z.b = Z11.b) ∧ (Z.A = A) ∧ S wx [X.I, Z.I, stI s, Old w no]) (fun (k, X, Z, s, A) => n - k) (0, Y6, Z11, (⟨[], []⟩ : RSt), BS.none) ⟨rfl, rfl, rfl, rfl, rfl, trivial⟩ ⟨Nat.zero_le _, hYo7, rfl, hYA8, hZo12, rfl, hZA13, (H15.takes [2, 0, 1, 3] (by decide))⟩ ?_
  rintro ⟨k, X, Z, s, A⟩ wq16 ⟨hk, hXo, hXb, hXA, hZo, hZb, hZA, H17⟩
  refine g_weak [(3, .pointer (some ⟨Y6.b, 0, none⟩)), (4, .pointer (some ⟨Z11.b, 0, none⟩)), (15, .slice p n c), (16, .int .i64 ((n : Int))), (17, .int .i64 ((k : Int)))] ⟨rfl, rfl, rfl, rfl, rfl, trivial⟩ ?_
  refine w_s ?_
  refine w_b ?_
  refine w_e ?_
  refine g_seq ?_
  by_cases hb18 : ((k : Int) : Int) < (n : Int)
  ·
   refine g_cond_t rfl (decide_eq_true hb18) ?_
   refine g_skip ?_
   refine g_then ?_
   refine g_seq ?_
   refine g_block ?_
   refine w_s ?_
   refine w_v (v := .pointer ((p).map fun q => q.add (k * 7))) (x_idxR k (H17.oldReads (k := 3) rfl hr) rfl rfl rfl Try.underlying47 sz52 (by omega)) ?_
   have hlq := (H17.oldReads (k := 3) rfl hr).lenL ddE
   obtain ⟨x19, hx19⟩ := ex_at (l := l) (j := k) (by omega)
   clear hlq
   have hokx19 := hok_l x19 (List.mem_of_getElem? hx19)
   refine w_v (v := .agg #[.int .i64 (x19.kd), .int .i64 (x19.pr), .int .i64 (x19.pc), .int .i64 (x19.bg), .int .i64 (x19.ln), .string (x19.dt), .bool x19.gd]) (x_loadRA (vs := ddL x19) k (H17.oldReads (k := 3) rfl hr) (by omega) rfl rfl Try.underlying52 rfl sz52 (by rfl) (ddE.flAt hx19)) ?_
   refine l_of (s_alloc H17 (wt0 rfl) rfl rfl rfl ze52 ?_)
   intro g20 wq21 H22
   refine l_of (w_st #[.int .i64 (x19.kd), .int .i64 (x19.pr), .int .i64 (x19.pc), .int .i64 (x19.bg), .int .i64 (x19.ln), .string (x19.dt), .bool x19.gd] H22 0 ?_)
   intro wq23 H24
   refine w_e ?_
   refine w_s ?_
   refine w_r2 ?_
   refine w_v (v := .agg #[.int .i64 (x19.kd), .int .i64 (x19.pr), .int .i64 (x19.pc), .int .i64 (x19.bg), .int .i64 (x19.ln), .string (x19.dt), .bool x19.gd]) (x_loadA H24 0 rfl rfl Try.underlying52 rfl sz52 rfl rfl rfl) ?_
   refine l_of (s_call (wt0 rfl) (x_call' rfl rfl cl20) (does_s (kd := x19.kd) (bg := x19.bg) (ln := x19.ln) (data := x19.dt) (gd := x19.gd) hXo hXb hXA hZo hZb hZA hokx19.1 hokx19.2 _ (H24.takes [1, 2, 3] (by decide))) ?_)
   rintro _ wq37 ⟨X25, Z26, s27, A28, hXo29, hXb30, hXA31, hZo32, hZb33, hZA34, hle35, hgr36, rfl, H38⟩
   replace H38 : S wq37 [X25.I, Z26.I, stI s27, Ob g20 (.cells #[.int .i64 (x19.kd), .int .i64 (x19.pr), .int .i64 (x19.pc), .int .i64 (x19.bg), .int .i64 (x19.ln), .string (x19.dt), .bool x19.gd] 52 (0, 0)), Old w no] := by have h := H24.absorbI [1, 2, 3] H38; exact h
   refine b_ret rfl rfl ?_
   refine w_v (v := .bool false) (x_not (b := true) rfl rfl) ?_
   refine w_m ?_
   refine w_g rfl xm ?_
   refine w_g rfl xm ?_
   refine w_g rfl (xf 1) ?_
   refine w_g rfl (xl H38 3) ?_
   refine w_g rfl (xf 2) ?_
   refine w_g rfl (xf 2) ?_
   refine w_g rfl (xl H38 3) ?_
   refine l_of (s_call (wt1 rfl rfl rfl rfl rfl) (x_call' rfl rfl cl21) (same_s hXo29 hXb30 hXA31 hZo32 hZb33 hZA34 hokx19.1 hokx19.2 _ (H38.takes [0, 1, 2] (by decide))) ?_)
   rintro _ wq39 ⟨rfl, H40⟩
   replace H40 : S wq39 [X25.I, Z26.I, stI s27, Ob g20 (.cells #[.int .i64 (x19.kd), .int .i64 (x19.pr), .int .i64 (x19.pc), .int .i64 (x19.bg), .int .i64 (x19.ln), .string (x19.dt), .bool x19.gd] 52 (0, 0)), Old w no] := by have h := H38.absorbI [0, 1, 2] H40; exact h
   refine b_ret rfl rfl ?_
   refine w_g (v := .bool false) rfl (x_not (b := true) rfl rfl) ?_
   refine w_v (v := .bool false) (x_pick_f rfl rfl rfl rfl) ?_
   refine w_e ?_
   refine g_weak [(3, .pointer (some ⟨Y6.b, 0, none⟩)), (4, .pointer (some ⟨Z11.b, 0, none⟩)), (15, .slice p n c), (16, .int .i64 ((n : Int))), (17, .int .i64 ((k : Int))), (36, .bool false)] ⟨rfl, rfl, rfl, rfl, rfl, rfl, trivial⟩ ?_
   refine g_cond_f rfl rfl ?_
   refine g_skip ?_
   refine g_in ?_
   refine g_then ?_
   refine g_region ?_
   refine w_b (v := .int .i64 (((k + 1 : Nat) : Int))) (hb := (b_add (by rw [w64 (by omega)]; omega))) ?_
   refine w_m ?_
   refine w_e ?_
   refine g_round (i := (k, X, Z, s, A)) ((k + 1), X25, Z26, s27, A28) ?_ ?_ ?_
   · exact ⟨rfl, rfl, rfl, rfl, rfl, trivial⟩
   · exact ⟨by omega, hXo29, hXb30, hXA31, hZo32, hZb33, hZA34, (H40.takes [0, 1, 2, 4] (by decide))⟩
   · (try dsimp only); omega
  ·
   refine g_cond_f rfl (decide_eq_false hb18) ?_
   refine g_exit ?_
   refine g_then_exit ?_
   refine g_then_exit ?_
   refine g_in_hit ?_
   refine g_then ?_
   refine g_seq ?_
   refine w_s ?_
   refine w_a ?_
   refine w_e ?_
   refine g_block ?_
   refine g_loop (ι := Nat) (fun a => [(3, .pointer (some ⟨Y6.b, 0, none⟩)), (4, .pointer (some ⟨Z11.b, 0, none⟩)), (7, .int .i64 (((a : Int) - 1)))]) (fun a wx => (a ≤ 10) ∧ S wx [X.I, Z.I, stI s, Old w no]) (fun a => 10 - a) (0) ⟨rfl, rfl, rfl, trivial⟩ ⟨Nat.zero_le _, (H17.takes [0, 1, 2, 3] (by decide))⟩ ?_
   rintro a wq41 ⟨ha, H42⟩
   refine g_weak [(3, .pointer (some ⟨Y6.b, 0, none⟩)), (4, .pointer (some ⟨Z11.b, 0, none⟩)), (7, .int .i64 (((a : Int) - 1)))] ⟨rfl, rfl, rfl, trivial⟩ ?_
   refine g_seq ?_
   refine w_s ?_
   refine w_m ?_
   refine w_b ?_
   refine w_e ?_
   by_cases hb43 : (((a : Int) - 1) : Int) ≤ 8
   ·
    refine g_cond_t rfl (decide_eq_true hb43) ?_
    refine g_skip ?_
    refine g_then ?_
    refine g_seq ?_
    refine g_block ?_
    refine w_s ?_
    refine w_a ?_
    refine w_e ?_
    refine g_block ?_
    refine g_loop (ι := Nat) (fun b => [(3, .pointer (some ⟨Y6.b, 0, none⟩)), (4, .pointer (some ⟨Z11.b, 0, none⟩)), (7, .int .i64 (((a : Int) - 1))), (8, .int .i64 (((b : Int) - 1)))]) (fun b wx => (b ≤ 6) ∧ S wx [X.I, Z.I, stI s, Old w no]) (fun b => 6 - b) (0) ⟨rfl, rfl, rfl, rfl, trivial⟩ ⟨Nat.zero_le _, (H42.takes [0, 1, 2, 3] (by decide))⟩ ?_
    rintro b wq44 ⟨hb, H45⟩
    refine g_weak [(3, .pointer (some ⟨Y6.b, 0, none⟩)), (4, .pointer (some ⟨Z11.b, 0, none⟩)), (7, .int .i64 (((a : Int) - 1))), (8, .int .i64 (((b : Int) - 1)))] ⟨rfl, rfl, rfl, rfl, trivial⟩ ?_
    refine g_seq ?_
    refine w_s ?_
    refine w_m ?_
    refine w_b ?_
    refine w_e ?_
    by_cases hb46 : (((b : Int) - 1) : Int) ≤ 4
    ·
     refine g_cond_t rfl (decide_eq_true hb46) ?_
     refine g_skip ?_
     refine g_then ?_
     refine g_seq ?_
     refine g_block ?_
     refine w_s ?_
     refine w_r4 ?_
     refine l_of (s_call (wt0 rfl) (x_call' rfl rfl cl21) (same_s hXo hXb hXA hZo hZb hZA ⟨by omega, by omega⟩ ⟨by omega, by omega⟩ _ (H45.takes [0, 1, 2] (by decide))) ?_)
     rintro _ wq47 ⟨rfl, H48⟩
     replace H48 : S wq47 [X.I, Z.I, stI s, Old w no] := by have h := H45.absorbI [0, 1, 2] H48; exact h
     refine b_ret rfl rfl ?_
     refine w_v (v := .bool false) (x_not (b := true) rfl rfl) ?_
     refine w_e ?_
     refine g_cond_f rfl rfl ?_
     refine g_skip ?_
     refine g_in ?_
     refine g_then ?_
     refine g_region ?_
     refine w_m ?_
     refine w_b (v := .int .i64 ((((b + 1 : Nat) : Int) - 1))) (hb := (b_add (by rw [w64 (by omega)]; omega))) ?_
     refine w_a ?_
     refine w_e ?_
     refine g_round (i := (b)) ((b + 1)) ?_ ?_ ?_
     · exact ⟨rfl, rfl, rfl, rfl, trivial⟩
     · exact ⟨by omega, (H48.takes [0, 1, 2, 3] (by decide))⟩
     · (try dsimp only); omega
    ·
     refine g_cond_f rfl (decide_eq_false hb46) ?_
     refine g_exit ?_
     refine g_then_exit ?_
     refine g_then_exit ?_
     refine g_in_hit ?_
     refine g_in ?_
     refine g_then ?_
     refine g_region ?_
     refine w_m ?_
     refine w_b (v := .int .i64 ((((a + 1 : Nat) : Int) - 1))) (hb := (b_add (by rw [w64 (by omega)]; omega))) ?_
     refine w_a ?_
     refine w_e ?_
     refine g_round (i := (a)) ((a + 1)) ?_ ?_ ?_
     · exact ⟨rfl, rfl, rfl, trivial⟩
     · exact ⟨by omega, (H45.takes [0, 1, 2, 3] (by decide))⟩
     · (try dsimp only); omega
   ·
    refine g_cond_f rfl (decide_eq_false hb43) ?_
    refine g_exit ?_
    refine g_then_exit ?_
    refine g_then_exit ?_
    refine g_in_hit ?_
    refine g_then ?_
    refine w_s ?_
    refine l_of (s_call0 H42 (wt0 rfl) (x_call' rfl rfl cl8) (awake_s _) rfl rfl ?_)
    intro wq49 H50
    refine w_a ?_
    refine w_e ?_
    refine g_ret ?_
    refine fin_ret [.tmp 2] [.bool true] rfl ⟨rfl, trivial⟩ ?_
    exact ⟨rfl, H50.mask [false, false, false, true]⟩
 ·
  refine g_cond_t rfl (neg_of hb5) ?_
  refine w_s ?_
  refine l_of (s_call0 H4 (wt0 rfl) (x_call' rfl rfl cl8) (awake_s _) rfl rfl ?_)
  intro wq51 H52
  refine w_a ?_
  refine w_e ?_
  refine g_ret ?_
  refine g_then_ret ?_
  refine fin_ret [.tmp 2] [.bool true] rfl ⟨rfl, trivial⟩ ?_
  exact ⟨rfl, H52.mask [true]⟩
end Go.Proofs.Ytlikhpfdncidkaa
