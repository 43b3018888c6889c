import Derived.Test.YtlikhpfdncidkaaFk
import Derived.Test.YtlikhpfdncidkaaCc
set_option linter.unusedSimpArgs false
set_option linter.unusedVariables false
namespace Go.Proofs.Ytlikhpfdncidkaa
open Go.RowKit

theorem cl68 : callable Try.prog 68 = true := by kernel_rfl
theorem upM_self {κ α : Type} [DecidableEq κ] (M : κ → Option α) (x : κ) (a : α) : upM M x a x = some a := if_pos rfl
theorem none_take {P : E5 → Prop} {l : List E5} {k : Nat} {x : E5} (h : ∀ y ∈ l.take k, P y) (hx : l[k]? = some x) (hp : P x) : ∀ y ∈ l.take (k + 1), P y := fun y hy => by
  rw [take_snoc hx] at hy
  rcases List.mem_append.1 hy with hy | hy
  · exact h y hy
  · rw [List.mem_singleton] at hy; subst hy; exact hp
theorem who_in {i : Int} {l : List E5} (h : EOk i l) {x : Int} (hx : x ∈ ascI (l.map E5.pr)) : 1 ≤ x ∧ x ≤ 1000 := by
  rw [ascI_mem] at hx
  obtain ⟨y, hy, rfl⟩ := List.mem_map.1 hx
  exact (h.inn y hy).2
theorem gB_t {i : Int} {l g : List E5} {p : Int} (h : EOk i l) (hl : (ascI (l.map E5.pr)).length = 1) : gB (trE g) (trE l) p = true := by
  unfold gB; rw [whoE h, hl]; simp
theorem gB_d {i : Int} {l g : List E5} {p : Int} (h : differ (trE g) (trE l) p) : gB (trE g) (trE l) p = true := by
  unfold gB; rw [@decide_eq_true _ (_) h]; simp
theorem gB_f {i : Int} {l g : List E5} {p : Int} (h : EOk i l) (hl : ¬ (ascI (l.map E5.pr)).length = 1) (hd : ¬ differ (trE g) (trE l) p) : gB (trE g) (trE l) p = false := by
  unfold gB; rw [@decide_eq_false _ (_) hd, whoE h]; simp [hl]
theorem eqgCh : Try.prog.eqGuardType Try.prog.depth 37 = false := by kernel_rfl
theorem ch_eql (a b c d e f : Int) (w : World) : (binOp .eql 37 (.agg #[.int .i64 a, .int .i64 b, .int .i64 c]) (.agg #[.int .i64 d, .int .i64 e, .int .i64 f])).run Try.prog w = .ok (.bool (decide (a = d ∧ b = e ∧ c = f))) w := by
  by_cases h1 : a = d
  · subst h1
    by_cases h2 : b = e
    · subst h2
      by_cases h3 : c = f
      · subst h3; simp [go_sem]
      · simp [go_sem, h3]
    · simp [go_sem, h2]
  · simp [go_sem, h1]
theorem chc_eq {w : World} {xo yo : Operand} {a b c d e f : Int} : Bin Try.prog .eql 37 xo yo (.agg #[.int .i64 a, .int .i64 b, .int .i64 c]) (.agg #[.int .i64 d, .int .i64 e, .int .i64 f]) w (.bool (decide (a = d ∧ b = e ∧ c = f))) := by
  unfold Bin
  simp only [Sem.run_bind, run_eqGuard_agg w .eql 37 xo yo #[.int .i64 a, .int .i64 b, .int .i64 c] #[.int .i64 d, .int .i64 e, .int .i64 f] eqgCh, Result.andThen_ok]
  exact ch_eql a b c d e f w
set_option maxRecDepth 20000 in
set_option maxHeartbeats 4000000 in
theorem guilty_r (p : Option Addr) (n c : Nat) (l : List E5) (q : Option Addr) (m d : Nat) (g : List E5) (a : Int) {i : Int} (hl : EOk i l) (hgo : EOk i g) (w : World) (hr : Reads w p n c 5 (fl e5L l)) (hg : Reads w q m d 5 (fl e5L g)) : Calls Try.prog 69 #[.slice p n c, .int .i64 a, .slice q m d] w fun e w' => e = .returned (.bool (gB (trE g) (trE l) a)) ∧ S w' [Old w no] := by
 have H0 := S.old w
 have hln := hl.len
 have hlq := hr.lenL e5E
 have hln2 := hgo.len
 have hlq2 := hg.lenL e5E
 refine enter 47 Try.func69 rfl rfl rfl ?_
 refine g_weak [(0, .slice p n c), (1, .int .i64 a), (2, .slice q m d)] ⟨rfl, rfl, rfl, trivial⟩ ?_
 refine w_s ?_
 refine w_a ?_
 refine w_e ?_
 refine g_seq ?_
 refine w_s ?_
 refine w_m ?_
 refine l_of (s_call (wt0 rfl) (x_call' rfl rfl cl68) (who_r p n c l (by omega) _ (H0.oldReads (k := 0) rfl hr)) ?_)
 rintro _ wq4 ⟨p1, c2, rfl, H5⟩
 replace H5 : S wq4 [Rw 3 1 p1 ((ascI (l.map E5.pr)).length) c2 (fl intL (ascI (l.map E5.pr))), Old w no] := by have h := H0.absorb H5; exact h
 refine b_ret rfl rfl ?_
 refine w_v (v := .int .i64 (((ascI (l.map E5.pr)).length : Int))) (x_lenl rfl rfl Try.underlying24) ?_
 refine w_b ?_
 refine w_e ?_
 by_cases hb6 : (((ascI (l.map E5.pr)).length : Int) : Int) = 1
 ·
  refine g_cond_t rfl (decide_eq_true hb6) ?_
  refine w_s ?_
  refine w_a ?_
  refine w_e ?_
  refine g_ret ?_
  refine g_then_ret ?_
  refine fin_ret [.tmp 6] [.bool true] rfl ⟨rfl, trivial⟩ ?_
  exact ⟨by rw [gB_t hl (by omega)]; rfl, H5.mask [false, true]⟩
 ·
  refine g_cond_f rfl (decide_eq_false hb6) ?_
  refine g_skip ?_
  refine g_then ?_
  refine g_seq ?_
  refine w_s ?_
  refine w_m ?_
  refine w_v (v := .int .i64 ((n : Int))) (x_lenl rfl rfl Try.underlying94) ?_
  refine w_m ?_
  refine w_e ?_
  refine g_block ?_
  refine g_loop (ι := Nat) (fun k => [(1, .int .i64 a), (2, .slice q m d), (15, .slice p n c), (16, .int .i64 ((n : Int))), (17, .int .i64 ((k : Int)))]) (fun k wx => (k ≤ n) ∧ (∀ x ∈ l.take k, ∀ y ∈ g, ¬ (x.pr = a ∧ (x.pc = y.pc ∧ x.bg = y.bg ∧ x.ln = y.ln) ∧ ¬ x.dg = y.dg)) ∧ S wx [Old w no]) (fun k => n - k) (0) ⟨rfl, rfl, rfl, rfl, rfl, trivial⟩ ⟨Nat.zero_le _, (fun x hx => by simp at hx), (H5.mask [false, true])⟩ ?_
  rintro k wq7 ⟨hk, hno, H8⟩
  refine g_weak [(1, .int .i64 a), (2, .slice q m d), (15, .slice p n c), (16, .int .i64 ((n : Int))), (17, .int .i64 ((k : Int)))] ⟨rfl, rfl, rfl, rfl, rfl, trivial⟩ ?_
  refine w_s ?_
  refine w_b ?_
  refine w_e ?_
  refine g_seq ?_
  by_cases hb9 : ((k : Int) : Int) < (n : Int)
  ·
   refine g_cond_t rfl (decide_eq_true hb9) ?_
   refine g_skip ?_
   refine g_then ?_
   refine g_seq ?_
   refine g_block ?_
   refine w_s ?_
   refine w_v (v := .pointer ((p).map fun q => q.add (k * 5))) (x_idxR k (H8.oldReads (k := 0) rfl hr) rfl rfl rfl Try.underlying94 sz109 (by omega)) ?_
   have hlq := (H8.oldReads (k := 0) rfl hr).lenL e5E
   obtain ⟨x10, hx10⟩ := ex_at (l := l) (j := k) (by omega)
   clear hlq
   refine w_v (v := .agg #[.int .i64 (x10.pr), .int .i64 (x10.pc), .int .i64 (x10.bg), .int .i64 (x10.ln), .string (x10.dg)]) (x_loadRA (vs := e5L x10) k (H8.oldReads (k := 0) rfl hr) (by omega) rfl rfl Try.underlying109 rfl sz109 (by rfl) (e5E.flAt hx10)) ?_
   refine l_of (s_alloc H8 (wt0 rfl) rfl rfl rfl ze109 ?_)
   intro g11 wq12 H13
   refine l_of (w_st #[.int .i64 (x10.pr), .int .i64 (x10.pc), .int .i64 (x10.bg), .int .i64 (x10.ln), .string (x10.dg)] H13 0 ?_)
   intro wq14 H15
   refine w_e ?_
   refine w_s ?_
   refine w_m ?_
   refine w_v (v := .int .i64 ((m : Int))) (x_lenl rfl rfl Try.underlying94) ?_
   refine w_m ?_
   refine w_e ?_
   refine g_block ?_
   refine g_loop (ι := Nat) (fun j => [(1, .int .i64 a), (2, .slice q m d), (8, .pointer (some ⟨g11, 0, none⟩)), (15, .slice p n c), (16, .int .i64 ((n : Int))), (17, .int .i64 ((k : Int))), (21, .slice q m d), (22, .int .i64 ((m : Int))), (23, .int .i64 ((j : Int)))]) (fun j wx => (j ≤ m) ∧ (∀ y ∈ g.take j, ¬ (x10.pr = a ∧ (x10.pc = y.pc ∧ x10.bg = y.bg ∧ x10.ln = y.ln) ∧ ¬ x10.dg = y.dg)) ∧ S wx [Ob g11 (.cells #[.int .i64 (x10.pr), .int .i64 (x10.pc), .int .i64 (x10.bg), .int .i64 (x10.ln), .string (x10.dg)] 109 (0, 0)), Old w no]) (fun j => m - j) (0) ⟨rfl, rfl, rfl, rfl, rfl, rfl, rfl, rfl, rfl, trivial⟩ ⟨Nat.zero_le _, (fun x hx => by simp at hx), H15⟩ ?_
   rintro j wq16 ⟨hj, hnoj, H17⟩
   refine g_weak [(1, .int .i64 a), (2, .slice q m d), (8, .pointer (some ⟨g11, 0, none⟩)), (15, .slice p n c), (16, .int .i64 ((n : Int))), (17, .int .i64 ((k : Int))), (21, .slice q m d), (22, .int .i64 ((m : Int))), (23, .int .i64 ((j : Int)))] ⟨rfl, rfl, rfl, rfl, rfl, rfl, rfl, rfl, rfl, trivial⟩ ?_
   refine w_s ?_
   refine w_b ?_
   refine w_e ?_
   refine g_seq ?_
   by_cases hb18 : ((j : Int) : Int) < (m : Int)
   ·
    refine g_cond_t rfl (decide_eq_true hb18) ?_
    refine g_skip ?_
    refine g_then ?_
    refine g_seq ?_
    refine g_block ?_
    refine w_s ?_
    refine w_v (v := .pointer ((q).map fun q => q.add (j * 5))) (x_idxR j (H17.oldReads (k := 1) rfl hg) rfl rfl rfl Try.underlying94 sz109 (by omega)) ?_
    have hlq := (H17.oldReads (k := 1) rfl hg).lenL e5E
    obtain ⟨x19, hx19⟩ := ex_at (l := g) (j := j) (by omega)
    clear hlq
    refine w_v (v := .agg #[.int .i64 (x19.pr), .int .i64 (x19.pc), .int .i64 (x19.bg), .int .i64 (x19.ln), .string (x19.dg)]) (x_loadRA (vs := e5L x19) j (H17.oldReads (k := 1) rfl hg) (by omega) rfl rfl Try.underlying109 rfl sz109 (by rfl) (e5E.flAt hx19)) ?_
    refine l_of (s_alloc H17 (wt0 rfl) rfl rfl rfl ze109 ?_)
    intro g20 wq21 H22
    refine l_of (w_st #[.int .i64 (x19.pr), .int .i64 (x19.pc), .int .i64 (x19.bg), .int .i64 (x19.ln), .string (x19.dg)] H22 0 ?_)
    intro wq23 H24
    refine w_e ?_
    refine w_s ?_
    refine w_f 0 ?_
    refine w_1 H24 1 ?_
    refine w_m ?_
    refine w_b ?_
    refine w_m ?_
    by_cases hb25 : (x10.pr : Int) = a
    ·
     refine w_g (decide_eq_true hb25) (xf 1) ?_
     refine w_g (v := .agg #[.int .i64 (x10.pc), .int .i64 (x10.bg), .int .i64 (x10.ln)]) (decide_eq_true hb25) (x_loadA H24 1 rfl rfl Try.underlying37 rfl sz37 rfl rfl rfl) ?_
     refine w_g (decide_eq_true hb25) (xf 1) ?_
     refine w_g (v := .agg #[.int .i64 (x19.pc), .int .i64 (x19.bg), .int .i64 (x19.ln)]) (decide_eq_true hb25) (x_loadA H24 0 rfl rfl Try.underlying37 rfl sz37 rfl rfl rfl) ?_
     refine w_g (v := .bool (decide (x10.pc = x19.pc ∧ x10.bg = x19.bg ∧ x10.ln = x19.ln))) (decide_eq_true hb25) (x_bin rfl rfl rfl (chc_eq)) ?_
     refine w_v (v := .bool (decide (x10.pc = x19.pc ∧ x10.bg = x19.bg ∧ x10.ln = x19.ln))) (x_pick_t rfl rfl (decide_eq_true hb25) rfl) ?_
     refine w_m ?_
     by_cases hb26 : x10.pc = x19.pc ∧ x10.bg = x19.bg ∧ x10.ln = x19.ln
     ·
      refine w_g (decide_eq_true hb26) (xf 4) ?_
      refine w_g (decide_eq_true hb26) (xl H24 1) ?_
      refine w_g (decide_eq_true hb26) (xf 4) ?_
      refine w_g (decide_eq_true hb26) (xl H24 0) ?_
      refine w_g (v := .bool (!decide (x10.dg = x19.dg))) (decide_eq_true hb26) (x_bin rfl rfl rfl b_nes) ?_
      refine w_v (v := .bool (!decide (x10.dg = x19.dg))) (x_pick_t rfl rfl (decide_eq_true hb26) rfl) ?_
      refine w_e ?_
      refine g_weak [(1, .int .i64 a), (2, .slice q m d), (8, .pointer (some ⟨g11, 0, none⟩)), (15, .slice p n c), (16, .int .i64 ((n : Int))), (17, .int .i64 ((k : Int))), (21, .slice q m d), (22, .int .i64 ((m : Int))), (23, .int .i64 ((j : Int))), (44, .bool (!decide (x10.dg = x19.dg)))] ⟨rfl, rfl, rfl, rfl, rfl, rfl, rfl, rfl, rfl, rfl, trivial⟩ ?_
      by_cases hb27 : x10.dg = x19.dg
      ·
       refine g_cond_f rfl (nf hb27) ?_
       refine g_skip ?_
       refine g_in ?_
       refine g_then ?_
       refine g_region ?_
       refine w_b (v := .int .i64 (((j + 1 : Nat) : Int))) (hb := (b_add (by rw [w64 (by omega)]; omega))) ?_
       refine w_m ?_
       refine w_e ?_
       refine g_round (i := (j)) ((j + 1)) ?_ ?_ ?_
       · exact ⟨rfl, rfl, rfl, rfl, rfl, rfl, rfl, rfl, rfl, trivial⟩
       · exact ⟨by omega, (none_take hnoj hx19 (fun hc => by exact hc.2.2 hb27)), (H24.mask [false, true, true])⟩
       · (try dsimp only); omega
      ·
       refine g_cond_t rfl (nt hb27) ?_
       refine w_s ?_
       refine w_a ?_
       refine w_e ?_
       refine g_ret ?_
       refine g_in_ret ?_
       refine g_then_ret ?_
       refine g_then_ret ?_
       refine g_in_ret ?_
       refine g_in_ret ?_
       refine g_then_ret ?_
       refine g_then_ret ?_
       refine g_in_ret ?_
       refine g_then_ret ?_
       refine fin_ret [.tmp 6] [.bool true] rfl ⟨rfl, trivial⟩ ?_
       exact ⟨by rw [gB_d (i := i) ((differE hgo hl).2 ⟨x10, List.mem_of_getElem? hx10, x19, List.mem_of_getElem? hx19, hb25, hb26, hb27⟩)]; rfl, H24.mask [false, false, true]⟩
     ·
      refine w_n (decide_eq_false hb26) ?_
      refine w_n (decide_eq_false hb26) ?_
      refine w_n (decide_eq_false hb26) ?_
      refine w_n (decide_eq_false hb26) ?_
      refine w_n (decide_eq_false hb26) ?_
      refine w_v (v := .bool false) (x_pick_f rfl rfl (decide_eq_false hb26) rfl) ?_
      refine w_e ?_
      refine g_weak [(1, .int .i64 a), (2, .slice q m d), (8, .pointer (some ⟨g11, 0, none⟩)), (15, .slice p n c), (16, .int .i64 ((n : Int))), (17, .int .i64 ((k : Int))), (21, .slice q m d), (22, .int .i64 ((m : Int))), (23, .int .i64 ((j : Int))), (44, .bool false)] ⟨rfl, rfl, rfl, rfl, rfl, rfl, rfl, rfl, rfl, rfl, trivial⟩ ?_
      refine g_cond_f rfl rfl ?_
      refine g_skip ?_
      refine g_in ?_
      refine g_then ?_
      refine g_region ?_
      refine w_b (v := .int .i64 (((j + 1 : Nat) : Int))) (hb := (b_add (by rw [w64 (by omega)]; omega))) ?_
      refine w_m ?_
      refine w_e ?_
      refine g_round (i := (j)) ((j + 1)) ?_ ?_ ?_
      · exact ⟨rfl, rfl, rfl, rfl, rfl, rfl, rfl, rfl, rfl, trivial⟩
      · exact ⟨by omega, (none_take hnoj hx19 (fun hc => by exact hb26 hc.2.1)), (H24.mask [false, true, true])⟩
      · (try dsimp only); omega
    ·
     refine w_n (decide_eq_false hb25) ?_
     refine w_n (decide_eq_false hb25) ?_
     refine w_n (decide_eq_false hb25) ?_
     refine w_n (decide_eq_false hb25) ?_
     refine w_n (decide_eq_false hb25) ?_
     refine w_v (v := .bool false) (x_pick_f rfl rfl (decide_eq_false hb25) rfl) ?_
     refine w_m ?_
     refine w_n rfl ?_
     refine w_n rfl ?_
     refine w_n rfl ?_
     refine w_n rfl ?_
     refine w_n rfl ?_
     refine w_v (v := .bool false) (x_pick_f rfl rfl rfl rfl) ?_
     refine w_e ?_
     refine g_weak [(1, .int .i64 a), (2, .slice q m d), (8, .pointer (some ⟨g11, 0, none⟩)), (15, .slice p n c), (16, .int .i64 ((n : Int))), (17, .int .i64 ((k : Int))), (21, .slice q m d), (22, .int .i64 ((m : Int))), (23, .int .i64 ((j : Int))), (44, .bool false)] ⟨rfl, rfl, rfl, rfl, rfl, rfl, rfl, rfl, rfl, rfl, trivial⟩ ?_
     refine g_cond_f rfl rfl ?_
     refine g_skip ?_
     refine g_in ?_
     refine g_then ?_
     refine g_region ?_
     refine w_b (v := .int .i64 (((j + 1 : Nat) : Int))) (hb := (b_add (by rw [w64 (by omega)]; omega))) ?_
     refine w_m ?_
     refine w_e ?_
     refine g_round (i := (j)) ((j + 1)) ?_ ?_ ?_
     · exact ⟨rfl, rfl, rfl, rfl, rfl, rfl, rfl, rfl, rfl, trivial⟩
     · exact ⟨by omega, (none_take hnoj hx19 (fun hc => by exact hb25 hc.1)), (H24.mask [false, true, true])⟩
     · (try dsimp only); omega
   ·
    refine g_cond_f rfl (decide_eq_false hb18) ?_
    refine g_exit ?_
    refine g_then_exit ?_
    refine g_then_exit ?_
    refine g_in_hit ?_
    refine g_in ?_
    refine g_then ?_
    refine g_region ?_
    refine w_b (v := .int .i64 (((k + 1 : Nat) : Int))) (hb := (b_add (by rw [w64 (by omega)]; omega))) ?_
    refine w_m ?_
    refine w_e ?_
    refine g_round (i := (k)) ((k + 1)) ?_ ?_ ?_
    · exact ⟨rfl, rfl, rfl, rfl, rfl, trivial⟩
    · exact ⟨by omega, (none_take hno hx10 (fun y hy => hnoj y (by rw [List.take_of_length_le (by omega)]; exact hy))), (H17.mask [false, true])⟩
    · (try dsimp only); omega
  ·
   refine g_cond_f rfl (decide_eq_false hb9) ?_
   refine g_exit ?_
   refine g_then_exit ?_
   refine g_then_exit ?_
   refine g_in_hit ?_
   refine g_then ?_
   refine w_s ?_
   refine w_a ?_
   refine w_e ?_
   refine g_ret ?_
   refine fin_ret [.tmp 6] [.bool false] rfl ⟨rfl, trivial⟩ ?_
   have hkn : k = n := by omega
   have hlq := hr.lenL e5E
   rw [List.take_of_length_le (by omega)] at hno
   exact ⟨by rw [gB_f hl (by omega) (fun hd => by obtain ⟨x, hx, y, hy, h9⟩ := (differE hgo hl).1 hd; exact hno x hx y hy h9)]; rfl, H8.mask [true]⟩
end Go.Proofs.Ytlikhpfdncidkaa
