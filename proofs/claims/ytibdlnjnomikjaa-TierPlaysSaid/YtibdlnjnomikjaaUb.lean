import Derived.Test.YtibdlnjnomikjaaFk
import Derived.Test.YtibdlnjnomikjaaUa
set_option linter.unusedSimpArgs false
set_option linter.unusedVariables false
namespace Go.Proofs.Ytibdlnjnomikjaa
open Go.RowKit

theorem cl64 : callable Try.prog 64 = true := by kernel_rfl
theorem fo84_0 : foO Try.prog 84 0 = some 0 := by kernel_rfl
theorem fo87_0 : foO Try.prog 87 0 = some 0 := by kernel_rfl
theorem fo87_2 : foO Try.prog 87 2 = some 2 := by kernel_rfl
theorem fo87_3 : foO Try.prog 87 3 = some 3 := by kernel_rfl
theorem fo87_4 : foO Try.prog 87 4 = some 4 := by kernel_rfl
theorem sz85 : szO Try.prog 85 = some 1 := by kernel_rfl
theorem sz87 : szO Try.prog 87 = some 5 := by kernel_rfl
theorem ze87 : zeO Try.prog 87 = some (.agg #[.string (⟨#[]⟩), .int .i64 0, .int .i64 0, .bool false, .bool false]) := by kernel_rfl
def tkL (t : Tk) : List Value := [.string t.name, .int .i64 t.failed, .int .i64 t.after, .bool t.ans, .bool t.told]
theorem tkE : Enc 5 tkL := ⟨by decide, fun _ => rfl, fun _ => rfl⟩
def RPS (rs : List (Ro Tk)) (now : Int) (und : Bool) (nm : ByteArray) (ev : Int) (beg who dne stp : Bool) (hol : Int) : PS :=
  ⟨rs.map fun r => r.l, now, if und = true then some (nm, ev) else none, hol, beg, who || dne, dne && !who, stp⟩
theorem map_at {rs : List (Ro Tk)} {i : Nat} {r : Ro Tk} (h : rs[i]? = some r) : (rs.map fun r => r.l)[i]? = some r.l := by rw [List.getElem?_map, h]; rfl
theorem size_nil {s : ByteArray} (h : s.size = 0) : s = ⟨#[]⟩ := by
  obtain ⟨a⟩ := s
  have : a.size = 0 := h
  rw [Array.size_eq_zero_iff.1 this]
theorem textS_i (s : ByteArray) : textS s = (decide ((1 : Int) ≤ (s.size : Int)) && decide ((s.size : Int) ≤ 200)) := by
  unfold textS
  have hz : s = ⟨#[]⟩ ↔ s.size = 0 := ⟨fun h => by rw [h]; rfl, fun h => size_nil h⟩
  by_cases h0 : s.size = 0
  · simp [hz, h0]
  · have h1 : (1 : Int) ≤ (s.size : Int) := by omega
    simp [hz, h0, h1]; try omega
theorem okS_r {beg dn stp : Bool} {hol n : Int} (hn : 0 ≤ n) (x : Tk) : okS (evS beg dn stp) hol n x = if stp = true then x.ans && !x.told else decide (x.after ≤ n) && (!decide (evS beg dn false = 0) || decide (hol ≤ n)) := by
  cases stp with
  | true => unfold okS freeS evS; simp [hn]
  | false =>
    rw [if_neg (by decide)]
    unfold okS freeS
    have h2 : ¬ evS beg dn false = 2 := by cases beg <;> cases dn <;> decide
    rw [if_neg h2]
    by_cases h0 : evS beg dn false = 0
    · rw [if_pos h0]
      simp only [h0, decide_true, Bool.true_and, Bool.not_true, Bool.false_or]
      rw [← Bool.decide_and]
      exact decide_eq_decide.2 (by show max x.after hol ≤ n ↔ _; omega)
    · rw [if_neg h0]; simp [h0]
set_option maxRecDepth 20000 in
set_option maxHeartbeats 4000000 in
theorem name_r (s : ByteArray) (w : World) : Calls Try.prog 59 #[.string s] w fun e w' => e = .returned (.bool (textS s)) ∧ S w' [Old w no] := by
 have H0 := S.old w
 refine enter 11 Try.func59 rfl rfl rfl ?_
 refine g_weak [(0, .string s)] ⟨rfl, trivial⟩ ?_
 refine w_s ?_
 refine w_a ?_
 refine w_e ?_
 refine w_s ?_
 refine w_m ?_
 refine w_v (v := .int .i64 ((s.size : Int))) (x_lens rfl rfl Try.underlying9) ?_
 refine w_b ?_
 refine w_m ?_
 by_cases hb1 : (1 : Int) ≤ (s.size : Int)
 ·
  refine w_g (decide_eq_true hb1) xm ?_
  refine w_g (v := .int .i64 ((s.size : Int))) (decide_eq_true hb1) (x_lens rfl rfl Try.underlying9) ?_
  refine w_g (decide_eq_true hb1) (x_bin rfl rfl rfl b_leq) ?_
  refine w_v (v := .bool (decide (((s.size : Int) : Int) ≤ 200))) (x_pick_t rfl rfl (decide_eq_true hb1) rfl) ?_
  refine w_a ?_
  refine w_e ?_
  refine g_ret ?_
  refine fin_ret [.tmp 2] [.bool (decide (((s.size : Int) : Int) ≤ 200))] rfl ⟨rfl, trivial⟩ ?_
  have e1 : textS s = (decide (((s.size : Int) : Int) ≤ 200)) := by rw [textS_i]; by_cases h1 : (1 : Int) ≤ (s.size : Int) <;> by_cases h2 : (s.size : Int) ≤ 200 <;> simp [h1, h2] <;> omega
  exact ⟨by rw [e1]; rfl, H0.mask [true]⟩
 ·
  refine w_n (decide_eq_false hb1) ?_
  refine w_n (decide_eq_false hb1) ?_
  refine w_n (decide_eq_false hb1) ?_
  refine w_v (v := .bool false) (x_pick_f rfl rfl (decide_eq_false hb1) rfl) ?_
  refine w_a ?_
  refine w_e ?_
  refine g_ret ?_
  refine fin_ret [.tmp 2] [.bool false] rfl ⟨rfl, trivial⟩ ?_
  have e1 : textS s = (false) := by rw [textS_i]; by_cases h1 : (1 : Int) ≤ (s.size : Int) <;> by_cases h2 : (s.size : Int) ≤ 200 <;> simp [h1, h2] <;> omega
  exact ⟨by rw [e1]; rfl, H0.mask [true]⟩
set_option maxRecDepth 20000 in
set_option maxHeartbeats 4000000 in
theorem due_r {g C : Nat} {P : Option Addr} {rs : List (Ro Tk)} {now ev hol : Int} {nm : ByteArray} {und beg who dne stp : Bool} (hrs : rs.length ≤ 20) (hrl : ∀ r ∈ rs, r.l.length ≤ 20)  (w : World) (HS : S w [Ob g (.cells #[.slice P rs.length C, .int .i64 now, .bool und, .string nm, .int .i64 ev, .bool beg, .bool who, .bool dne, .bool stp, .int .i64 hol] 84 (0, 0)), Rw 85 1 P rs.length C (fl rowL rs), RowsI 87 5 tkL rs]) : Calls Try.prog 64 #[.pointer (some ⟨g, 0, none⟩)] w fun e w' => e = .returned (.int .i64 (evS beg (dne && !who) false)) ∧ S w' ([Ob g (.cells #[.slice P rs.length C, .int .i64 now, .bool und, .string nm, .int .i64 ev, .bool beg, .bool who, .bool dne, .bool stp, .int .i64 hol] 84 (0, 0)), Rw 85 1 P rs.length C (fl rowL rs), RowsI 87 5 tkL rs] ++ [Old w (fps [Ob g (.cells #[.slice P rs.length C, .int .i64 now, .bool und, .string nm, .int .i64 ev, .bool beg, .bool who, .bool dne, .bool stp, .int .i64 hol] 84 (0, 0)), Rw 85 1 P rs.length C (fl rowL rs), RowsI 87 5 tkL rs])]) := by
 have H0 := HS.beginI
 refine enter 21 Try.func64 rfl rfl rfl ?_
 refine g_weak [(0, .pointer (some ⟨g, 0, none⟩))] ⟨rfl, trivial⟩ ?_
 refine w_s ?_
 refine w_a ?_
 refine w_e ?_
 refine g_seq ?_
 refine g_block ?_
 refine w_s ?_
 refine w_r3 ?_
 refine w_1 H0 0 ?_
 refine w_v (v := .bool (!beg)) (x_not (b := beg) rfl rfl) ?_
 refine w_a ?_
 refine w_e ?_
 rcases Bool.eq_false_or_eq_true (beg) with hb1 | hb1
 ·
  refine g_cond_f rfl (neg_of hb1) ?_
  refine w_s ?_
  refine w_r3 ?_
  refine w_1 H0 0 ?_
  refine w_m ?_
  rcases Bool.eq_false_or_eq_true (dne) with hb2 | hb2
  ·
   refine w_g hb2 xm ?_
   refine w_g hb2 xn ?_
   refine w_g hb2 (xf 6) ?_
   refine w_g hb2 (xl H0 0) ?_
   refine w_g (v := .bool (!who)) hb2 (x_not (b := who) rfl rfl) ?_
   refine w_v (v := .bool (!who)) (x_pick_t rfl rfl hb2 rfl) ?_
   refine w_a ?_
   refine w_e ?_
   refine g_weak [(9, .bool (!who))] ⟨rfl, trivial⟩ ?_
   rcases Bool.eq_false_or_eq_true (who) with hb3 | hb3
   ·
    refine g_cond_f rfl (neg_of hb3) ?_
    refine g_skip ?_
    refine g_in ?_
    refine g_then ?_
    refine w_s ?_
    refine w_a ?_
    refine w_e ?_
    refine g_ret ?_
    refine fin_ret [.tmp 2] [.int .i64 0] rfl ⟨rfl, trivial⟩ ?_
    exact ⟨by unfold evS; simp [hb1, hb2, hb3, tupled], H0.takes [0, 1, 2, 3] (by decide)⟩
   ·
    refine g_cond_t rfl (neg_of hb3) ?_
    refine w_s ?_
    refine w_a ?_
    refine w_e ?_
    refine g_ret ?_
    refine g_in_ret ?_
    refine g_then_ret ?_
    refine fin_ret [.tmp 2] [.int .i64 3] rfl ⟨rfl, trivial⟩ ?_
    exact ⟨by unfold evS; simp [hb1, hb2, hb3, tupled], H0.takes [0, 1, 2, 3] (by decide)⟩
  ·
   refine w_n hb2 ?_
   refine w_n hb2 ?_
   refine w_n hb2 ?_
   refine w_n hb2 ?_
   refine w_n hb2 ?_
   refine w_v (v := .bool false) (x_pick_f rfl rfl hb2 rfl) ?_
   refine w_a ?_
   refine w_e ?_
   refine g_weak [(9, .bool false)] ⟨rfl, trivial⟩ ?_
   refine g_cond_f rfl rfl ?_
   refine g_skip ?_
   refine g_in ?_
   refine g_then ?_
   refine w_s ?_
   refine w_a ?_
   refine w_e ?_
   refine g_ret ?_
   refine fin_ret [.tmp 2] [.int .i64 0] rfl ⟨rfl, trivial⟩ ?_
   exact ⟨by unfold evS; simp [hb1, hb2, tupled], H0.takes [0, 1, 2, 3] (by decide)⟩
 ·
  refine g_cond_t rfl (neg_of hb1) ?_
  refine w_s ?_
  refine w_a ?_
  refine w_e ?_
  refine g_ret ?_
  refine g_in_ret ?_
  refine g_then_ret ?_
  refine fin_ret [.tmp 2] [.int .i64 1] rfl ⟨rfl, trivial⟩ ?_
  exact ⟨by unfold evS; simp [hb1, tupled], H0.takes [0, 1, 2, 3] (by decide)⟩
set_option maxRecDepth 20000 in
set_option maxHeartbeats 4000000 in
theorem next_r {g C : Nat} {P : Option Addr} {rs : List (Ro Tk)} {now ev hol : Int} {nm : ByteArray} {und beg who dne stp : Bool} (hrs : rs.length ≤ 20) (hrl : ∀ r ∈ rs, r.l.length ≤ 20) {n : Int} (hn : 0 ≤ n)  (w : World) (HS : S w [Ob g (.cells #[.slice P rs.length C, .int .i64 now, .bool und, .string nm, .int .i64 ev, .bool beg, .bool who, .bool dne, .bool stp, .int .i64 hol] 84 (0, 0)), Rw 85 1 P rs.length C (fl rowL rs), RowsI 87 5 tkL rs]) : Calls Try.prog 63 #[.pointer (some ⟨g, 0, none⟩), .int .i64 n] w fun e w' => (∃ (i k : Nat) (r : Ro Tk) (x : Tk), rs[i]? = some r ∧ r.l[k]? = some x ∧ (RPS rs now und nm ev beg who dne stp hol).find n = some (i, k, x) ∧ e = .returned (.tuple #[.agg #[.int .i64 (i : Int), .int .i64 (k : Int), .int .i64 n, .int .i64 (evS beg (dne && !who) stp)], .bool true]) ∧ S w' ([Ob g (.cells #[.slice P rs.length C, .int .i64 now, .bool und, .string nm, .int .i64 ev, .bool beg, .bool who, .bool dne, .bool stp, .int .i64 hol] 84 (0, 0)), Rw 85 1 P rs.length C (fl rowL rs), RowsI 87 5 tkL rs] ++ [Old w (fps [Ob g (.cells #[.slice P rs.length C, .int .i64 now, .bool und, .string nm, .int .i64 ev, .bool beg, .bool who, .bool dne, .bool stp, .int .i64 hol] 84 (0, 0)), Rw 85 1 P rs.length C (fl rowL rs), RowsI 87 5 tkL rs])])) ∨ ((RPS rs now und nm ev beg who dne stp hol).find n = none ∧ e = .returned (.tuple #[.agg #[.int .i64 0, .int .i64 0, .int .i64 0, .int .i64 0], .bool false]) ∧ S w' ([Ob g (.cells #[.slice P rs.length C, .int .i64 now, .bool und, .string nm, .int .i64 ev, .bool beg, .bool who, .bool dne, .bool stp, .int .i64 hol] 84 (0, 0)), Rw 85 1 P rs.length C (fl rowL rs), RowsI 87 5 tkL rs] ++ [Old w (fps [Ob g (.cells #[.slice P rs.length C, .int .i64 now, .bool und, .string nm, .int .i64 ev, .bool beg, .bool who, .bool dne, .bool stp, .int .i64 hol] 84 (0, 0)), Rw 85 1 P rs.length C (fl rowL rs), RowsI 87 5 tkL rs])])) := by
 have H0 := HS.beginI
 refine enter 80 Try.func63 rfl rfl rfl ?_
 refine g_weak [(0, .pointer (some ⟨g, 0, none⟩)), (1, .int .i64 n)] ⟨rfl, rfl, trivial⟩ ?_
 refine w_s ?_
 refine l_of (s_alloc H0 (wt0 rfl) rfl rfl rfl ze34 ?_)
 intro g1 wq2 H3
 refine w_a ?_
 refine w_e ?_
 refine w_s ?_
 refine w_a ?_
 refine w_e ?_
 refine g_seq ?_
 refine w_s ?_
 refine w_r3 ?_
 refine w_1 H3 1 ?_
 refine w_v (v := .bool (!stp)) (x_not (b := stp) rfl rfl) ?_
 refine w_e ?_
 rcases Bool.eq_false_or_eq_true (stp) with hb4 | hb4
 ·
  refine g_cond_f rfl (neg_of hb4) ?_
  refine g_skip ?_
  refine g_then ?_
  refine g_seq ?_
  refine w_s ?_
  refine w_r3 ?_
  refine w_1 H3 1 ?_
  refine w_v (v := .int .i64 ((rs.length : Int))) (x_lenl rfl rfl Try.underlying82) ?_
  refine w_m ?_
  refine w_e ?_
  refine g_block ?_
  refine g_loop (ι := Nat) (fun i => [(0, .pointer (some ⟨g, 0, none⟩)), (1, .int .i64 n), (4, .pointer (some ⟨g1, 0, none⟩)), (6, .int .i64 2), (32, .slice P rs.length C), (33, .int .i64 ((rs.length : Int))), (34, .int .i64 ((i : Int)))]) (fun i wx => (i ≤ rs.length) ∧ (∀ p ∈ flatT 0 ((rs.map fun r => r.l).take i), okS (evS beg (dne && !who) stp) hol n p.2.2 = false) ∧ S wx [Ob g1 (.cells #[.int .i64 0, .int .i64 0, .int .i64 0, .int .i64 0] 34 (0, 0)), Ob g (.cells #[.slice P rs.length C, .int .i64 now, .bool und, .string nm, .int .i64 ev, .bool beg, .bool who, .bool dne, .bool stp, .int .i64 hol] 84 (0, 0)), Rw 85 1 P rs.length C (fl rowL rs), RowsI 87 5 tkL rs, Old w (fps [Ob g (.cells #[.slice P rs.length C, .int .i64 now, .bool und, .string nm, .int .i64 ev, .bool beg, .bool who, .bool dne, .bool stp, .int .i64 hol] 84 (0, 0)), Rw 85 1 P rs.length C (fl rowL rs), RowsI 87 5 tkL rs])]) (fun i => rs.length - i) (0) ⟨rfl, rfl, rfl, rfl, rfl, rfl, rfl, trivial⟩ ⟨Nat.zero_le _, (fun p hp => by simp [flatT] at hp), H3⟩ ?_
  rintro i wq5 ⟨hi, hno, H6⟩
  refine g_weak [(0, .pointer (some ⟨g, 0, none⟩)), (1, .int .i64 n), (4, .pointer (some ⟨g1, 0, none⟩)), (6, .int .i64 2), (32, .slice P rs.length C), (33, .int .i64 ((rs.length : Int))), (34, .int .i64 ((i : Int)))] ⟨rfl, rfl, rfl, rfl, rfl, rfl, rfl, trivial⟩ ?_
  refine w_s ?_
  refine w_b ?_
  refine w_e ?_
  refine g_seq ?_
  by_cases hb7 : ((i : Int) : Int) < (rs.length : Int)
  ·
   refine g_cond_t rfl (decide_eq_true hb7) ?_
   refine g_skip ?_
   refine g_then ?_
   refine g_seq ?_
   refine g_block ?_
   refine w_s ?_
   refine w_m ?_
   refine w_v (v := .pointer ((P).map fun q => q.add (i * 1))) (x_idxR i (H6.rwReads (k := 2) rfl) rfl rfl rfl Try.underlying82 sz85 (by omega)) ?_
   have hlq := (H6.rwReads (k := 2) rfl).lenL rowE
   obtain ⟨x8, hx8⟩ := ex_at (l := rs) (j := i) (by omega)
   clear hlq
   have hrlx8 := hrl x8 (List.mem_of_getElem? hx8)
   have hTx8 := map_at hx8
   refine w_v (v := .slice x8.p x8.l.length x8.c) (x_loadR1 i (H6.rwReads (k := 2) rfl) (by omega) rfl rfl Try.underlying85 rfl (rowE.flAt1 hx8 rfl)) ?_
   refine w_r2 ?_
   refine w_e ?_
   refine w_s ?_
   refine w_m ?_
   refine w_v (v := .int .i64 ((x8.l.length : Int))) (x_lenl rfl rfl Try.underlying85) ?_
   refine w_m ?_
   refine w_e ?_
   refine g_block ?_
   refine g_loop (ι := Nat) (fun k => [(0, .pointer (some ⟨g, 0, none⟩)), (1, .int .i64 n), (4, .pointer (some ⟨g1, 0, none⟩)), (6, .int .i64 2), (7, .int .i64 ((i : Int))), (32, .slice P rs.length C), (33, .int .i64 ((rs.length : Int))), (34, .int .i64 ((i : Int))), (39, .slice x8.p x8.l.length x8.c), (40, .int .i64 ((x8.l.length : Int))), (41, .int .i64 ((k : Int)))]) (fun k wx => (k ≤ x8.l.length) ∧ (∀ p ∈ uptoT (rs.map fun r => r.l) i x8.l k, okS (evS beg (dne && !who) stp) hol n p.2.2 = false) ∧ S wx [Ob g1 (.cells #[.int .i64 0, .int .i64 0, .int .i64 0, .int .i64 0] 34 (0, 0)), Ob g (.cells #[.slice P rs.length C, .int .i64 now, .bool und, .string nm, .int .i64 ev, .bool beg, .bool who, .bool dne, .bool stp, .int .i64 hol] 84 (0, 0)), Rw 85 1 P rs.length C (fl rowL rs), RowsI 87 5 tkL rs, Old w (fps [Ob g (.cells #[.slice P rs.length C, .int .i64 now, .bool und, .string nm, .int .i64 ev, .bool beg, .bool who, .bool dne, .bool stp, .int .i64 hol] 84 (0, 0)), Rw 85 1 P rs.length C (fl rowL rs), RowsI 87 5 tkL rs])]) (fun k => x8.l.length - k) (0) ⟨rfl, rfl, rfl, rfl, rfl, rfl, rfl, rfl, rfl, rfl, rfl, trivial⟩ ⟨Nat.zero_le _, (by rw [uptoT_zero]; exact hno), H6⟩ ?_
   rintro k wq9 ⟨hk, hnk, H10⟩
   refine g_weak [(0, .pointer (some ⟨g, 0, none⟩)), (1, .int .i64 n), (4, .pointer (some ⟨g1, 0, none⟩)), (6, .int .i64 2), (7, .int .i64 ((i : Int))), (32, .slice P rs.length C), (33, .int .i64 ((rs.length : Int))), (34, .int .i64 ((i : Int))), (39, .slice x8.p x8.l.length x8.c), (40, .int .i64 ((x8.l.length : Int))), (41, .int .i64 ((k : Int)))] ⟨rfl, rfl, rfl, rfl, rfl, rfl, rfl, rfl, rfl, rfl, rfl, trivial⟩ ?_
   refine w_s ?_
   refine w_b ?_
   refine w_e ?_
   refine g_seq ?_
   by_cases hb11 : ((k : Int) : Int) < (x8.l.length : Int)
   ·
    refine g_cond_t rfl (decide_eq_true hb11) ?_
    refine g_skip ?_
    refine g_then ?_
    refine g_seq ?_
    refine g_block ?_
    refine w_s ?_
    refine w_m ?_
    refine w_v (v := .pointer ((x8.p).map fun q => q.add (k * 5))) (x_idxR k ((rows_in (H10.at (k := 3) rfl) (.inl (List.mem_of_getElem? hx8)))) rfl rfl rfl Try.underlying85 sz87 (by omega)) ?_
    have hlq := ((rows_in (H10.at (k := 3) rfl) (.inl (List.mem_of_getElem? hx8)))).lenL tkE
    obtain ⟨x12, hx12⟩ := ex_at (l := x8.l) (j := k) (by omega)
    clear hlq
    refine w_v (v := .agg #[.string (x12.name), .int .i64 (x12.failed), .int .i64 (x12.after), .bool x12.ans, .bool x12.told]) (x_loadRA (vs := tkL x12) k ((rows_in (H10.at (k := 3) rfl) (.inl (List.mem_of_getElem? hx8)))) (by omega) rfl rfl Try.underlying87 rfl sz87 (by rfl) (tkE.flAt hx12)) ?_
    refine l_of (s_alloc H10 (wt0 rfl) rfl rfl rfl ze87 ?_)
    intro g13 wq14 H15
    refine w_a ?_
    refine l_of (w_st #[.string (x12.name), .int .i64 (x12.failed), .int .i64 (x12.after), .bool x12.ans, .bool x12.told] H15 0 ?_)
    intro wq16 H17
    refine w_e ?_
    refine w_s ?_
    refine w_r3 ?_
    refine w_1 H17 2 ?_
    refine w_m ?_
    refine w_g hb4 (xf 3) ?_
    refine w_g hb4 (xl H17 0) ?_
    refine w_v (v := .bool x12.ans) (x_pick_t rfl rfl hb4 rfl) ?_
    refine w_m ?_
    rcases Bool.eq_false_or_eq_true (x12.ans) with hb18 | hb18
    ·
     refine w_g hb18 (xf 4) ?_
     refine w_g hb18 (xl H17 0) ?_
     refine w_g (v := .bool (!(x12.told))) hb18 (x_not (b := x12.told) rfl rfl) ?_
     refine w_v (v := .bool (!(x12.told))) (x_pick_t rfl rfl hb18 rfl) ?_
     refine w_m ?_
     rcases Bool.eq_false_or_eq_true (x12.told) with hb19 | hb19
     ·
      refine w_g (neg_of hb19) xm ?_
      refine w_g (neg_of hb19) xn ?_
      refine w_g (neg_of hb19) (xf 8) ?_
      refine w_g (neg_of hb19) (xl H17 2) ?_
      refine w_g (v := .bool (!stp)) (neg_of hb19) (x_not (b := stp) rfl rfl) ?_
      refine w_g (neg_of hb19) xm ?_
      refine w_n (neg_of hb4) ?_
      refine w_n (neg_of hb4) ?_
      refine w_n (neg_of hb4) ?_
      refine w_n (neg_of hb4) ?_
      refine w_g (v := .bool false) (neg_of hb19) (x_pick_f rfl rfl (neg_of hb4) rfl) ?_
      refine w_v (v := .bool false) (x_pick_f rfl rfl (neg_of hb19) rfl) ?_
      refine w_e ?_
      refine g_weak [(0, .pointer (some ⟨g, 0, none⟩)), (1, .int .i64 n), (4, .pointer (some ⟨g1, 0, none⟩)), (6, .int .i64 2), (7, .int .i64 ((i : Int))), (9, .int .i64 ((k : Int))), (32, .slice P rs.length C), (33, .int .i64 ((rs.length : Int))), (34, .int .i64 ((i : Int))), (39, .slice x8.p x8.l.length x8.c), (40, .int .i64 ((x8.l.length : Int))), (41, .int .i64 ((k : Int))), (71, .bool false)] ⟨rfl, rfl, rfl, rfl, rfl, rfl, rfl, rfl, rfl, rfl, rfl, rfl, rfl, trivial⟩ ?_
      refine g_cond_f rfl rfl ?_
      refine g_skip ?_
      refine g_in ?_
      refine g_then ?_
      refine g_region ?_
      refine w_b (v := .int .i64 (((k + 1 : Nat) : Int))) (hb := (b_add (by rw [w64 (by omega)]; omega))) ?_
      refine w_m ?_
      refine w_e ?_
      refine g_round (i := (k)) ((k + 1)) ?_ ?_ ?_
      · exact ⟨rfl, rfl, rfl, rfl, rfl, rfl, rfl, rfl, rfl, rfl, rfl, trivial⟩
      · exact ⟨by omega, (upto_step (f := fun t => okS (evS beg (dne && !who) stp) hol n t) hx12 hnk (by rw [okS_r hn]; simp [hb4, hb7, hb11, hb18, hb19] <;> omega)), (H17.mask [false, true, true, true, true, true])⟩
      · (try dsimp only); omega
     ·
      refine w_n (neg_of hb19) ?_
      refine w_n (neg_of hb19) ?_
      refine w_n (neg_of hb19) ?_
      refine w_n (neg_of hb19) ?_
      refine w_n (neg_of hb19) ?_
      refine w_n (neg_of hb19) ?_
      refine l_of (s_not (wn2 rfl rfl rfl rfl) rfl rfl ?_)
      refine l_of (s_not (wn2 rfl rfl rfl rfl) rfl rfl ?_)
      refine l_of (s_not (wn2 rfl rfl rfl rfl) rfl rfl ?_)
      refine l_of (s_not (wn2 rfl rfl rfl rfl) rfl rfl ?_)
      refine w_n (neg_of hb19) ?_
      refine w_v (v := .bool true) (x_pick_t rfl rfl (neg_of hb19) rfl) ?_
      refine w_e ?_
      refine g_weak [(0, .pointer (some ⟨g, 0, none⟩)), (1, .int .i64 n), (4, .pointer (some ⟨g1, 0, none⟩)), (6, .int .i64 2), (7, .int .i64 ((i : Int))), (9, .int .i64 ((k : Int))), (32, .slice P rs.length C), (33, .int .i64 ((rs.length : Int))), (34, .int .i64 ((i : Int))), (39, .slice x8.p x8.l.length x8.c), (40, .int .i64 ((x8.l.length : Int))), (41, .int .i64 ((k : Int))), (71, .bool true)] ⟨rfl, rfl, rfl, rfl, rfl, rfl, rfl, rfl, rfl, rfl, rfl, rfl, rfl, trivial⟩ ?_
      refine g_cond_t rfl rfl ?_
      refine w_s ?_
      refine w_r4 ?_
      refine w_v (v := .agg #[.int .i64 ((i : Int)), .int .i64 ((k : Int)), .int .i64 n, .int .i64 2]) (x_build (vs := [.int .i64 ((i : Int)), .int .i64 ((k : Int)), .int .i64 n, .int .i64 2]) rfl rfl (cells := #[.int .i64 ((i : Int)), .int .i64 ((k : Int)), .int .i64 n, .int .i64 2]) (by kernel_rfl)) ?_
      refine l_of (w_st #[.int .i64 ((i : Int)), .int .i64 ((k : Int)), .int .i64 n, .int .i64 2] H17 1 ?_)
      intro wq20 H21
      refine w_a ?_
      refine w_e ?_
      refine g_weak [(4, .pointer (some ⟨g1, 0, none⟩)), (5, .bool true)] ⟨rfl, rfl, trivial⟩ ?_
      refine g_ret ?_
      refine g_in_ret ?_
      refine g_then_ret ?_
      refine g_then_ret ?_
      refine g_in_ret ?_
      refine g_in_ret ?_
      refine g_then_ret ?_
      refine g_then_ret ?_
      refine g_in_ret ?_
      refine g_then_ret ?_
      refine fin_ret [.cell 4 34, .tmp 5] [.agg #[.int .i64 ((i : Int)), .int .i64 ((k : Int)), .int .i64 n, .int .i64 2], .bool true] rfl ⟨⟨_, rfl, run_loadA (H21.ob (k := 1) rfl) Try.underlying34 rfl sz34 rfl rfl⟩, rfl, trivial⟩ ?_
      have hf := find_at (f := fun t => okS (evS beg (dne && !who) stp) hol n t) hTx8 hx12 hnk (by show okS (evS beg (dne && !who) stp) hol n x12 = true; rw [okS_r hn]; simp [hb4, hb7, hb11, hb18, hb19] <;> omega)
      exact .inl ⟨i, k, x8, x12, hx8, hx12, hf, by unfold evS; simp [hb4, hb7, hb11, hb18, hb19, tupled] <;> (try rfl), H21.takes [2, 3, 4, 5] (by decide)⟩
    ·
     refine w_n hb18 ?_
     refine w_n hb18 ?_
     refine w_n hb18 ?_
     refine w_v (v := .bool false) (x_pick_f rfl rfl hb18 rfl) ?_
     refine w_m ?_
     refine w_g rfl xm ?_
     refine w_g rfl xn ?_
     refine w_g rfl (xf 8) ?_
     refine w_g rfl (xl H17 2) ?_
     refine w_g (v := .bool (!stp)) rfl (x_not (b := stp) rfl rfl) ?_
     refine w_g rfl xm ?_
     refine w_n (neg_of hb4) ?_
     refine w_n (neg_of hb4) ?_
     refine w_n (neg_of hb4) ?_
     refine w_n (neg_of hb4) ?_
     refine w_g (v := .bool false) rfl (x_pick_f rfl rfl (neg_of hb4) rfl) ?_
     refine w_v (v := .bool false) (x_pick_f rfl rfl rfl rfl) ?_
     refine w_e ?_
     refine g_weak [(0, .pointer (some ⟨g, 0, none⟩)), (1, .int .i64 n), (4, .pointer (some ⟨g1, 0, none⟩)), (6, .int .i64 2), (7, .int .i64 ((i : Int))), (9, .int .i64 ((k : Int))), (32, .slice P rs.length C), (33, .int .i64 ((rs.length : Int))), (34, .int .i64 ((i : Int))), (39, .slice x8.p x8.l.length x8.c), (40, .int .i64 ((x8.l.length : Int))), (41, .int .i64 ((k : Int))), (71, .bool false)] ⟨rfl, rfl, rfl, rfl, rfl, rfl, rfl, rfl, rfl, rfl, rfl, rfl, rfl, trivial⟩ ?_
     refine g_cond_f rfl rfl ?_
     refine g_skip ?_
     refine g_in ?_
     refine g_then ?_
     refine g_region ?_
     refine w_b (v := .int .i64 (((k + 1 : Nat) : Int))) (hb := (b_add (by rw [w64 (by omega)]; omega))) ?_
     refine w_m ?_
     refine w_e ?_
     refine g_round (i := (k)) ((k + 1)) ?_ ?_ ?_
     · exact ⟨rfl, rfl, rfl, rfl, rfl, rfl, rfl, rfl, rfl, rfl, rfl, trivial⟩
     · exact ⟨by omega, (upto_step (f := fun t => okS (evS beg (dne && !who) stp) hol n t) hx12 hnk (by rw [okS_r hn]; simp [hb4, hb7, hb11, hb18] <;> omega)), (H17.mask [false, true, true, true, true, true])⟩
     · (try dsimp only); omega
   ·
    refine g_cond_f rfl (decide_eq_false hb11) ?_
    refine g_exit ?_
    refine g_then_exit ?_
    refine g_then_exit ?_
    refine g_in_hit ?_
    refine g_in ?_
    refine g_then ?_
    refine g_region ?_
    refine w_b (v := .int .i64 (((i + 1 : Nat) : Int))) (hb := (b_add (by rw [w64 (by omega)]; omega))) ?_
    refine w_m ?_
    refine w_e ?_
    refine g_round (i := (i)) ((i + 1)) ?_ ?_ ?_
    · exact ⟨rfl, rfl, rfl, rfl, rfl, rfl, rfl, trivial⟩
    · exact ⟨by omega, (upto_row (f := fun t => okS (evS beg (dne && !who) stp) hol n t) hTx8 (by omega) hnk), H10⟩
    · (try dsimp only); omega
  ·
   refine g_cond_f rfl (decide_eq_false hb7) ?_
   refine g_exit ?_
   refine g_then_exit ?_
   refine g_then_exit ?_
   refine g_in_hit ?_
   refine g_then ?_
   refine w_s ?_
   refine w_v (v := .agg #[.int .i64 0, .int .i64 0, .int .i64 0, .int .i64 0]) (x_build (vs := []) rfl rfl (cells := #[.int .i64 0, .int .i64 0, .int .i64 0, .int .i64 0]) (by kernel_rfl)) ?_
   refine l_of (w_st #[.int .i64 0, .int .i64 0, .int .i64 0, .int .i64 0] H6 0 ?_)
   intro wq22 H23
   refine w_a ?_
   refine w_e ?_
   refine g_ret ?_
   refine fin_ret [.cell 4 34, .tmp 5] [.agg #[.int .i64 0, .int .i64 0, .int .i64 0, .int .i64 0], .bool false] rfl ⟨⟨_, rfl, run_loadA (H23.ob (k := 0) rfl) Try.underlying34 rfl sz34 rfl rfl⟩, rfl, trivial⟩ ?_
   rw [List.take_of_length_le (by rw [List.length_map]; omega)] at hno
   have hf := find_no (f := fun t => okS (evS beg (dne && !who) stp) hol n t) hno
   exact .inr ⟨hf, rfl, H23.takes [1, 2, 3, 4] (by decide)⟩
 ·
  refine g_cond_t rfl (neg_of hb4) ?_
  refine w_s ?_
  refine w_m ?_
  refine l_of (s_call (wt0 rfl) (x_call' rfl rfl cl64) (due_r hrs hrl _ (H3.takes [1, 2, 3] (by decide))) ?_)
  rintro _ wq24 ⟨rfl, H25⟩
  replace H25 : S wq24 [Ob g (.cells #[.slice P rs.length C, .int .i64 now, .bool und, .string nm, .int .i64 ev, .bool beg, .bool who, .bool dne, .bool stp, .int .i64 hol] 84 (0, 0)), Rw 85 1 P rs.length C (fl rowL rs), RowsI 87 5 tkL rs, Ob g1 (.cells #[.int .i64 0, .int .i64 0, .int .i64 0, .int .i64 0] 34 (0, 0)), Old w (fps [Ob g (.cells #[.slice P rs.length C, .int .i64 now, .bool und, .string nm, .int .i64 ev, .bool beg, .bool who, .bool dne, .bool stp, .int .i64 hol] 84 (0, 0)), Rw 85 1 P rs.length C (fl rowL rs), RowsI 87 5 tkL rs])] := by have h := H3.absorbI [1, 2, 3] H25; exact h
  refine b_ret rfl rfl ?_
  refine w_a ?_
  refine w_e ?_
  refine w_s ?_
  refine w_m ?_
  refine w_b ?_
  refine w_m ?_
  by_cases hb26 : ((evS beg (dne && !who) false) : Int) = 0
  ·
   refine w_g (decide_eq_true hb26) xm ?_
   refine w_g (decide_eq_true hb26) xm ?_
   refine w_g (decide_eq_true hb26) xn ?_
   refine w_g (decide_eq_true hb26) (xf 9) ?_
   refine w_g (decide_eq_true hb26) (xl H25 0) ?_
   refine w_g (decide_eq_true hb26) (x_bin rfl rfl rfl b_lss) ?_
   refine w_v (v := .bool (decide ((n : Int) < hol))) (x_pick_t rfl rfl (decide_eq_true hb26) rfl) ?_
   refine w_e ?_
   refine g_weak [(0, .pointer (some ⟨g, 0, none⟩)), (1, .int .i64 n), (4, .pointer (some ⟨g1, 0, none⟩)), (6, .int .i64 ((evS beg (dne && !who) false))), (27, .bool (decide ((n : Int) < hol)))] ⟨rfl, rfl, rfl, rfl, rfl, trivial⟩ ?_
   by_cases hb27 : (n : Int) < hol
   ·
    refine g_cond_t rfl (decide_eq_true hb27) ?_
    refine w_s ?_
    refine w_v (v := .agg #[.int .i64 0, .int .i64 0, .int .i64 0, .int .i64 0]) (x_build (vs := []) rfl rfl (cells := #[.int .i64 0, .int .i64 0, .int .i64 0, .int .i64 0]) (by kernel_rfl)) ?_
    refine l_of (w_st #[.int .i64 0, .int .i64 0, .int .i64 0, .int .i64 0] H25 3 ?_)
    intro wq28 H29
    refine w_a ?_
    refine w_e ?_
    refine g_ret ?_
    refine g_then_ret ?_
    refine fin_ret [.cell 4 34, .tmp 5] [.agg #[.int .i64 0, .int .i64 0, .int .i64 0, .int .i64 0], .bool false] rfl ⟨⟨_, rfl, run_loadA (H29.ob (k := 3) rfl) Try.underlying34 rfl sz34 rfl rfl⟩, rfl, trivial⟩ ?_
    have hf := find_no (f := fun t => okS (evS beg (dne && !who) stp) hol n t) (ls := (rs.map fun r => r.l)) (fun p _ => by show okS (evS beg (dne && !who) stp) hol n p.2.2 = false; rw [okS_r hn]; simp [hb4, hb26, hb27] <;> omega)
    exact .inr ⟨hf, rfl, H29.takes [0, 1, 2, 4] (by decide)⟩
   ·
    refine g_cond_f rfl (decide_eq_false hb27) ?_
    refine g_skip ?_
    refine g_then ?_
    refine g_seq ?_
    refine w_s ?_
    refine w_r3 ?_
    refine w_1 H25 0 ?_
    refine w_v (v := .int .i64 ((rs.length : Int))) (x_lenl rfl rfl Try.underlying82) ?_
    refine w_m ?_
    refine w_e ?_
    refine g_block ?_
    refine g_loop (ι := Nat) (fun i => [(0, .pointer (some ⟨g, 0, none⟩)), (1, .int .i64 n), (4, .pointer (some ⟨g1, 0, none⟩)), (6, .int .i64 ((evS beg (dne && !who) false))), (32, .slice P rs.length C), (33, .int .i64 ((rs.length : Int))), (34, .int .i64 ((i : Int)))]) (fun i wx => (i ≤ rs.length) ∧ (∀ p ∈ flatT 0 ((rs.map fun r => r.l).take i), okS (evS beg (dne && !who) stp) hol n p.2.2 = false) ∧ S wx [Ob g (.cells #[.slice P rs.length C, .int .i64 now, .bool und, .string nm, .int .i64 ev, .bool beg, .bool who, .bool dne, .bool stp, .int .i64 hol] 84 (0, 0)), Rw 85 1 P rs.length C (fl rowL rs), RowsI 87 5 tkL rs, Ob g1 (.cells #[.int .i64 0, .int .i64 0, .int .i64 0, .int .i64 0] 34 (0, 0)), Old w (fps [Ob g (.cells #[.slice P rs.length C, .int .i64 now, .bool und, .string nm, .int .i64 ev, .bool beg, .bool who, .bool dne, .bool stp, .int .i64 hol] 84 (0, 0)), Rw 85 1 P rs.length C (fl rowL rs), RowsI 87 5 tkL rs])]) (fun i => rs.length - i) (0) ⟨rfl, rfl, rfl, rfl, rfl, rfl, rfl, trivial⟩ ⟨Nat.zero_le _, (fun p hp => by simp [flatT] at hp), H25⟩ ?_
    rintro i wq30 ⟨hi, hno, H31⟩
    refine g_weak [(0, .pointer (some ⟨g, 0, none⟩)), (1, .int .i64 n), (4, .pointer (some ⟨g1, 0, none⟩)), (6, .int .i64 ((evS beg (dne && !who) false))), (32, .slice P rs.length C), (33, .int .i64 ((rs.length : Int))), (34, .int .i64 ((i : Int)))] ⟨rfl, rfl, rfl, rfl, rfl, rfl, rfl, trivial⟩ ?_
    refine w_s ?_
    refine w_b ?_
    refine w_e ?_
    refine g_seq ?_
    by_cases hb32 : ((i : Int) : Int) < (rs.length : Int)
    ·
     refine g_cond_t rfl (decide_eq_true hb32) ?_
     refine g_skip ?_
     refine g_then ?_
     refine g_seq ?_
     refine g_block ?_
     refine w_s ?_
     refine w_m ?_
     refine w_v (v := .pointer ((P).map fun q => q.add (i * 1))) (x_idxR i (H31.rwReads (k := 1) rfl) rfl rfl rfl Try.underlying82 sz85 (by omega)) ?_
     have hlq := (H31.rwReads (k := 1) rfl).lenL rowE
     obtain ⟨x33, hx33⟩ := ex_at (l := rs) (j := i) (by omega)
     clear hlq
     have hrlx33 := hrl x33 (List.mem_of_getElem? hx33)
     have hTx33 := map_at hx33
     refine w_v (v := .slice x33.p x33.l.length x33.c) (x_loadR1 i (H31.rwReads (k := 1) rfl) (by omega) rfl rfl Try.underlying85 rfl (rowE.flAt1 hx33 rfl)) ?_
     refine w_r2 ?_
     refine w_e ?_
     refine w_s ?_
     refine w_m ?_
     refine w_v (v := .int .i64 ((x33.l.length : Int))) (x_lenl rfl rfl Try.underlying85) ?_
     refine w_m ?_
     refine w_e ?_
     refine g_block ?_
     refine g_loop (ι := Nat) (fun k => [(0, .pointer (some ⟨g, 0, none⟩)), (1, .int .i64 n), (4, .pointer (some ⟨g1, 0, none⟩)), (6, .int .i64 ((evS beg (dne && !who) false))), (7, .int .i64 ((i : Int))), (32, .slice P rs.length C), (33, .int .i64 ((rs.length : Int))), (34, .int .i64 ((i : Int))), (39, .slice x33.p x33.l.length x33.c), (40, .int .i64 ((x33.l.length : Int))), (41, .int .i64 ((k : Int)))]) (fun k wx => (k ≤ x33.l.length) ∧ (∀ p ∈ uptoT (rs.map fun r => r.l) i x33.l k, okS (evS beg (dne && !who) stp) hol n p.2.2 = false) ∧ S wx [Ob g (.cells #[.slice P rs.length C, .int .i64 now, .bool und, .string nm, .int .i64 ev, .bool beg, .bool who, .bool dne, .bool stp, .int .i64 hol] 84 (0, 0)), Rw 85 1 P rs.length C (fl rowL rs), RowsI 87 5 tkL rs, Ob g1 (.cells #[.int .i64 0, .int .i64 0, .int .i64 0, .int .i64 0] 34 (0, 0)), Old w (fps [Ob g (.cells #[.slice P rs.length C, .int .i64 now, .bool und, .string nm, .int .i64 ev, .bool beg, .bool who, .bool dne, .bool stp, .int .i64 hol] 84 (0, 0)), Rw 85 1 P rs.length C (fl rowL rs), RowsI 87 5 tkL rs])]) (fun k => x33.l.length - k) (0) ⟨rfl, rfl, rfl, rfl, rfl, rfl, rfl, rfl, rfl, rfl, rfl, trivial⟩ ⟨Nat.zero_le _, (by rw [uptoT_zero]; exact hno), H31⟩ ?_
     rintro k wq34 ⟨hk, hnk, H35⟩
     refine g_weak [(0, .pointer (some ⟨g, 0, none⟩)), (1, .int .i64 n), (4, .pointer (some ⟨g1, 0, none⟩)), (6, .int .i64 ((evS beg (dne && !who) false))), (7, .int .i64 ((i : Int))), (32, .slice P rs.length C), (33, .int .i64 ((rs.length : Int))), (34, .int .i64 ((i : Int))), (39, .slice x33.p x33.l.length x33.c), (40, .int .i64 ((x33.l.length : Int))), (41, .int .i64 ((k : Int)))] ⟨rfl, rfl, rfl, rfl, rfl, rfl, rfl, rfl, rfl, rfl, rfl, trivial⟩ ?_
     refine w_s ?_
     refine w_b ?_
     refine w_e ?_
     refine g_seq ?_
     by_cases hb36 : ((k : Int) : Int) < (x33.l.length : Int)
     ·
      refine g_cond_t rfl (decide_eq_true hb36) ?_
      refine g_skip ?_
      refine g_then ?_
      refine g_seq ?_
      refine g_block ?_
      refine w_s ?_
      refine w_m ?_
      refine w_v (v := .pointer ((x33.p).map fun q => q.add (k * 5))) (x_idxR k ((rows_in (H35.at (k := 2) rfl) (.inl (List.mem_of_getElem? hx33)))) rfl rfl rfl Try.underlying85 sz87 (by omega)) ?_
      have hlq := ((rows_in (H35.at (k := 2) rfl) (.inl (List.mem_of_getElem? hx33)))).lenL tkE
      obtain ⟨x37, hx37⟩ := ex_at (l := x33.l) (j := k) (by omega)
      clear hlq
      refine w_v (v := .agg #[.string (x37.name), .int .i64 (x37.failed), .int .i64 (x37.after), .bool x37.ans, .bool x37.told]) (x_loadRA (vs := tkL x37) k ((rows_in (H35.at (k := 2) rfl) (.inl (List.mem_of_getElem? hx33)))) (by omega) rfl rfl Try.underlying87 rfl sz87 (by rfl) (tkE.flAt hx37)) ?_
      refine l_of (s_alloc H35 (wt0 rfl) rfl rfl rfl ze87 ?_)
      intro g38 wq39 H40
      refine w_a ?_
      refine l_of (w_st #[.string (x37.name), .int .i64 (x37.failed), .int .i64 (x37.after), .bool x37.ans, .bool x37.told] H40 0 ?_)
      intro wq41 H42
      refine w_e ?_
      refine w_s ?_
      refine w_r3 ?_
      refine w_1 H42 1 ?_
      refine w_m ?_
      refine w_n hb4 ?_
      refine w_n hb4 ?_
      refine w_v (v := .bool false) (x_pick_f rfl rfl hb4 rfl) ?_
      refine w_m ?_
      refine w_n rfl ?_
      refine w_n rfl ?_
      refine w_n rfl ?_
      refine w_v (v := .bool false) (x_pick_f rfl rfl rfl rfl) ?_
      refine w_m ?_
      refine w_g rfl xm ?_
      refine w_g rfl xn ?_
      refine w_g rfl (xf 8) ?_
      refine w_g rfl (xl H42 1) ?_
      refine w_g (v := .bool (!stp)) rfl (x_not (b := stp) rfl rfl) ?_
      refine w_g rfl xm ?_
      refine w_g (neg_of hb4) (xf 2) ?_
      refine w_g (neg_of hb4) (xl H42 0) ?_
      refine w_g (neg_of hb4) xm ?_
      refine w_g (neg_of hb4) (x_bin rfl rfl rfl b_leq) ?_
      refine w_g (v := .bool (decide ((x37.after : Int) ≤ n))) rfl (x_pick_t rfl rfl (neg_of hb4) rfl) ?_
      refine w_v (v := .bool (decide ((x37.after : Int) ≤ n))) (x_pick_f rfl rfl rfl rfl) ?_
      refine w_e ?_
      refine g_weak [(0, .pointer (some ⟨g, 0, none⟩)), (1, .int .i64 n), (4, .pointer (some ⟨g1, 0, none⟩)), (6, .int .i64 ((evS beg (dne && !who) false))), (7, .int .i64 ((i : Int))), (9, .int .i64 ((k : Int))), (32, .slice P rs.length C), (33, .int .i64 ((rs.length : Int))), (34, .int .i64 ((i : Int))), (39, .slice x33.p x33.l.length x33.c), (40, .int .i64 ((x33.l.length : Int))), (41, .int .i64 ((k : Int))), (71, .bool (decide ((x37.after : Int) ≤ n)))] ⟨rfl, rfl, rfl, rfl, rfl, rfl, rfl, rfl, rfl, rfl, rfl, rfl, rfl, trivial⟩ ?_
      by_cases hb43 : (x37.after : Int) ≤ n
      ·
       refine g_cond_t rfl (decide_eq_true hb43) ?_
       refine w_s ?_
       refine w_r4 ?_
       refine w_v (v := .agg #[.int .i64 ((i : Int)), .int .i64 ((k : Int)), .int .i64 n, .int .i64 ((evS beg (dne && !who) false))]) (x_build (vs := [.int .i64 ((i : Int)), .int .i64 ((k : Int)), .int .i64 n, .int .i64 ((evS beg (dne && !who) false))]) rfl rfl (cells := #[.int .i64 ((i : Int)), .int .i64 ((k : Int)), .int .i64 n, .int .i64 ((evS beg (dne && !who) false))]) (by kernel_rfl)) ?_
       refine l_of (w_st #[.int .i64 ((i : Int)), .int .i64 ((k : Int)), .int .i64 n, .int .i64 ((evS beg (dne && !who) false))] H42 4 ?_)
       intro wq44 H45
       refine w_a ?_
       refine w_e ?_
       refine g_weak [(4, .pointer (some ⟨g1, 0, none⟩)), (5, .bool true)] ⟨rfl, rfl, trivial⟩ ?_
       refine g_ret ?_
       refine g_in_ret ?_
       refine g_then_ret ?_
       refine g_then_ret ?_
       refine g_in_ret ?_
       refine g_in_ret ?_
       refine g_then_ret ?_
       refine g_then_ret ?_
       refine g_in_ret ?_
       refine g_then_ret ?_
       refine fin_ret [.cell 4 34, .tmp 5] [.agg #[.int .i64 ((i : Int)), .int .i64 ((k : Int)), .int .i64 n, .int .i64 ((evS beg (dne && !who) false))], .bool true] rfl ⟨⟨_, rfl, run_loadA (H45.ob (k := 4) rfl) Try.underlying34 rfl sz34 rfl rfl⟩, rfl, trivial⟩ ?_
       have hf := find_at (f := fun t => okS (evS beg (dne && !who) stp) hol n t) hTx33 hx37 hnk (by show okS (evS beg (dne && !who) stp) hol n x37 = true; rw [okS_r hn]; simp [hb4, hb26, hb27, hb32, hb36, hb43] <;> omega)
       exact .inl ⟨i, k, x33, x37, hx33, hx37, hf, by unfold evS; simp [hb4, hb26, hb27, hb32, hb36, hb43, tupled] <;> (try rfl), H45.takes [1, 2, 3, 5] (by decide)⟩
      ·
       refine g_cond_f rfl (decide_eq_false hb43) ?_
       refine g_skip ?_
       refine g_in ?_
       refine g_then ?_
       refine g_region ?_
       refine w_b (v := .int .i64 (((k + 1 : Nat) : Int))) (hb := (b_add (by rw [w64 (by omega)]; omega))) ?_
       refine w_m ?_
       refine w_e ?_
       refine g_round (i := (k)) ((k + 1)) ?_ ?_ ?_
       · exact ⟨rfl, rfl, rfl, rfl, rfl, rfl, rfl, rfl, rfl, rfl, rfl, trivial⟩
       · exact ⟨by omega, (upto_step (f := fun t => okS (evS beg (dne && !who) stp) hol n t) hx37 hnk (by rw [okS_r hn]; simp [hb4, hb26, hb27, hb32, hb36, hb43] <;> omega)), (H42.mask [false, true, true, true, true, true])⟩
       · (try dsimp only); omega
     ·
      refine g_cond_f rfl (decide_eq_false hb36) ?_
      refine g_exit ?_
      refine g_then_exit ?_
      refine g_then_exit ?_
      refine g_in_hit ?_
      refine g_in ?_
      refine g_then ?_
      refine g_region ?_
      refine w_b (v := .int .i64 (((i + 1 : Nat) : Int))) (hb := (b_add (by rw [w64 (by omega)]; omega))) ?_
      refine w_m ?_
      refine w_e ?_
      refine g_round (i := (i)) ((i + 1)) ?_ ?_ ?_
      · exact ⟨rfl, rfl, rfl, rfl, rfl, rfl, rfl, trivial⟩
      · exact ⟨by omega, (upto_row (f := fun t => okS (evS beg (dne && !who) stp) hol n t) hTx33 (by omega) hnk), H35⟩
      · (try dsimp only); omega
    ·
     refine g_cond_f rfl (decide_eq_false hb32) ?_
     refine g_exit ?_
     refine g_then_exit ?_
     refine g_then_exit ?_
     refine g_in_hit ?_
     refine g_then ?_
     refine w_s ?_
     refine w_v (v := .agg #[.int .i64 0, .int .i64 0, .int .i64 0, .int .i64 0]) (x_build (vs := []) rfl rfl (cells := #[.int .i64 0, .int .i64 0, .int .i64 0, .int .i64 0]) (by kernel_rfl)) ?_
     refine l_of (w_st #[.int .i64 0, .int .i64 0, .int .i64 0, .int .i64 0] H31 3 ?_)
     intro wq46 H47
     refine w_a ?_
     refine w_e ?_
     refine g_ret ?_
     refine fin_ret [.cell 4 34, .tmp 5] [.agg #[.int .i64 0, .int .i64 0, .int .i64 0, .int .i64 0], .bool false] rfl ⟨⟨_, rfl, run_loadA (H47.ob (k := 3) rfl) Try.underlying34 rfl sz34 rfl rfl⟩, rfl, trivial⟩ ?_
     rw [List.take_of_length_le (by rw [List.length_map]; omega)] at hno
     have hf := find_no (f := fun t => okS (evS beg (dne && !who) stp) hol n t) hno
     exact .inr ⟨hf, rfl, H47.takes [0, 1, 2, 4] (by decide)⟩
  ·
   refine w_n (decide_eq_false hb26) ?_
   refine w_n (decide_eq_false hb26) ?_
   refine w_n (decide_eq_false hb26) ?_
   refine w_n (decide_eq_false hb26) ?_
   refine w_n (decide_eq_false hb26) ?_
   refine w_n (decide_eq_false hb26) ?_
   refine w_v (v := .bool false) (x_pick_f rfl rfl (decide_eq_false hb26) rfl) ?_
   refine w_e ?_
   refine g_weak [(0, .pointer (some ⟨g, 0, none⟩)), (1, .int .i64 n), (4, .pointer (some ⟨g1, 0, none⟩)), (6, .int .i64 ((evS beg (dne && !who) false))), (27, .bool false)] ⟨rfl, rfl, rfl, rfl, rfl, trivial⟩ ?_
   refine g_cond_f rfl rfl ?_
   refine g_skip ?_
   refine g_then ?_
   refine g_seq ?_
   refine w_s ?_
   refine w_r3 ?_
   refine w_1 H25 0 ?_
   refine w_v (v := .int .i64 ((rs.length : Int))) (x_lenl rfl rfl Try.underlying82) ?_
   refine w_m ?_
   refine w_e ?_
   refine g_block ?_
   refine g_loop (ι := Nat) (fun i => [(0, .pointer (some ⟨g, 0, none⟩)), (1, .int .i64 n), (4, .pointer (some ⟨g1, 0, none⟩)), (6, .int .i64 ((evS beg (dne && !who) false))), (32, .slice P rs.length C), (33, .int .i64 ((rs.length : Int))), (34, .int .i64 ((i : Int)))]) (fun i wx => (i ≤ rs.length) ∧ (∀ p ∈ flatT 0 ((rs.map fun r => r.l).take i), okS (evS beg (dne && !who) stp) hol n p.2.2 = false) ∧ S wx [Ob g (.cells #[.slice P rs.length C, .int .i64 now, .bool und, .string nm, .int .i64 ev, .bool beg, .bool who, .bool dne, .bool stp, .int .i64 hol] 84 (0, 0)), Rw 85 1 P rs.length C (fl rowL rs), RowsI 87 5 tkL rs, Ob g1 (.cells #[.int .i64 0, .int .i64 0, .int .i64 0, .int .i64 0] 34 (0, 0)), Old w (fps [Ob g (.cells #[.slice P rs.length C, .int .i64 now, .bool und, .string nm, .int .i64 ev, .bool beg, .bool who, .bool dne, .bool stp, .int .i64 hol] 84 (0, 0)), Rw 85 1 P rs.length C (fl rowL rs), RowsI 87 5 tkL rs])]) (fun i => rs.length - i) (0) ⟨rfl, rfl, rfl, rfl, rfl, rfl, rfl, trivial⟩ ⟨Nat.zero_le _, (fun p hp => by simp [flatT] at hp), H25⟩ ?_
   rintro i wq48 ⟨hi, hno, H49⟩
   refine g_weak [(0, .pointer (some ⟨g, 0, none⟩)), (1, .int .i64 n), (4, .pointer (some ⟨g1, 0, none⟩)), (6, .int .i64 ((evS beg (dne && !who) false))), (32, .slice P rs.length C), (33, .int .i64 ((rs.length : Int))), (34, .int .i64 ((i : Int)))] ⟨rfl, rfl, rfl, rfl, rfl, rfl, rfl, trivial⟩ ?_
   refine w_s ?_
   refine w_b ?_
   refine w_e ?_
   refine g_seq ?_
   by_cases hb50 : ((i : Int) : Int) < (rs.length : Int)
   ·
    refine g_cond_t rfl (decide_eq_true hb50) ?_
    refine g_skip ?_
    refine g_then ?_
    refine g_seq ?_
    refine g_block ?_
    refine w_s ?_
    refine w_m ?_
    refine w_v (v := .pointer ((P).map fun q => q.add (i * 1))) (x_idxR i (H49.rwReads (k := 1) rfl) rfl rfl rfl Try.underlying82 sz85 (by omega)) ?_
    have hlq := (H49.rwReads (k := 1) rfl).lenL rowE
    obtain ⟨x51, hx51⟩ := ex_at (l := rs) (j := i) (by omega)
    clear hlq
    have hrlx51 := hrl x51 (List.mem_of_getElem? hx51)
    have hTx51 := map_at hx51
    refine w_v (v := .slice x51.p x51.l.length x51.c) (x_loadR1 i (H49.rwReads (k := 1) rfl) (by omega) rfl rfl Try.underlying85 rfl (rowE.flAt1 hx51 rfl)) ?_
    refine w_r2 ?_
    refine w_e ?_
    refine w_s ?_
    refine w_m ?_
    refine w_v (v := .int .i64 ((x51.l.length : Int))) (x_lenl rfl rfl Try.underlying85) ?_
    refine w_m ?_
    refine w_e ?_
    refine g_block ?_
    refine g_loop (ι := Nat) (fun k => [(0, .pointer (some ⟨g, 0, none⟩)), (1, .int .i64 n), (4, .pointer (some ⟨g1, 0, none⟩)), (6, .int .i64 ((evS beg (dne && !who) false))), (7, .int .i64 ((i : Int))), (32, .slice P rs.length C), (33, .int .i64 ((rs.length : Int))), (34, .int .i64 ((i : Int))), (39, .slice x51.p x51.l.length x51.c), (40, .int .i64 ((x51.l.length : Int))), (41, .int .i64 ((k : Int)))]) (fun k wx => (k ≤ x51.l.length) ∧ (∀ p ∈ uptoT (rs.map fun r => r.l) i x51.l k, okS (evS beg (dne && !who) stp) hol n p.2.2 = false) ∧ S wx [Ob g (.cells #[.slice P rs.length C, .int .i64 now, .bool und, .string nm, .int .i64 ev, .bool beg, .bool who, .bool dne, .bool stp, .int .i64 hol] 84 (0, 0)), Rw 85 1 P rs.length C (fl rowL rs), RowsI 87 5 tkL rs, Ob g1 (.cells #[.int .i64 0, .int .i64 0, .int .i64 0, .int .i64 0] 34 (0, 0)), Old w (fps [Ob g (.cells #[.slice P rs.length C, .int .i64 now, .bool und, .string nm, .int .i64 ev, .bool beg, .bool who, .bool dne, .bool stp, .int .i64 hol] 84 (0, 0)), Rw 85 1 P rs.length C (fl rowL rs), RowsI 87 5 tkL rs])]) (fun k => x51.l.length - k) (0) ⟨rfl, rfl, rfl, rfl, rfl, rfl, rfl, rfl, rfl, rfl, rfl, trivial⟩ ⟨Nat.zero_le _, (by rw [uptoT_zero]; exact hno), H49⟩ ?_
    rintro k wq52 ⟨hk, hnk, H53⟩
    refine g_weak [(0, .pointer (some ⟨g, 0, none⟩)), (1, .int .i64 n), (4, .pointer (some ⟨g1, 0, none⟩)), (6, .int .i64 ((evS beg (dne && !who) false))), (7, .int .i64 ((i : Int))), (32, .slice P rs.length C), (33, .int .i64 ((rs.length : Int))), (34, .int .i64 ((i : Int))), (39, .slice x51.p x51.l.length x51.c), (40, .int .i64 ((x51.l.length : Int))), (41, .int .i64 ((k : Int)))] ⟨rfl, rfl, rfl, rfl, rfl, rfl, rfl, rfl, rfl, rfl, rfl, trivial⟩ ?_
    refine w_s ?_
    refine w_b ?_
    refine w_e ?_
    refine g_seq ?_
    by_cases hb54 : ((k : Int) : Int) < (x51.l.length : Int)
    ·
     refine g_cond_t rfl (decide_eq_true hb54) ?_
     refine g_skip ?_
     refine g_then ?_
     refine g_seq ?_
     refine g_block ?_
     refine w_s ?_
     refine w_m ?_
     refine w_v (v := .pointer ((x51.p).map fun q => q.add (k * 5))) (x_idxR k ((rows_in (H53.at (k := 2) rfl) (.inl (List.mem_of_getElem? hx51)))) rfl rfl rfl Try.underlying85 sz87 (by omega)) ?_
     have hlq := ((rows_in (H53.at (k := 2) rfl) (.inl (List.mem_of_getElem? hx51)))).lenL tkE
     obtain ⟨x55, hx55⟩ := ex_at (l := x51.l) (j := k) (by omega)
     clear hlq
     refine w_v (v := .agg #[.string (x55.name), .int .i64 (x55.failed), .int .i64 (x55.after), .bool x55.ans, .bool x55.told]) (x_loadRA (vs := tkL x55) k ((rows_in (H53.at (k := 2) rfl) (.inl (List.mem_of_getElem? hx51)))) (by omega) rfl rfl Try.underlying87 rfl sz87 (by rfl) (tkE.flAt hx55)) ?_
     refine l_of (s_alloc H53 (wt0 rfl) rfl rfl rfl ze87 ?_)
     intro g56 wq57 H58
     refine w_a ?_
     refine l_of (w_st #[.string (x55.name), .int .i64 (x55.failed), .int .i64 (x55.after), .bool x55.ans, .bool x55.told] H58 0 ?_)
     intro wq59 H60
     refine w_e ?_
     refine w_s ?_
     refine w_r3 ?_
     refine w_1 H60 1 ?_
     refine w_m ?_
     refine w_n hb4 ?_
     refine w_n hb4 ?_
     refine w_v (v := .bool false) (x_pick_f rfl rfl hb4 rfl) ?_
     refine w_m ?_
     refine w_n rfl ?_
     refine w_n rfl ?_
     refine w_n rfl ?_
     refine w_v (v := .bool false) (x_pick_f rfl rfl rfl rfl) ?_
     refine w_m ?_
     refine w_g rfl xm ?_
     refine w_g rfl xn ?_
     refine w_g rfl (xf 8) ?_
     refine w_g rfl (xl H60 1) ?_
     refine w_g (v := .bool (!stp)) rfl (x_not (b := stp) rfl rfl) ?_
     refine w_g rfl xm ?_
     refine w_g (neg_of hb4) (xf 2) ?_
     refine w_g (neg_of hb4) (xl H60 0) ?_
     refine w_g (neg_of hb4) xm ?_
     refine w_g (neg_of hb4) (x_bin rfl rfl rfl b_leq) ?_
     refine w_g (v := .bool (decide ((x55.after : Int) ≤ n))) rfl (x_pick_t rfl rfl (neg_of hb4) rfl) ?_
     refine w_v (v := .bool (decide ((x55.after : Int) ≤ n))) (x_pick_f rfl rfl rfl rfl) ?_
     refine w_e ?_
     refine g_weak [(0, .pointer (some ⟨g, 0, none⟩)), (1, .int .i64 n), (4, .pointer (some ⟨g1, 0, none⟩)), (6, .int .i64 ((evS beg (dne && !who) false))), (7, .int .i64 ((i : Int))), (9, .int .i64 ((k : Int))), (32, .slice P rs.length C), (33, .int .i64 ((rs.length : Int))), (34, .int .i64 ((i : Int))), (39, .slice x51.p x51.l.length x51.c), (40, .int .i64 ((x51.l.length : Int))), (41, .int .i64 ((k : Int))), (71, .bool (decide ((x55.after : Int) ≤ n)))] ⟨rfl, rfl, rfl, rfl, rfl, rfl, rfl, rfl, rfl, rfl, rfl, rfl, rfl, trivial⟩ ?_
     by_cases hb61 : (x55.after : Int) ≤ n
     ·
      refine g_cond_t rfl (decide_eq_true hb61) ?_
      refine w_s ?_
      refine w_r4 ?_
      refine w_v (v := .agg #[.int .i64 ((i : Int)), .int .i64 ((k : Int)), .int .i64 n, .int .i64 ((evS beg (dne && !who) false))]) (x_build (vs := [.int .i64 ((i : Int)), .int .i64 ((k : Int)), .int .i64 n, .int .i64 ((evS beg (dne && !who) false))]) rfl rfl (cells := #[.int .i64 ((i : Int)), .int .i64 ((k : Int)), .int .i64 n, .int .i64 ((evS beg (dne && !who) false))]) (by kernel_rfl)) ?_
      refine l_of (w_st #[.int .i64 ((i : Int)), .int .i64 ((k : Int)), .int .i64 n, .int .i64 ((evS beg (dne && !who) false))] H60 4 ?_)
      intro wq62 H63
      refine w_a ?_
      refine w_e ?_
      refine g_weak [(4, .pointer (some ⟨g1, 0, none⟩)), (5, .bool true)] ⟨rfl, rfl, trivial⟩ ?_
      refine g_ret ?_
      refine g_in_ret ?_
      refine g_then_ret ?_
      refine g_then_ret ?_
      refine g_in_ret ?_
      refine g_in_ret ?_
      refine g_then_ret ?_
      refine g_then_ret ?_
      refine g_in_ret ?_
      refine g_then_ret ?_
      refine fin_ret [.cell 4 34, .tmp 5] [.agg #[.int .i64 ((i : Int)), .int .i64 ((k : Int)), .int .i64 n, .int .i64 ((evS beg (dne && !who) false))], .bool true] rfl ⟨⟨_, rfl, run_loadA (H63.ob (k := 4) rfl) Try.underlying34 rfl sz34 rfl rfl⟩, rfl, trivial⟩ ?_
      have hf := find_at (f := fun t => okS (evS beg (dne && !who) stp) hol n t) hTx51 hx55 hnk (by show okS (evS beg (dne && !who) stp) hol n x55 = true; rw [okS_r hn]; simp [hb4, hb26, hb50, hb54, hb61] <;> omega)
      exact .inl ⟨i, k, x51, x55, hx51, hx55, hf, by unfold evS; simp [hb4, hb26, hb50, hb54, hb61, tupled] <;> (try rfl), H63.takes [1, 2, 3, 5] (by decide)⟩
     ·
      refine g_cond_f rfl (decide_eq_false hb61) ?_
      refine g_skip ?_
      refine g_in ?_
      refine g_then ?_
      refine g_region ?_
      refine w_b (v := .int .i64 (((k + 1 : Nat) : Int))) (hb := (b_add (by rw [w64 (by omega)]; omega))) ?_
      refine w_m ?_
      refine w_e ?_
      refine g_round (i := (k)) ((k + 1)) ?_ ?_ ?_
      · exact ⟨rfl, rfl, rfl, rfl, rfl, rfl, rfl, rfl, rfl, rfl, rfl, trivial⟩
      · exact ⟨by omega, (upto_step (f := fun t => okS (evS beg (dne && !who) stp) hol n t) hx55 hnk (by rw [okS_r hn]; simp [hb4, hb26, hb50, hb54, hb61] <;> omega)), (H60.mask [false, true, true, true, true, true])⟩
      · (try dsimp only); omega
    ·
     refine g_cond_f rfl (decide_eq_false hb54) ?_
     refine g_exit ?_
     refine g_then_exit ?_
     refine g_then_exit ?_
     refine g_in_hit ?_
     refine g_in ?_
     refine g_then ?_
     refine g_region ?_
     refine w_b (v := .int .i64 (((i + 1 : Nat) : Int))) (hb := (b_add (by rw [w64 (by omega)]; omega))) ?_
     refine w_m ?_
     refine w_e ?_
     refine g_round (i := (i)) ((i + 1)) ?_ ?_ ?_
     · exact ⟨rfl, rfl, rfl, rfl, rfl, rfl, rfl, trivial⟩
     · exact ⟨by omega, (upto_row (f := fun t => okS (evS beg (dne && !who) stp) hol n t) hTx51 (by omega) hnk), H53⟩
     · (try dsimp only); omega
   ·
    refine g_cond_f rfl (decide_eq_false hb50) ?_
    refine g_exit ?_
    refine g_then_exit ?_
    refine g_then_exit ?_
    refine g_in_hit ?_
    refine g_then ?_
    refine w_s ?_
    refine w_v (v := .agg #[.int .i64 0, .int .i64 0, .int .i64 0, .int .i64 0]) (x_build (vs := []) rfl rfl (cells := #[.int .i64 0, .int .i64 0, .int .i64 0, .int .i64 0]) (by kernel_rfl)) ?_
    refine l_of (w_st #[.int .i64 0, .int .i64 0, .int .i64 0, .int .i64 0] H49 3 ?_)
    intro wq64 H65
    refine w_a ?_
    refine w_e ?_
    refine g_ret ?_
    refine fin_ret [.cell 4 34, .tmp 5] [.agg #[.int .i64 0, .int .i64 0, .int .i64 0, .int .i64 0], .bool false] rfl ⟨⟨_, rfl, run_loadA (H65.ob (k := 3) rfl) Try.underlying34 rfl sz34 rfl rfl⟩, rfl, trivial⟩ ?_
    rw [List.take_of_length_le (by rw [List.length_map]; omega)] at hno
    have hf := find_no (f := fun t => okS (evS beg (dne && !who) stp) hol n t) hno
    exact .inr ⟨hf, rfl, H65.takes [0, 1, 2, 4] (by decide)⟩
set_option maxRecDepth 20000 in
set_option maxHeartbeats 4000000 in
theorem place_r {g C : Nat} {P : Option Addr} {rs : List (Ro Tk)} {now ev hol : Int} {nm : ByteArray} {und beg who dne stp : Bool} (hrs : rs.length ≤ 20) (hrl : ∀ r ∈ rs, r.l.length ≤ 20) {s : ByteArray}  (w : World) (HS : S w [Ob g (.cells #[.slice P rs.length C, .int .i64 now, .bool und, .string nm, .int .i64 ev, .bool beg, .bool who, .bool dne, .bool stp, .int .i64 hol] 84 (0, 0)), Rw 85 1 P rs.length C (fl rowL rs), RowsI 87 5 tkL rs]) : Calls Try.prog 62 #[.pointer (some ⟨g, 0, none⟩), .string s] w fun e w' => (∃ (i k : Nat) (r : Ro Tk) (x : Tk), rs[i]? = some r ∧ r.l[k]? = some x ∧ (RPS rs now und nm ev beg who dne stp hol).place s = some (i, k, x) ∧ e = .returned (.tuple #[.int .i64 (i : Int), .int .i64 (k : Int), .bool true]) ∧ S w' ([Ob g (.cells #[.slice P rs.length C, .int .i64 now, .bool und, .string nm, .int .i64 ev, .bool beg, .bool who, .bool dne, .bool stp, .int .i64 hol] 84 (0, 0)), Rw 85 1 P rs.length C (fl rowL rs), RowsI 87 5 tkL rs] ++ [Old w (fps [Ob g (.cells #[.slice P rs.length C, .int .i64 now, .bool und, .string nm, .int .i64 ev, .bool beg, .bool who, .bool dne, .bool stp, .int .i64 hol] 84 (0, 0)), Rw 85 1 P rs.length C (fl rowL rs), RowsI 87 5 tkL rs])])) ∨ ((RPS rs now und nm ev beg who dne stp hol).place s = none ∧ e = .returned (.tuple #[.int .i64 0, .int .i64 0, .bool false]) ∧ S w' ([Ob g (.cells #[.slice P rs.length C, .int .i64 now, .bool und, .string nm, .int .i64 ev, .bool beg, .bool who, .bool dne, .bool stp, .int .i64 hol] 84 (0, 0)), Rw 85 1 P rs.length C (fl rowL rs), RowsI 87 5 tkL rs] ++ [Old w (fps [Ob g (.cells #[.slice P rs.length C, .int .i64 now, .bool und, .string nm, .int .i64 ev, .bool beg, .bool who, .bool dne, .bool stp, .int .i64 hol] 84 (0, 0)), Rw 85 1 P rs.length C (fl rowL rs), RowsI 87 5 tkL rs])])) := by
 have H0 := HS.beginI
 refine enter 36 Try.func62 rfl rfl rfl ?_
 refine g_weak [(0, .pointer (some ⟨g, 0, none⟩)), (1, .string s)] ⟨rfl, rfl, trivial⟩ ?_
 refine w_s ?_
 refine w_r3 ?_
 refine w_e ?_
 refine g_seq ?_
 refine w_s ?_
 refine w_r3 ?_
 refine w_1 H0 0 ?_
 refine w_v (v := .int .i64 ((rs.length : Int))) (x_lenl rfl rfl Try.underlying82) ?_
 refine w_m ?_
 refine w_e ?_
 refine g_block ?_
 refine g_loop (ι := Nat) (fun i => [(1, .string s), (14, .slice P rs.length C), (15, .int .i64 ((rs.length : Int))), (16, .int .i64 ((i : Int)))]) (fun i wx => (i ≤ rs.length) ∧ (∀ p ∈ flatT 0 ((rs.map fun r => r.l).take i), decide (p.2.2.name = s) = false) ∧ S wx [Ob g (.cells #[.slice P rs.length C, .int .i64 now, .bool und, .string nm, .int .i64 ev, .bool beg, .bool who, .bool dne, .bool stp, .int .i64 hol] 84 (0, 0)), Rw 85 1 P rs.length C (fl rowL rs), RowsI 87 5 tkL rs, Old w (fps [Ob g (.cells #[.slice P rs.length C, .int .i64 now, .bool und, .string nm, .int .i64 ev, .bool beg, .bool who, .bool dne, .bool stp, .int .i64 hol] 84 (0, 0)), Rw 85 1 P rs.length C (fl rowL rs), RowsI 87 5 tkL rs])]) (fun i => rs.length - i) (0) ⟨rfl, rfl, rfl, rfl, trivial⟩ ⟨Nat.zero_le _, (fun p hp => by simp [flatT] at hp), H0⟩ ?_
 rintro i wq1 ⟨hi, hno, H2⟩
 refine g_weak [(1, .string s), (14, .slice P rs.length C), (15, .int .i64 ((rs.length : Int))), (16, .int .i64 ((i : Int)))] ⟨rfl, rfl, rfl, rfl, trivial⟩ ?_
 refine w_s ?_
 refine w_b ?_
 refine w_e ?_
 refine g_seq ?_
 by_cases hb3 : ((i : Int) : Int) < (rs.length : Int)
 ·
  refine g_cond_t rfl (decide_eq_true hb3) ?_
  refine g_skip ?_
  refine g_then ?_
  refine g_seq ?_
  refine g_block ?_
  refine w_s ?_
  refine w_m ?_
  refine w_v (v := .pointer ((P).map fun q => q.add (i * 1))) (x_idxR i (H2.rwReads (k := 1) rfl) rfl rfl rfl Try.underlying82 sz85 (by omega)) ?_
  have hlq := (H2.rwReads (k := 1) rfl).lenL rowE
  obtain ⟨x4, hx4⟩ := ex_at (l := rs) (j := i) (by omega)
  clear hlq
  have hrlx4 := hrl x4 (List.mem_of_getElem? hx4)
  have hTx4 := map_at hx4
  refine w_v (v := .slice x4.p x4.l.length x4.c) (x_loadR1 i (H2.rwReads (k := 1) rfl) (by omega) rfl rfl Try.underlying85 rfl (rowE.flAt1 hx4 rfl)) ?_
  refine w_r2 ?_
  refine w_e ?_
  refine w_s ?_
  refine w_m ?_
  refine w_v (v := .int .i64 ((x4.l.length : Int))) (x_lenl rfl rfl Try.underlying85) ?_
  refine w_m ?_
  refine w_e ?_
  refine g_block ?_
  refine g_loop (ι := Nat) (fun k => [(1, .string s), (7, .int .i64 ((i : Int))), (14, .slice P rs.length C), (15, .int .i64 ((rs.length : Int))), (16, .int .i64 ((i : Int))), (21, .slice x4.p x4.l.length x4.c), (22, .int .i64 ((x4.l.length : Int))), (23, .int .i64 ((k : Int)))]) (fun k wx => (k ≤ x4.l.length) ∧ (∀ p ∈ uptoT (rs.map fun r => r.l) i x4.l k, decide (p.2.2.name = s) = false) ∧ S wx [Ob g (.cells #[.slice P rs.length C, .int .i64 now, .bool und, .string nm, .int .i64 ev, .bool beg, .bool who, .bool dne, .bool stp, .int .i64 hol] 84 (0, 0)), Rw 85 1 P rs.length C (fl rowL rs), RowsI 87 5 tkL rs, Old w (fps [Ob g (.cells #[.slice P rs.length C, .int .i64 now, .bool und, .string nm, .int .i64 ev, .bool beg, .bool who, .bool dne, .bool stp, .int .i64 hol] 84 (0, 0)), Rw 85 1 P rs.length C (fl rowL rs), RowsI 87 5 tkL rs])]) (fun k => x4.l.length - k) (0) ⟨rfl, rfl, rfl, rfl, rfl, rfl, rfl, rfl, trivial⟩ ⟨Nat.zero_le _, (by rw [uptoT_zero]; exact hno), H2⟩ ?_
  rintro k wq5 ⟨hk, hnk, H6⟩
  refine g_weak [(1, .string s), (7, .int .i64 ((i : Int))), (14, .slice P rs.length C), (15, .int .i64 ((rs.length : Int))), (16, .int .i64 ((i : Int))), (21, .slice x4.p x4.l.length x4.c), (22, .int .i64 ((x4.l.length : Int))), (23, .int .i64 ((k : Int)))] ⟨rfl, rfl, rfl, rfl, rfl, rfl, rfl, rfl, trivial⟩ ?_
  refine w_s ?_
  refine w_b ?_
  refine w_e ?_
  refine g_seq ?_
  by_cases hb7 : ((k : Int) : Int) < (x4.l.length : Int)
  ·
   refine g_cond_t rfl (decide_eq_true hb7) ?_
   refine g_skip ?_
   refine g_then ?_
   refine g_seq ?_
   refine g_block ?_
   refine w_s ?_
   refine w_m ?_
   refine w_v (v := .pointer ((x4.p).map fun q => q.add (k * 5))) (x_idxR k ((rows_in (H6.at (k := 2) rfl) (.inl (List.mem_of_getElem? hx4)))) rfl rfl rfl Try.underlying85 sz87 (by omega)) ?_
   have hlq := ((rows_in (H6.at (k := 2) rfl) (.inl (List.mem_of_getElem? hx4)))).lenL tkE
   obtain ⟨x8, hx8⟩ := ex_at (l := x4.l) (j := k) (by omega)
   clear hlq
   refine w_v (v := .agg #[.string (x8.name), .int .i64 (x8.failed), .int .i64 (x8.after), .bool x8.ans, .bool x8.told]) (x_loadRA (vs := tkL x8) k ((rows_in (H6.at (k := 2) rfl) (.inl (List.mem_of_getElem? hx4)))) (by omega) rfl rfl Try.underlying87 rfl sz87 (by rfl) (tkE.flAt hx8)) ?_
   refine l_of (s_alloc H6 (wt0 rfl) rfl rfl rfl ze87 ?_)
   intro g9 wq10 H11
   refine w_a ?_
   refine l_of (w_st #[.string (x8.name), .int .i64 (x8.failed), .int .i64 (x8.after), .bool x8.ans, .bool x8.told] H11 0 ?_)
   intro wq12 H13
   refine w_e ?_
   refine w_s ?_
   refine w_f 0 ?_
   refine w_1 H13 0 ?_
   refine w_m ?_
   refine w_b (v := .bool (decide (x8.name = s))) (hb := b_eqs) ?_
   refine w_e ?_
   by_cases hb14 : x8.name = s
   ·
    refine g_cond_t rfl (decide_eq_true hb14) ?_
    refine w_s ?_
    refine w_r5 ?_
    refine w_e ?_
    refine g_weak [(4, .int .i64 ((i : Int))), (5, .int .i64 ((k : Int))), (6, .bool true)] ⟨rfl, rfl, rfl, trivial⟩ ?_
    refine g_ret ?_
    refine g_in_ret ?_
    refine g_then_ret ?_
    refine g_then_ret ?_
    refine g_in_ret ?_
    refine g_in_ret ?_
    refine g_then_ret ?_
    refine g_then_ret ?_
    refine g_in_ret ?_
    refine g_then_ret ?_
    refine fin_ret [.tmp 4, .tmp 5, .tmp 6] [.int .i64 ((i : Int)), .int .i64 ((k : Int)), .bool true] rfl ⟨rfl, rfl, rfl, trivial⟩ ?_
    have hf := find_at (f := fun t => decide (t.name = s)) hTx4 hx8 hnk (decide_eq_true hb14)
    exact .inl ⟨i, k, x4, x8, hx4, hx8, hf, rfl, H13.takes [1, 2, 3, 4] (by decide)⟩
   ·
    refine g_cond_f rfl (decide_eq_false hb14) ?_
    refine g_skip ?_
    refine g_in ?_
    refine g_then ?_
    refine g_region ?_
    refine w_b (v := .int .i64 (((k + 1 : Nat) : Int))) (hb := (b_add (by rw [w64 (by omega)]; omega))) ?_
    refine w_m ?_
    refine w_e ?_
    refine g_round (i := (k)) ((k + 1)) ?_ ?_ ?_
    · exact ⟨rfl, rfl, rfl, rfl, rfl, rfl, rfl, rfl, trivial⟩
    · exact ⟨by omega, (upto_step (f := fun t => decide (t.name = s)) hx8 hnk (by exact decide_eq_false hb14)), (H13.mask [false, true, true, true, true])⟩
    · (try dsimp only); omega
  ·
   refine g_cond_f rfl (decide_eq_false hb7) ?_
   refine g_exit ?_
   refine g_then_exit ?_
   refine g_then_exit ?_
   refine g_in_hit ?_
   refine g_in ?_
   refine g_then ?_
   refine g_region ?_
   refine w_b (v := .int .i64 (((i + 1 : Nat) : Int))) (hb := (b_add (by rw [w64 (by omega)]; omega))) ?_
   refine w_m ?_
   refine w_e ?_
   refine g_round (i := (i)) ((i + 1)) ?_ ?_ ?_
   · exact ⟨rfl, rfl, rfl, rfl, trivial⟩
   · exact ⟨by omega, (upto_row (f := fun t => decide (t.name = s)) hTx4 (by omega) hnk), H6⟩
   · (try dsimp only); omega
 ·
  refine g_cond_f rfl (decide_eq_false hb3) ?_
  refine g_exit ?_
  refine g_then_exit ?_
  refine g_then_exit ?_
  refine g_in_hit ?_
  refine g_then ?_
  refine w_s ?_
  refine w_r3 ?_
  refine w_e ?_
  refine g_ret ?_
  refine fin_ret [.tmp 4, .tmp 5, .tmp 6] [.int .i64 0, .int .i64 0, .bool false] rfl ⟨rfl, rfl, rfl, trivial⟩ ?_
  rw [List.take_of_length_le (by rw [List.length_map]; omega)] at hno
  have hf := find_no (f := fun t => decide (t.name = s)) hno
  exact .inr ⟨hf, rfl, H2.takes [0, 1, 2, 3] (by decide)⟩
end Go.Proofs.Ytibdlnjnomikjaa
