import Derived.Test.YtcjmdkklbbollaaAS
set_option linter.unusedSimpArgs false
set_option linter.unusedVariables false
namespace Go.Proofs.Ytcjmdkklbbollaa
open Go.RowKit

/-- Step upon step, till nothing is whole. -/
def stepsN : Nat → Rdr → Rdr
  | 0, r => r
  | n + 1, r => if (stepR r).2 = true then stepsN n (stepR r).1 else (stepR r).1
theorem stepsN_true {n : Nat} {r : Rdr} (hn : r.left.size < n) (h : (stepR r).2 = true) : stepsN (n - 1) (stepR r).1 = stepsN n r := by
  obtain ⟨m, rfl⟩ : ∃ m, n = m + 1 := ⟨n - 1, by omega⟩
  rw [stepsN, if_pos h]; rfl
theorem stepsN_false {n : Nat} {r : Rdr} (hn : r.left.size < n) (h : (stepR r).2 = false) : stepsN n r = (stepR r).1 := by
  obtain ⟨m, rfl⟩ : ∃ m, n = m + 1 := ⟨n - 1, by omega⟩
  rw [stepsN, if_neg (by rw [h]; exact Bool.false_ne_true)]
def feedQ (r : Rdr) (s : ByteArray) : Rdr := stepsN (r.left.size + s.size + 1) { r with left := r.left ++ s }
def feedR (r : Rdr) (s : ByteArray) : Rdr × Int :=
  if (65536 : Int) < s.size then (r, 3)
  else if (0 : Int) ≤ r.wrong then (r, 12)
  else if (65536 : Int) < r.left.size + r.bytes + s.size then (r, 4)
  else (feedQ r s, if (0 : Int) ≤ (feedQ r s).wrong then 12 else 0)
theorem Rdr.Ok.fed {r : Rdr} {B : Nat} (h : r.Ok B) (s : ByteArray) (hB : B + s.size ≤ 1099511627776) (hs : (r.left.size : Int) + r.bytes + s.size ≤ 65536) : ({ r with left := r.left ++ s } : Rdr).Ok (B + s.size) := by
  have hb := h.bb
  obtain ⟨h1, h2, h3, h4, h5, h6, h7, h8⟩ := h
  have e : (r.left ++ s).size = r.left.size + s.size := ByteArray.size_append
  refine ⟨hB, h2, h3, h4, ?_, ?_, ?_, ?_⟩ <;> simp only [e] <;> omega
theorem steps_ok {B : Nat} : ∀ (n : Nat) {r : Rdr}, r.Ok B → (stepsN n r).Ok B
  | 0, _, h => h
  | n + 1, r, h => by
    unfold stepsN
    split
    · exact steps_ok n (step_ok h).1
    · exact (step_ok h).1
end Go.Proofs.Ytcjmdkklbbollaa
namespace Go.Proofs.Ytcjmdkklbbollaa
open Go.RowKit

theorem cl73 : callable Try.prog 73 = true := by kernel_rfl
set_option maxRecDepth 20000 in
set_option maxHeartbeats 4000000 in
set_option maxRecDepth 20000 in
set_option maxHeartbeats 4000000 in
theorem feed_p (gr : Nat) (r : Rdr) {B : Nat} (hr : r.Ok B) (s : ByteArray) (hB : B + s.size ≤ 1099511627776) (p1 p2 : Option Addr) (c1 c2 : Nat) (w : World) (HB : S w (rdL gr r p1 c1 p2 c2)) :
    Calls Try.prog 33 #[.pointer (some ⟨gr, 0, none⟩), .string s] w fun e w' => e = .returned (.int .i64 (feedR r s).2) ∧ ∃ p1' c1' p2' c2', S w' (rdL gr (feedR r s).1 p1' c1' p2' c2' ++ [Old w (fps (rdL gr r p1 c1 p2 c2))]) := by
  have H0 : S w [Ob gr (.cells #[.slice p1 r.ms.length c1, .slice p2 r.ms.length c2, .int .i64 (r.bytes), .bool r.greet, .bool r.hello.e, .bool r.hello.f, .bool r.hello.n, .string (r.hello.name), .string (r.hello.peer), .bool r.told, .string (r.left), .int .i64 (r.done), .int .i64 (r.wrong)] 108 (0, 0)), Rw 33 8 p1 r.ms.length c1 (msgsV r.ms), Rw 3 1 p2 r.ms.length c2 (zsV r.zs), Old w (fps (rdL gr r p1 c1 p2 c2))] := HB.beginI
  refine enter 49 Try.func33 rfl rfl rfl ?_
  have hq1 := hr.room
  have hq2 := hr.done
  have hq3 := hr.many
  have hq4 := hr.left
  have hq5 := hr.big
  have hq6 := hr.bb
  refine g_weak [(0, .pointer (some ⟨gr, 0, none⟩)), (1, .string s)] ⟨rfl, rfl, trivial⟩ ?_
  refine g_seq ?_
  refine g_region ?_
  refine l_of (s_val (v := .int .i64 0) (wt0 rfl) rfl rfl (x_assign rfl rfl) ?_)
  refine g_nil ?_
  refine g_then ?_
  refine g_seq ?_
  refine g_block ?_
  refine g_seq ?_
  refine g_region ?_
  refine l_of (s_val (v := .pointer (some ⟨gr, 0, none⟩)) (wt0 rfl) rfl rfl (x_move rfl rfl) ?_)
  refine l_of (s_val (v := .bool false) (wt0 rfl) rfl rfl (x_bin rfl rfl rfl (b_eqN (r := false) Try.underlying48 rfl)) ?_)
  refine l_of (s_val (v := .bool false) (wt0 rfl) rfl rfl (x_assign rfl rfl) ?_)
  refine g_nil ?_
  refine g_then ?_
  refine g_cond_f rfl rfl ?_
  refine g_seq ?_
  refine g_region ?_
  refine l_of (s_val (v := .string s) (wt0 rfl) rfl rfl (x_move rfl rfl) ?_)
  refine l_of (s_val (v := .int .i64 ((s.size : Int))) (wt0 rfl) rfl rfl (x_lens rfl rfl Try.underlying9) ?_)
  refine l_of (s_val (v := .bool (decide ((65536 : Int) < (s.size : Int)))) (wt0 rfl) rfl rfl (x_bin rfl rfl rfl b_gtr) ?_)
  refine l_of (s_val (v := .bool (decide ((65536 : Int) < (s.size : Int)))) (wt0 rfl) rfl rfl (x_assign rfl rfl) ?_)
  refine g_nil ?_
  refine g_then ?_
  by_cases hb1 : (65536 : Int) < (s.size : Int)
  · skip
    refine g_cond_t rfl (decide_eq_true hb1) ?_
    refine g_seq ?_
    refine g_region ?_
    refine l_of (s_val (v := .int .i64 3) (wt0 rfl) rfl rfl (x_assign rfl rfl) ?_)
    refine g_nil ?_
    refine g_then ?_
    refine g_ret ?_
    refine g_in_ret ?_
    refine g_then_ret ?_
    refine fin_ret [.tmp 4] [.int .i64 3] rfl ⟨rfl, trivial⟩ ?_
    unfold feedR
    rw [if_pos hb1]
    exact ⟨rfl, p1, c1, p2, c2, H0.mask [true, true, true, true]⟩
  · skip
    refine g_cond_f rfl (decide_eq_false hb1) ?_
    refine g_seq ?_
    refine g_region ?_
    refine l_of (s_val (v := .pointer (some ⟨gr, 0, none⟩)) (wt0 rfl) rfl rfl (x_move rfl rfl) ?_)
    refine l_of (s_val (v := .pointer (some ⟨gr, 0, none⟩)) (wt0 rfl) rfl rfl (x_nilCheck rfl rfl) ?_)
    refine l_of (s_val (v := .pointer (some ⟨gr, 12, none⟩)) (wt0 rfl) rfl rfl (x_fieldAddr rfl rfl fo108_6 rfl) ?_)
    refine l_of (s_val (v := .int .i64 (r.wrong)) (wt0 rfl) rfl rfl (x_load1 H0 0 rfl rfl Try.underlying3 rfl rfl rfl) ?_)
    refine l_of (s_val (v := .bool (decide ((0 : Int) ≤ r.wrong))) (wt0 rfl) rfl rfl (x_bin rfl rfl rfl b_geq) ?_)
    refine l_of (s_val (v := .bool (decide ((0 : Int) ≤ r.wrong))) (wt0 rfl) rfl rfl (x_assign rfl rfl) ?_)
    refine g_nil ?_
    refine g_then ?_
    refine g_weak [(0, .pointer (some ⟨gr, 0, none⟩)), (1, .string s), (12, .bool (decide ((0 : Int) ≤ r.wrong)))] ⟨rfl, rfl, rfl, trivial⟩ ?_
    by_cases hb2 : (0 : Int) ≤ r.wrong
    · skip
      refine g_cond_t rfl (decide_eq_true hb2) ?_
      refine g_seq ?_
      refine g_region ?_
      refine l_of (s_val (v := .int .i64 12) (wt0 rfl) rfl rfl (x_assign rfl rfl) ?_)
      refine g_nil ?_
      refine g_then ?_
      refine g_ret ?_
      refine g_in_ret ?_
      refine g_then_ret ?_
      refine fin_ret [.tmp 4] [.int .i64 12] rfl ⟨rfl, trivial⟩ ?_
      unfold feedR
      rw [if_neg hb1, if_pos hb2]
      exact ⟨rfl, p1, c1, p2, c2, H0.mask [true, true, true, true]⟩
    · skip
      refine g_cond_f rfl (decide_eq_false hb2) ?_
      refine g_seq ?_
      refine g_quiet (by kernel_rfl) (by kernel_rfl) H0 ?_
      refine q_val (v := .pointer (some ⟨gr, 0, none⟩)) (wt0 rfl) rfl rfl (fun wx H => x_move rfl rfl) ?_
      refine q_val (v := .pointer (some ⟨gr, 0, none⟩)) (wt0 rfl) rfl rfl (fun wx H => x_nilCheck rfl rfl) ?_
      refine q_val (v := .pointer (some ⟨gr, 10, none⟩)) (wt0 rfl) rfl rfl (fun wx H => x_fieldAddr rfl rfl fo108_4 rfl) ?_
      refine q_val (v := .string (r.left)) (wt0 rfl) rfl rfl (fun wx H => x_load1 H 0 rfl rfl Try.underlying9 rfl rfl rfl) ?_
      refine q_val (v := .int .i64 ((r.left.size : Int))) (wt0 rfl) rfl rfl (fun wx H => x_lens rfl rfl Try.underlying9) ?_
      refine q_val (v := .pointer (some ⟨gr, 0, none⟩)) (wt0 rfl) rfl rfl (fun wx H => x_move rfl rfl) ?_
      refine q_val (v := .pointer (some ⟨gr, 0, none⟩)) (wt0 rfl) rfl rfl (fun wx H => x_nilCheck rfl rfl) ?_
      refine q_val (v := .pointer (some ⟨gr, 0, none⟩)) (wt0 rfl) rfl rfl (fun wx H => x_fieldAddr rfl rfl fo108_0 rfl) ?_
      refine q_val (v := .pointer (some ⟨gr, 2, none⟩)) (wt0 rfl) rfl rfl (fun wx H => x_fieldAddr rfl rfl fo106_2 rfl) ?_
      refine q_val (v := .int .i64 (r.bytes)) (wt0 rfl) rfl rfl (fun wx H => x_load1 H 0 rfl rfl Try.underlying3 rfl rfl rfl) ?_
      refine q_val (v := .int .i64 ((r.left.size : Int) + r.bytes)) (wt0 rfl) rfl rfl (fun wx H => x_bin rfl rfl rfl (b_add (w64 (by omega)))) ?_
      refine q_val (v := .string s) (wt0 rfl) rfl rfl (fun wx H => x_move rfl rfl) ?_
      refine q_val (v := .int .i64 ((s.size : Int))) (wt0 rfl) rfl rfl (fun wx H => x_lens rfl rfl Try.underlying9) ?_
      refine q_val (v := .int .i64 (((r.left.size : Int) + r.bytes) + (s.size : Int))) (wt0 rfl) rfl rfl (fun wx H => x_bin rfl rfl rfl (b_add (w64 (by omega)))) ?_
      refine q_val (v := .bool (decide ((65536 : Int) < ((r.left.size : Int) + r.bytes) + (s.size : Int)))) (wt0 rfl) rfl rfl (fun wx H => x_bin rfl rfl rfl b_gtr) ?_
      refine q_val (v := .bool (decide ((65536 : Int) < ((r.left.size : Int) + r.bytes) + (s.size : Int)))) (wt0 rfl) rfl rfl (fun wx H => x_assign rfl rfl) ?_
      refine q_nil (fun wq3 H4 => ?_)
      refine g_then ?_
      refine g_weak [(0, .pointer (some ⟨gr, 0, none⟩)), (1, .string s), (18, .bool (decide ((65536 : Int) < ((r.left.size : Int) + r.bytes) + (s.size : Int))))] ⟨rfl, rfl, rfl, trivial⟩ ?_
      by_cases hb5 : (65536 : Int) < ((r.left.size : Int) + r.bytes) + (s.size : Int)
      · skip
        refine g_cond_t rfl (decide_eq_true hb5) ?_
        refine g_seq ?_
        refine g_region ?_
        refine l_of (s_val (v := .int .i64 4) (wt0 rfl) rfl rfl (x_assign rfl rfl) ?_)
        refine g_nil ?_
        refine g_then ?_
        refine g_ret ?_
        refine g_in_ret ?_
        refine g_then_ret ?_
        refine fin_ret [.tmp 4] [.int .i64 4] rfl ⟨rfl, trivial⟩ ?_
        unfold feedR
        rw [if_neg hb1, if_neg hb2, if_pos hb5]
        exact ⟨rfl, p1, c1, p2, c2, H4.mask [true, true, true, true]⟩
      · skip
        refine g_cond_f rfl (decide_eq_false hb5) ?_
        refine g_skip ?_
        refine g_in ?_
        refine g_then ?_
        refine g_seq ?_
        refine g_region ?_
        refine l_of (s_val (v := .pointer (some ⟨gr, 0, none⟩)) (wt0 rfl) rfl rfl (x_move rfl rfl) ?_)
        refine l_of (s_val (v := .pointer (some ⟨gr, 0, none⟩)) (wt0 rfl) rfl rfl (x_nilCheck rfl rfl) ?_)
        refine l_of (s_val (v := .pointer (some ⟨gr, 10, none⟩)) (wt0 rfl) rfl rfl (x_fieldAddr rfl rfl fo108_4 rfl) ?_)
        refine l_of (s_val (v := .string (r.left)) (wt0 rfl) rfl rfl (x_load1 H4 0 rfl rfl Try.underlying9 rfl rfl rfl) ?_)
        refine l_of (s_val (v := .string s) (wt0 rfl) rfl rfl (x_move rfl rfl) ?_)
        have hsz6 : (r.left ++ s).size = r.left.size + s.size := ByteArray.size_append
        refine l_of (s_val (v := .string (r.left ++ s)) (wt0 rfl) rfl rfl (x_bin rfl rfl rfl (b_cat (by omega))) ?_)
        refine l_of (s_val (v := .pointer (some ⟨gr, 0, none⟩)) (wt0 rfl) rfl rfl (x_nilCheck rfl rfl) ?_)
        refine l_of (s_val (v := .pointer (some ⟨gr, 10, none⟩)) (wt0 rfl) rfl rfl (x_fieldAddr rfl rfl fo108_4 rfl) ?_)
        refine l_of (s_store H4 0 (wt0 rfl) rfl rfl rfl rfl rfl sz9 rfl rfl (cs' := #[.slice p1 r.ms.length c1, .slice p2 r.ms.length c2, .int .i64 (r.bytes), .bool r.greet, .bool r.hello.e, .bool r.hello.f, .bool r.hello.n, .string (r.hello.name), .string (r.hello.peer), .bool r.told, .string (r.left ++ s), .int .i64 (r.done), .int .i64 (r.wrong)]) rfl ?_)
        intro wq7 H8
        refine g_nil ?_
        refine g_then ?_
        refine g_seq ?_
        refine g_block ?_
        refine g_loop (ι := Nat × Rdr × Option Addr × Nat × Option Addr × Nat) (fun (n, rr, q1, d1, q2, d2) => [(0, .pointer (some ⟨gr, 0, none⟩))]) (fun (n, rr, q1, d1, q2, d2) wx => (rr.Ok (B + s.size)) ∧ (stepsN n rr = feedQ r s) ∧ (rr.left.size < n) ∧ S wx [Ob gr (.cells #[.slice q1 rr.ms.length d1, .slice q2 rr.ms.length d2, .int .i64 (rr.bytes), .bool rr.greet, .bool rr.hello.e, .bool rr.hello.f, .bool rr.hello.n, .string (rr.hello.name), .string (rr.hello.peer), .bool rr.told, .string (rr.left), .int .i64 (rr.done), .int .i64 (rr.wrong)] 108 (0, 0)), Rw 33 8 q1 rr.ms.length d1 (msgsV rr.ms), Rw 3 1 q2 rr.ms.length d2 (zsV rr.zs), Old w (fps (rdL gr r p1 c1 p2 c2))]) (fun (n, rr, q1, d1, q2, d2) => n) (r.left.size + s.size + 1, { r with left := r.left ++ s }, p1, c1, p2, c2) ⟨rfl, trivial⟩ ⟨hr.fed s hB (by omega), rfl, by show (r.left ++ s).size < _; rw [ByteArray.size_append]; omega, H8⟩ ?_
        rintro ⟨n, rr, q1, d1, q2, d2⟩ wq9 ⟨hok, hst, hn, H10⟩
        replace H10 : S wq9 [Ob gr (.cells #[.slice q1 rr.ms.length d1, .slice q2 rr.ms.length d2, .int .i64 (rr.bytes), .bool rr.greet, .bool rr.hello.e, .bool rr.hello.f, .bool rr.hello.n, .string (rr.hello.name), .string (rr.hello.peer), .bool rr.told, .string (rr.left), .int .i64 (rr.done), .int .i64 (rr.wrong)] 108 (0, 0)), Rw 33 8 q1 rr.ms.length d1 (msgsV rr.ms), Rw 3 1 q2 rr.ms.length d2 (zsV rr.zs), Old w (fps (rdL gr r p1 c1 p2 c2))] := H10
        refine g_weak [(0, .pointer (some ⟨gr, 0, none⟩))] ⟨rfl, trivial⟩ ?_
        refine g_seq ?_
        refine g_seq ?_
        refine g_region ?_
        refine l_of (s_val (v := .pointer (some ⟨gr, 0, none⟩)) (wt0 rfl) rfl rfl (x_move rfl rfl) ?_)
        refine l_of (s_call (wt0 rfl) (x_call' rfl rfl cl73) (step_p gr rr (hok) q1 q2 d1 d2 _ (H10.takes [0, 1, 2] (by decide))) ?_)
        rintro _ wq15 ⟨rfl, p11, c12, p13, c14, H16⟩
        replace H16 : S wq15 [Ob gr (.cells #[.slice p11 (stepR rr).1.ms.length c12, .slice p13 (stepR rr).1.ms.length c14, .int .i64 ((stepR rr).1.bytes), .bool ((stepR rr).1.greet), .bool ((stepR rr).1.hello.e), .bool ((stepR rr).1.hello.f), .bool ((stepR rr).1.hello.n), .string ((stepR rr).1.hello.name), .string ((stepR rr).1.hello.peer), .bool ((stepR rr).1.told), .string ((stepR rr).1.left), .int .i64 ((stepR rr).1.done), .int .i64 ((stepR rr).1.wrong)] 108 (0, 0)), Rw 33 8 p11 (stepR rr).1.ms.length c12 (msgsV (stepR rr).1.ms), Rw 3 1 p13 (stepR rr).1.ms.length c14 (zsV (stepR rr).1.zs), Old w (fps (rdL gr r p1 c1 p2 c2))] := H10.absorbI (new := [Ob gr (.cells #[.slice p11 (stepR rr).1.ms.length c12, .slice p13 (stepR rr).1.ms.length c14, .int .i64 ((stepR rr).1.bytes), .bool ((stepR rr).1.greet), .bool ((stepR rr).1.hello.e), .bool ((stepR rr).1.hello.f), .bool ((stepR rr).1.hello.n), .string ((stepR rr).1.hello.name), .string ((stepR rr).1.hello.peer), .bool ((stepR rr).1.told), .string ((stepR rr).1.left), .int .i64 ((stepR rr).1.done), .int .i64 ((stepR rr).1.wrong)] 108 (0, 0)), Rw 33 8 p11 (stepR rr).1.ms.length c12 (msgsV (stepR rr).1.ms), Rw 3 1 p13 (stepR rr).1.ms.length c14 (zsV (stepR rr).1.zs)]) [0, 1, 2] H16
        refine b_ret rfl rfl ?_
        refine g_nil ?_
        refine g_then ?_
        rcases Bool.eq_false_or_eq_true ((stepR rr).2) with hb17 | hb17
        · skip
          refine g_cond_t rfl hb17 ?_
          refine g_skip ?_
          refine g_then ?_
          refine g_block ?_
          refine g_skip ?_
          refine g_in ?_
          refine g_then ?_
          refine g_round (i := (n, rr, q1, d1, q2, d2)) (n - 1, (stepR rr).1, p11, c12, p13, c14) ?_ ?_ ?_
          · exact ⟨rfl, trivial⟩
          · exact ⟨(step_ok hok).1, (stepsN_true hn hb17).trans hst, (by have := (step_ok hok).2 hb17; omega), H16⟩
          · (try dsimp only); omega
        · skip
          refine g_cond_f rfl hb17 ?_
          refine g_exit ?_
          refine g_then_exit ?_
          refine g_then_exit ?_
          refine g_in_hit ?_
          refine g_then ?_
          refine g_seq ?_
          refine g_seq ?_
          refine g_region ?_
          refine l_of (s_val (v := .pointer (some ⟨gr, 0, none⟩)) (wt0 rfl) rfl rfl (x_move rfl rfl) ?_)
          refine l_of (s_val (v := .pointer (some ⟨gr, 0, none⟩)) (wt0 rfl) rfl rfl (x_nilCheck rfl rfl) ?_)
          refine l_of (s_val (v := .pointer (some ⟨gr, 12, none⟩)) (wt0 rfl) rfl rfl (x_fieldAddr rfl rfl fo108_6 rfl) ?_)
          refine l_of (s_val (v := .int .i64 ((stepR rr).1.wrong)) (wt0 rfl) rfl rfl (x_load1 H16 0 rfl rfl Try.underlying3 rfl rfl rfl) ?_)
          refine l_of (s_val (v := .bool (decide ((0 : Int) ≤ (stepR rr).1.wrong))) (wt0 rfl) rfl rfl (x_bin rfl rfl rfl b_geq) ?_)
          refine g_nil ?_
          refine g_then ?_
          by_cases hb18 : (0 : Int) ≤ (stepR rr).1.wrong
          · skip
            refine g_cond_t rfl (decide_eq_true hb18) ?_
            refine g_seq ?_
            refine g_region ?_
            refine l_of (s_val (v := .int .i64 12) (wt0 rfl) rfl rfl (x_assign rfl rfl) ?_)
            refine g_nil ?_
            refine g_then ?_
            refine g_ret ?_
            refine g_then_ret ?_
            refine fin_ret [.tmp 4] [.int .i64 12] rfl ⟨rfl, trivial⟩ ?_
            have hq := hst.symm.trans (stepsN_false hn hb17)
            unfold feedR
            rw [if_neg hb1, if_neg hb2, if_neg hb5]
            simp only [hq]
            rw [if_pos hb18]
            exact ⟨rfl, p11, c12, p13, c14, H16.mask [true, true, true, true]⟩
          · skip
            refine g_cond_f rfl (decide_eq_false hb18) ?_
            refine g_skip ?_
            refine g_then ?_
            refine g_seq ?_
            refine g_region ?_
            refine l_of (s_val (v := .int .i64 0) (wt0 rfl) rfl rfl (x_assign rfl rfl) ?_)
            refine g_nil ?_
            refine g_then ?_
            refine g_ret ?_
            refine fin_ret [.tmp 4] [.int .i64 0] rfl ⟨rfl, trivial⟩ ?_
            have hq := hst.symm.trans (stepsN_false hn hb17)
            unfold feedR
            rw [if_neg hb1, if_neg hb2, if_neg hb5]
            simp only [hq]
            rw [if_neg hb18]
            exact ⟨rfl, p11, c12, p13, c14, H16.mask [true, true, true, true]⟩
end Go.Proofs.Ytcjmdkklbbollaa
namespace Go.Proofs.Ytcjmdkklbbollaa
open Go.RowKit

def newR (g : Bool) : Rdr := ⟨[], [], 0, g, Hs.zero, false, ⟨#[]⟩, 0, -1⟩
theorem newR_ok (g : Bool) : (newR g).Ok 0 := ⟨by omega, rfl, rfl, (fun z hz => by cases hz), by cases g <;> decide, by cases g <;> decide, by cases g <;> decide, by cases g <;> decide⟩
theorem S.newRd {w : World} {a : Item} {L : List Item} (h : S w (a :: L)) : S w (a :: Rw 33 8 none 0 0 [] :: Rw 3 1 none 0 0 [] :: L) :=
  ((h.nilRw 3 1).nilRw 33 8).perm (List.perm_middle (l₁ := [Rw 33 8 none 0 0 [], Rw 3 1 none 0 0 []]) (l₂ := L))
/-- What All answers. -/
def allT : List M → ByteArray → ByteArray × Int
  | [], out => (out, 0)
  | m :: l, out => if (encT m).2 = 0 then allT l (out ++ (encT m).1) else (⟨#[]⟩, (encT m).2)
theorem drop_of_get {α : Type} {l : List α} {i : Nat} {m : α} (h : l[i]? = some m) : l.drop i = m :: l.drop (i + 1) := by
  obtain ⟨hi, rfl⟩ := List.getElem?_eq_some_iff.1 h
  exact List.drop_eq_getElem_cons hi
theorem allT_next {l : List M} {i : Nat} {m : M} {out : ByteArray} (h : l[i]? = some m) (h0 : (encT m).2 = 0) : allT (l.drop i) out = allT (l.drop (i + 1)) (out ++ (encT m).1) := by
  rw [drop_of_get h, allT, if_pos h0]
theorem allT_stop {l : List M} {i : Nat} {m : M} {out : ByteArray} (h : l[i]? = some m) (h0 : ¬ (encT m).2 = 0) : allT (l.drop i) out = (⟨#[]⟩, (encT m).2) := by
  rw [drop_of_get h, allT, if_neg h0]
theorem allT_end {l : List M} {i : Nat} {out : ByteArray} (h : l.length ≤ i) : allT (l.drop i) out = (out, 0) := by
  rw [List.drop_eq_nil_of_le h]; rfl
theorem enc_size {m : M} (h : (encT m).2 = 0) : (encT m).1.size ≤ 4204 := (back m ⟨#[]⟩ h (by decide)).2
end Go.Proofs.Ytcjmdkklbbollaa
namespace Go.Proofs.Ytcjmdkklbbollaa
open Go.RowKit

theorem cl18 : callable Try.prog 18 = true := by kernel_rfl
theorem cl19 : callable Try.prog 19 = true := by kernel_rfl
set_option maxRecDepth 20000 in
set_option maxHeartbeats 4000000 in
theorem new_p (g : Bool)  (w : World) : Calls Try.prog 32 #[.bool g] w fun e w' => ∃ gr, e = .returned (.pointer (some ⟨gr, 0, none⟩)) ∧ S w' (rdL gr (newR g) none 0 none 0 ++ [Old w no]) := by
  have H0 := S.old w
  refine enter 6 Try.func32 rfl rfl rfl ?_
  refine g_weak [(0, .bool g)] ⟨rfl, trivial⟩ ?_
  refine g_seq ?_
  refine g_region ?_
  refine l_of (s_val (v := .pointer none) (wt0 rfl) rfl rfl (x_assign rfl rfl) ?_)
  refine g_nil ?_
  refine g_then ?_
  refine g_seq ?_
  refine g_region ?_
  refine l_of (s_val (v := .bool g) (wt0 rfl) rfl rfl (x_move rfl rfl) ?_)
  refine l_of (s_val (v := .agg #[.slice none 0 0, .slice none 0 0, .int .i64 0, .bool g, .bool false, .bool false, .bool false, .string (⟨#[]⟩), .string (⟨#[]⟩), .bool false, .string (⟨#[]⟩), .int .i64 0, .int .i64 (-1)]) (wt0 rfl) rfl rfl (x_build (vs := [.bool g, .int .i64 (-1)]) rfl rfl (cells := #[.slice none 0 0, .slice none 0 0, .int .i64 0, .bool g, .bool false, .bool false, .bool false, .string (⟨#[]⟩), .string (⟨#[]⟩), .bool false, .string (⟨#[]⟩), .int .i64 0, .int .i64 (-1)]) (by kernel_rfl)) ?_)
  refine l_of (s_box H0 (wt0 rfl) rfl rfl rfl rfl ?_)
  intro g1 wq2 H3
  refine l_of (s_val (v := .pointer (some ⟨g1, 0, none⟩)) (wt0 rfl) rfl rfl (x_assign rfl rfl) ?_)
  refine g_nil ?_
  refine g_then ?_
  refine g_ret ?_
  refine fin_ret [.tmp 2] [.pointer (some ⟨g1, 0, none⟩)] rfl ⟨rfl, trivial⟩ ?_
  exact ⟨_, rfl, H3.newRd⟩
set_option maxRecDepth 20000 in
set_option maxHeartbeats 4000000 in
set_option maxRecDepth 20000 in
theorem wait_p (gr n c : Nat) (p : Option Addr) (w : World) (hc : w.cell? ⟨gr, 0, none⟩ = some (.slice p n c)) : Calls Try.prog 34 #[.pointer (some ⟨gr, 0, none⟩)] w fun e w' => e = .returned (.int .i64 n) ∧ S w' [Old w no] := by
  have H0 := S.old w
  refine enter 11 Try.func34 rfl rfl rfl ?_
  refine g_weak [(0, .pointer (some ⟨gr, 0, none⟩))] ⟨rfl, trivial⟩ ?_
  refine g_seq ?_
  refine g_region ?_
  refine l_of (s_val (v := .int .i64 0) (wt0 rfl) rfl rfl (x_assign rfl rfl) ?_)
  refine g_nil ?_
  refine g_then ?_
  refine g_seq ?_
  refine g_seq ?_
  refine g_region ?_
  refine l_of (s_val (v := .pointer (some ⟨gr, 0, none⟩)) (wt0 rfl) rfl rfl (x_move rfl rfl) ?_)
  refine l_of (s_val (v := .bool false) (wt0 rfl) rfl rfl (x_bin rfl rfl rfl (b_eqN (r := false) Try.underlying48 rfl)) ?_)
  refine g_nil ?_
  refine g_then ?_
  refine g_cond_f rfl rfl ?_
  refine g_skip ?_
  refine g_then ?_
  refine g_seq ?_
  refine g_region ?_
  refine l_of (s_val (v := .pointer (some ⟨gr, 0, none⟩)) (wt0 rfl) rfl rfl (x_move rfl rfl) ?_)
  refine l_of (s_val (v := .pointer (some ⟨gr, 0, none⟩)) (wt0 rfl) rfl rfl (x_nilCheck rfl rfl) ?_)
  refine l_of (s_val (v := .pointer (some ⟨gr, 0, none⟩)) (wt0 rfl) rfl rfl (x_fieldAddr rfl rfl fo108_0 rfl) ?_)
  refine l_of (s_val (v := .pointer (some ⟨gr, 0, none⟩)) (wt0 rfl) rfl rfl (x_fieldAddr rfl rfl fo106_0 rfl) ?_)
  refine l_of (s_val (v := .slice p n c) (wt0 rfl) rfl rfl (x_loadC rfl rfl Try.underlying46 rfl (H0.oldCell (k := 0) rfl hc id)) ?_)
  refine l_of (s_val (v := .int .i64 ((n : Int))) (wt0 rfl) rfl rfl (x_lenl rfl rfl Try.underlying46) ?_)
  refine l_of (s_val (v := .int .i64 ((n : Int))) (wt0 rfl) rfl rfl (x_assign rfl rfl) ?_)
  refine g_nil ?_
  refine g_then ?_
  refine g_ret ?_
  refine fin_ret [.tmp 2] [.int .i64 ((n : Int))] rfl ⟨rfl, trivial⟩ ?_
  exact ⟨rfl, H0.mask [true]⟩
set_option maxRecDepth 20000 in
set_option maxHeartbeats 4000000 in
set_option maxRecDepth 20000 in
theorem all_w (p : Option Addr) (n c : Nat) (l : List M) (hn : n = l.length) (hl : n ≤ 100000) (w : World) (hr : Reads w p n c 8 (msgsV l)) : Calls Try.prog 30 #[.slice p n c] w fun e w' => e = .returned (.tuple #[.string (allT l ⟨#[]⟩).1, .int .i64 (allT l ⟨#[]⟩).2]) ∧ S w' [Old w no] := by
  have H0 := S.old w
  refine enter 28 Try.func30 rfl rfl rfl ?_
  refine g_weak [(0, .slice p n c)] ⟨rfl, trivial⟩ ?_
  refine g_seq ?_
  refine g_region ?_
  refine l_of (s_val (v := .string (⟨#[]⟩)) (wt0 rfl) rfl rfl (x_assign rfl rfl) ?_)
  refine l_of (s_val (v := .int .i64 0) (wt0 rfl) rfl rfl (x_assign rfl rfl) ?_)
  refine g_nil ?_
  refine g_then ?_
  refine g_seq ?_
  refine g_region ?_
  refine l_of (s_val (v := .string (⟨#[]⟩)) (wt0 rfl) rfl rfl (x_assign rfl rfl) ?_)
  refine g_nil ?_
  refine g_then ?_
  refine g_seq ?_
  refine g_seq ?_
  refine g_region ?_
  refine l_of (s_val (v := .slice p n c) (wt0 rfl) rfl rfl (x_move rfl rfl) ?_)
  refine l_of (s_val (v := .int .i64 ((n : Int))) (wt0 rfl) rfl rfl (x_lenl rfl rfl Try.underlying46) ?_)
  refine l_of (s_val (v := .int .i64 0) (wt0 rfl) rfl rfl (x_move rfl rfl) ?_)
  refine g_nil ?_
  refine g_then ?_
  refine g_block ?_
  refine g_loop (ι := Nat × ByteArray) (fun (i, out) => [(4, .string out), (9, .slice p n c), (10, .int .i64 ((n : Int))), (11, .int .i64 ((i : Int)))]) (fun (i, out) wx => (i ≤ n) ∧ (allT (l.drop i) out = allT l ⟨#[]⟩) ∧ (out.size ≤ 4204 * i) ∧ S wx [Old w no]) (fun (i, out) => n - i) (0, ⟨#[]⟩) ⟨rfl, rfl, rfl, rfl, trivial⟩ ⟨Nat.zero_le _, rfl, Nat.zero_le _, H0⟩ ?_
  rintro ⟨i, out⟩ wq1 ⟨hi, hout, hsz, H2⟩
  replace H2 : S wq1 [Old w no] := H2
  refine g_weak [(4, .string out), (9, .slice p n c), (10, .int .i64 ((n : Int))), (11, .int .i64 ((i : Int)))] ⟨rfl, rfl, rfl, rfl, trivial⟩ ?_
  refine g_seq ?_
  refine g_region ?_
  refine l_of (s_val (v := .bool (decide (((i : Int) : Int) < (n : Int)))) (wt0 rfl) rfl rfl (x_bin rfl rfl rfl b_lss) ?_)
  refine g_nil ?_
  refine g_then ?_
  refine g_seq ?_
  by_cases hb3 : ((i : Int) : Int) < (n : Int)
  · skip
    obtain ⟨m, hm⟩ : ∃ m, l[i]? = some m := ⟨_, List.getElem?_eq_getElem (by omega)⟩
    refine g_cond_t rfl (decide_eq_true hb3) ?_
    refine g_skip ?_
    refine g_then ?_
    refine g_seq ?_
    refine g_block ?_
    refine g_seq ?_
    refine g_region ?_
    refine l_of (s_val (v := .pointer ((p).map fun q => q.add (i * 8))) (wt0 rfl) rfl rfl (x_idxR i (H2.oldReads (k := 0) rfl hr) rfl rfl rfl Try.underlying46 sz33 (by omega)) ?_)
    refine l_of (s_val (v := .agg m.cells) (wt0 rfl) rfl rfl (x_loadRA (vs := cellsL m) i (H2.oldReads (k := 0) rfl hr) (by omega) rfl rfl Try.underlying33 rfl sz33 (by rfl) (flat_at (fun a _ => cellsL_len a) hm)) ?_)
    refine l_of (s_alloc H2 (wt0 rfl) rfl rfl rfl ze33 ?_)
    intro g4 wq5 H6
    refine l_of (s_store H6 0 (wt0 rfl) rfl rfl rfl rfl rfl sz33 rfl rfl (cs' := m.cells) rfl ?_)
    intro wq7 H8
    refine g_nil ?_
    refine g_then ?_
    refine g_seq ?_
    refine g_region ?_
    refine l_of (s_val (v := .agg m.cells) (wt0 rfl) rfl rfl (x_loadA H8 0 rfl rfl Try.underlying33 rfl sz33 rfl rfl rfl) ?_)
    refine l_of (s_call (wt0 rfl) (x_call' rfl rfl cl18) (encode_p' _ _) ?_)
    rintro _ wq9 ⟨rfl, H10⟩
    replace H10 : S wq9 [Ob g4 (.cells m.cells 33 (0, 0)), Old w no] := H8.absorb (new := []) H10
    refine b_ret rfl rfl ?_
    refine l_of (s_val (v := .tuple #[.string ((encT m).1), .int .i64 ((encT m).2)]) (wt0 rfl) rfl rfl (x_move rfl rfl) ?_)
    refine l_of (s_val (v := .string ((encT m).1)) (wt0 rfl) rfl rfl (x_extract rfl rfl rfl) ?_)
    refine l_of (s_val (v := .int .i64 ((encT m).2)) (wt0 rfl) rfl rfl (x_extract rfl rfl rfl) ?_)
    refine l_of (s_val (v := .string ((encT m).1)) (wt0 rfl) rfl rfl (x_assign rfl rfl) ?_)
    refine l_of (s_val (v := .int .i64 ((encT m).2)) (wt0 rfl) rfl rfl (x_assign rfl rfl) ?_)
    refine g_nil ?_
    refine g_then ?_
    refine g_seq ?_
    refine g_seq ?_
    refine g_region ?_
    refine l_of (s_val (v := .int .i64 ((encT m).2)) (wt0 rfl) rfl rfl (x_move rfl rfl) ?_)
    refine l_of (s_val (v := .bool (!decide (((encT m).2 : Int) = 0))) (wt0 rfl) rfl rfl (x_bin rfl rfl rfl b_neq) ?_)
    refine g_nil ?_
    refine g_then ?_
    by_cases hb11 : ((encT m).2 : Int) = 0
    · skip
      have hes := enc_size hb11
      refine g_cond_f rfl (nf hb11) ?_
      refine g_skip ?_
      refine g_then ?_
      refine g_weak [(4, .string out), (7, .string ((encT m).1)), (9, .slice p n c), (10, .int .i64 ((n : Int))), (11, .int .i64 ((i : Int)))] ⟨rfl, rfl, rfl, rfl, rfl, trivial⟩ ?_
      refine g_region ?_
      refine l_of (s_val (v := .string out) (wt0 rfl) rfl rfl (x_move rfl rfl) ?_)
      refine l_of (s_val (v := .string ((encT m).1)) (wt0 rfl) rfl rfl (x_move rfl rfl) ?_)
      have hsz12 : (out ++ ((encT m).1)).size = out.size + ((encT m).1).size := ByteArray.size_append
      refine l_of (s_val (v := .string (out ++ ((encT m).1))) (wt0 rfl) rfl rfl (x_bin rfl rfl rfl (b_cat (by omega))) ?_)
      refine l_of (s_val (v := .string (out ++ ((encT m).1))) (wt0 rfl) rfl rfl (x_assign rfl rfl) ?_)
      refine g_nil ?_
      refine g_in ?_
      refine g_then ?_
      refine g_region ?_
      refine l_of (s_val (v := .int .i64 ((i : Int) + 1)) (wt0 rfl) rfl rfl (x_bin rfl rfl rfl (b_add (w64 (by omega)))) ?_)
      refine l_of (s_val (v := .int .i64 ((i : Int) + 1)) (wt0 rfl) rfl rfl (x_move rfl rfl) ?_)
      refine g_nil ?_
      refine g_then ?_
      refine g_round (i := (i, out)) (i + 1, out ++ (encT m).1) ?_ ?_ ?_
      · exact ⟨rfl, rfl, rfl, rfl, trivial⟩
      · exact ⟨by omega, (allT_next hm hb11).symm.trans hout, (by rw [ByteArray.size_append]; omega), (H10.mask [false, true])⟩
      · (try dsimp only); omega
    · skip
      refine g_cond_t rfl (nt hb11) ?_
      refine g_seq ?_
      refine g_region ?_
      refine l_of (s_val (v := .int .i64 ((encT m).2)) (wt0 rfl) rfl rfl (x_move rfl rfl) ?_)
      refine l_of (s_val (v := .string (⟨#[]⟩)) (wt0 rfl) rfl rfl (x_assign rfl rfl) ?_)
      refine l_of (s_val (v := .int .i64 ((encT m).2)) (wt0 rfl) rfl rfl (x_assign rfl rfl) ?_)
      refine g_nil ?_
      refine g_then ?_
      refine g_weak [(2, .string (⟨#[]⟩)), (3, .int .i64 ((encT m).2))] ⟨rfl, rfl, trivial⟩ ?_
      refine g_ret ?_
      refine g_then_ret ?_
      refine g_in_ret ?_
      refine g_then_ret ?_
      refine g_then_ret ?_
      refine g_in_ret ?_
      refine g_then_ret ?_
      refine fin_ret [.tmp 2, .tmp 3] [.string (⟨#[]⟩), .int .i64 ((encT m).2)] rfl ⟨rfl, rfl, trivial⟩ ?_
      exact ⟨by rw [(hout.symm.trans (allT_stop hm hb11))]; rfl, H10.mask [false, true]⟩
  · skip
    refine g_cond_f rfl (decide_eq_false hb3) ?_
    refine g_exit ?_
    refine g_then_exit ?_
    refine g_then_exit ?_
    refine g_in_hit ?_
    refine g_then ?_
    refine g_seq ?_
    refine g_region ?_
    refine l_of (s_val (v := .string out) (wt0 rfl) rfl rfl (x_move rfl rfl) ?_)
    refine l_of (s_val (v := .string out) (wt0 rfl) rfl rfl (x_assign rfl rfl) ?_)
    refine l_of (s_val (v := .int .i64 0) (wt0 rfl) rfl rfl (x_assign rfl rfl) ?_)
    refine g_nil ?_
    refine g_then ?_
    refine g_ret ?_
    refine fin_ret [.tmp 2, .tmp 3] [.string out, .int .i64 0] rfl ⟨rfl, rfl, trivial⟩ ?_
    exact ⟨by rw [(hout.symm.trans (allT_end (by omega)))]; rfl, H2.mask [true]⟩
set_option maxRecDepth 20000 in
set_option maxHeartbeats 4000000 in
set_option maxRecDepth 20000 in
theorem all_r (p : Option Addr) (n c : Nat) (l : List M) (hn : n = l.length) (hl : n ≤ 100000) (hli : ∀ m ∈ l, m.data.size ≤ 5000) (w : World) (hr : Reads w p n c 8 (msgsV l)) : Calls Try.prog 31 #[.slice p n c] w fun e w' => e = .returned (.tuple #[.string (allT l ⟨#[]⟩).1, .int .i64 (allT l ⟨#[]⟩).2]) ∧ S w' [Old w no] := by
  have H0 := S.old w
  refine enter 28 Try.func31 rfl rfl rfl ?_
  refine g_weak [(0, .slice p n c)] ⟨rfl, trivial⟩ ?_
  refine g_seq ?_
  refine g_region ?_
  refine l_of (s_val (v := .string (⟨#[]⟩)) (wt0 rfl) rfl rfl (x_assign rfl rfl) ?_)
  refine l_of (s_val (v := .int .i64 0) (wt0 rfl) rfl rfl (x_assign rfl rfl) ?_)
  refine g_nil ?_
  refine g_then ?_
  refine g_seq ?_
  refine g_region ?_
  refine l_of (s_val (v := .string (⟨#[]⟩)) (wt0 rfl) rfl rfl (x_assign rfl rfl) ?_)
  refine g_nil ?_
  refine g_then ?_
  refine g_seq ?_
  refine g_seq ?_
  refine g_region ?_
  refine l_of (s_val (v := .slice p n c) (wt0 rfl) rfl rfl (x_move rfl rfl) ?_)
  refine l_of (s_val (v := .int .i64 ((n : Int))) (wt0 rfl) rfl rfl (x_lenl rfl rfl Try.underlying46) ?_)
  refine l_of (s_val (v := .int .i64 0) (wt0 rfl) rfl rfl (x_move rfl rfl) ?_)
  refine g_nil ?_
  refine g_then ?_
  refine g_block ?_
  refine g_loop (ι := Nat × ByteArray) (fun (i, out) => [(4, .string out), (9, .slice p n c), (10, .int .i64 ((n : Int))), (11, .int .i64 ((i : Int)))]) (fun (i, out) wx => (i ≤ n) ∧ (allT (l.drop i) out = allT l ⟨#[]⟩) ∧ (out.size ≤ 4204 * i) ∧ S wx [Old w no]) (fun (i, out) => n - i) (0, ⟨#[]⟩) ⟨rfl, rfl, rfl, rfl, trivial⟩ ⟨Nat.zero_le _, rfl, Nat.zero_le _, H0⟩ ?_
  rintro ⟨i, out⟩ wq1 ⟨hi, hout, hsz, H2⟩
  replace H2 : S wq1 [Old w no] := H2
  refine g_weak [(4, .string out), (9, .slice p n c), (10, .int .i64 ((n : Int))), (11, .int .i64 ((i : Int)))] ⟨rfl, rfl, rfl, rfl, trivial⟩ ?_
  refine g_seq ?_
  refine g_region ?_
  refine l_of (s_val (v := .bool (decide (((i : Int) : Int) < (n : Int)))) (wt0 rfl) rfl rfl (x_bin rfl rfl rfl b_lss) ?_)
  refine g_nil ?_
  refine g_then ?_
  refine g_seq ?_
  by_cases hb3 : ((i : Int) : Int) < (n : Int)
  · skip
    obtain ⟨m, hm⟩ : ∃ m, l[i]? = some m := ⟨_, List.getElem?_eq_getElem (by omega)⟩
    refine g_cond_t rfl (decide_eq_true hb3) ?_
    refine g_skip ?_
    refine g_then ?_
    refine g_seq ?_
    refine g_block ?_
    refine g_seq ?_
    refine g_region ?_
    refine l_of (s_val (v := .pointer ((p).map fun q => q.add (i * 8))) (wt0 rfl) rfl rfl (x_idxR i (H2.oldReads (k := 0) rfl hr) rfl rfl rfl Try.underlying46 sz33 (by omega)) ?_)
    refine l_of (s_val (v := .agg m.cells) (wt0 rfl) rfl rfl (x_loadRA (vs := cellsL m) i (H2.oldReads (k := 0) rfl hr) (by omega) rfl rfl Try.underlying33 rfl sz33 (by rfl) (flat_at (fun a _ => cellsL_len a) hm)) ?_)
    refine l_of (s_alloc H2 (wt0 rfl) rfl rfl rfl ze33 ?_)
    intro g4 wq5 H6
    refine l_of (s_store H6 0 (wt0 rfl) rfl rfl rfl rfl rfl sz33 rfl rfl (cs' := m.cells) rfl ?_)
    intro wq7 H8
    refine g_nil ?_
    refine g_then ?_
    refine g_seq ?_
    refine g_region ?_
    refine l_of (s_val (v := .agg m.cells) (wt0 rfl) rfl rfl (x_loadA H8 0 rfl rfl Try.underlying33 rfl sz33 rfl rfl rfl) ?_)
    refine l_of (s_call (wt0 rfl) (x_call' rfl rfl cl19) (encode_r' _ (hli _ (List.mem_of_getElem? hm)) _) ?_)
    rintro _ wq9 ⟨rfl, H10⟩
    replace H10 : S wq9 [Ob g4 (.cells m.cells 33 (0, 0)), Old w no] := H8.absorb (new := []) H10
    refine b_ret rfl rfl ?_
    refine l_of (s_val (v := .tuple #[.string ((encT m).1), .int .i64 ((encT m).2)]) (wt0 rfl) rfl rfl (x_move rfl rfl) ?_)
    refine l_of (s_val (v := .string ((encT m).1)) (wt0 rfl) rfl rfl (x_extract rfl rfl rfl) ?_)
    refine l_of (s_val (v := .int .i64 ((encT m).2)) (wt0 rfl) rfl rfl (x_extract rfl rfl rfl) ?_)
    refine l_of (s_val (v := .string ((encT m).1)) (wt0 rfl) rfl rfl (x_assign rfl rfl) ?_)
    refine l_of (s_val (v := .int .i64 ((encT m).2)) (wt0 rfl) rfl rfl (x_assign rfl rfl) ?_)
    refine g_nil ?_
    refine g_then ?_
    refine g_seq ?_
    refine g_seq ?_
    refine g_region ?_
    refine l_of (s_val (v := .int .i64 ((encT m).2)) (wt0 rfl) rfl rfl (x_move rfl rfl) ?_)
    refine l_of (s_val (v := .bool (!decide (((encT m).2 : Int) = 0))) (wt0 rfl) rfl rfl (x_bin rfl rfl rfl b_neq) ?_)
    refine g_nil ?_
    refine g_then ?_
    by_cases hb11 : ((encT m).2 : Int) = 0
    · skip
      have hes := enc_size hb11
      refine g_cond_f rfl (nf hb11) ?_
      refine g_skip ?_
      refine g_then ?_
      refine g_weak [(4, .string out), (7, .string ((encT m).1)), (9, .slice p n c), (10, .int .i64 ((n : Int))), (11, .int .i64 ((i : Int)))] ⟨rfl, rfl, rfl, rfl, rfl, trivial⟩ ?_
      refine g_region ?_
      refine l_of (s_val (v := .string out) (wt0 rfl) rfl rfl (x_move rfl rfl) ?_)
      refine l_of (s_val (v := .string ((encT m).1)) (wt0 rfl) rfl rfl (x_move rfl rfl) ?_)
      have hsz12 : (out ++ ((encT m).1)).size = out.size + ((encT m).1).size := ByteArray.size_append
      refine l_of (s_val (v := .string (out ++ ((encT m).1))) (wt0 rfl) rfl rfl (x_bin rfl rfl rfl (b_cat (by omega))) ?_)
      refine l_of (s_val (v := .string (out ++ ((encT m).1))) (wt0 rfl) rfl rfl (x_assign rfl rfl) ?_)
      refine g_nil ?_
      refine g_in ?_
      refine g_then ?_
      refine g_region ?_
      refine l_of (s_val (v := .int .i64 ((i : Int) + 1)) (wt0 rfl) rfl rfl (x_bin rfl rfl rfl (b_add (w64 (by omega)))) ?_)
      refine l_of (s_val (v := .int .i64 ((i : Int) + 1)) (wt0 rfl) rfl rfl (x_move rfl rfl) ?_)
      refine g_nil ?_
      refine g_then ?_
      refine g_round (i := (i, out)) (i + 1, out ++ (encT m).1) ?_ ?_ ?_
      · exact ⟨rfl, rfl, rfl, rfl, trivial⟩
      · exact ⟨by omega, (allT_next hm hb11).symm.trans hout, (by rw [ByteArray.size_append]; omega), (H10.mask [false, true])⟩
      · (try dsimp only); omega
    · skip
      refine g_cond_t rfl (nt hb11) ?_
      refine g_seq ?_
      refine g_region ?_
      refine l_of (s_val (v := .int .i64 ((encT m).2)) (wt0 rfl) rfl rfl (x_move rfl rfl) ?_)
      refine l_of (s_val (v := .string (⟨#[]⟩)) (wt0 rfl) rfl rfl (x_assign rfl rfl) ?_)
      refine l_of (s_val (v := .int .i64 ((encT m).2)) (wt0 rfl) rfl rfl (x_assign rfl rfl) ?_)
      refine g_nil ?_
      refine g_then ?_
      refine g_weak [(2, .string (⟨#[]⟩)), (3, .int .i64 ((encT m).2))] ⟨rfl, rfl, trivial⟩ ?_
      refine g_ret ?_
      refine g_then_ret ?_
      refine g_in_ret ?_
      refine g_then_ret ?_
      refine g_then_ret ?_
      refine g_in_ret ?_
      refine g_then_ret ?_
      refine fin_ret [.tmp 2, .tmp 3] [.string (⟨#[]⟩), .int .i64 ((encT m).2)] rfl ⟨rfl, rfl, trivial⟩ ?_
      exact ⟨by rw [(hout.symm.trans (allT_stop hm hb11))]; rfl, H10.mask [false, true]⟩
  · skip
    refine g_cond_f rfl (decide_eq_false hb3) ?_
    refine g_exit ?_
    refine g_then_exit ?_
    refine g_then_exit ?_
    refine g_in_hit ?_
    refine g_then ?_
    refine g_seq ?_
    refine g_region ?_
    refine l_of (s_val (v := .string out) (wt0 rfl) rfl rfl (x_move rfl rfl) ?_)
    refine l_of (s_val (v := .string out) (wt0 rfl) rfl rfl (x_assign rfl rfl) ?_)
    refine l_of (s_val (v := .int .i64 0) (wt0 rfl) rfl rfl (x_assign rfl rfl) ?_)
    refine g_nil ?_
    refine g_then ?_
    refine g_ret ?_
    refine fin_ret [.tmp 2, .tmp 3] [.string out, .int .i64 0] rfl ⟨rfl, rfl, trivial⟩ ?_
    exact ⟨by rw [(hout.symm.trans (allT_end (by omega)))]; rfl, H2.mask [true]⟩
end Go.Proofs.Ytcjmdkklbbollaa
namespace Go.Proofs.Ytcjmdkklbbollaa
open Go.RowKit

/-- The bytes of messages, one behind the other. -/
def catE : List M → ByteArray
  | [] => ⟨#[]⟩
  | m :: l => (encT m).1 ++ catE l
theorem allT_ok : ∀ {l : List M} {out : ByteArray}, (allT l out).2 = 0 → (∀ m ∈ l, (encT m).2 = 0) ∧ (allT l out).1 = out ++ catE l
  | [], out, _ => ⟨(fun m hm => by cases hm), (app_nil out).symm⟩
  | m :: l, out, h => by
    unfold allT at h ⊢
    by_cases h0 : (encT m).2 = 0
    · rw [if_pos h0] at h ⊢
      obtain ⟨h1, h2⟩ := allT_ok h
      refine ⟨fun x hx => ?_, by rw [h2, catE, app_assoc]⟩
      rcases List.mem_cons.1 hx with rfl | hx
      · exact h0
      · exact h1 x hx
    · rw [if_neg h0] at h
      exact absurd h h0
theorem allT_nil_app (l : List M) (h : (allT l ⟨#[]⟩).2 = 0) : (allT l ⟨#[]⟩).1 = catE l := by
  rw [(allT_ok h).2]
  exact eq_of_bl (by simp)
theorem dec_nil : decS ⟨#[]⟩ = (Zm, 0, 0, 8) := by
  have e : (⟨#[]⟩ : ByteArray).size = 0 := rfl
  have hr : rd4 (⟨#[]⟩ : ByteArray) = 0 := by rw [rd4_def, bt_out _ _ (by rw [e]; omega), bt_out _ _ (by rw [e]; omega), bt_out _ _ (by rw [e]; omega), bt_out _ _ (by rw [e]; omega)]
  rw [decS_less _ (by rw [e]; omega), hr, e, if_neg (by omega), if_pos (by omega)]; rfl
/-- A reader that stands before whole messages takes them all. -/
theorem steps_all : ∀ (l : List M) (n : Nat) (r : Rdr), (∀ m ∈ l, (encT m).2 = 0) → r.greet = false → r.left = catE l → r.left.size ≤ 61000 → r.left.size < n →
    (stepsN n r).ms = r.ms ++ l ∧ (stepsN n r).wrong = r.wrong
  | [], n + 1, r, _, hg, hl, _, _ => by
    have hd : decS r.left = (Zm, 0, 0, 8) := by rw [hl]; exact dec_nil
    have hs : stepR r = (r, false) := by
      unfold stepR
      rw [if_neg (by rw [hg]; exact Bool.false_ne_true), hd]
      rw [if_neg (by show ¬ (8 : Int) = 12; omega), if_neg (by show ¬ (8 : Int) = 0; omega)]
    rw [stepsN, hs, if_neg (by exact Bool.false_ne_true)]
    exact ⟨by simp, rfl⟩
  | [], 0, r, _, _, _, _, hn => by omega
  | m :: l, 0, r, _, _, _, _, hn => by omega
  | m :: l, n + 1, r, hv, hg, hl, hs, hn => by
    have h0 := hv m (List.mem_cons_self ..)
    have hc : catE (m :: l) = (encT m).1 ++ catE l := rfl
    have hsz : r.left.size = (encT m).1.size + (catE l).size := by rw [hl, hc, ByteArray.size_append]
    obtain ⟨hd, h42⟩ := back m (catE l) h0 (by omega)
    rw [← hc, ← hl] at hd
    have hu := dec_used r.left (by omega)
    have h4 : 4 ≤ ((encT m).1.size : Int) := by
      have := (hu.1 (by rw [hd])).1
      rw [hd] at this; exact this
    have hx : r.left.extract (((encT m).1.size : Int)).toNat r.left.size = catE l := by
      rw [Int.toNat_natCast, hl, hc]
      exact skip _ _ _ _ rfl (by rw [ByteArray.size_append])
    have hst : stepR r = ({ r with ms := r.ms ++ [m], zs := r.zs ++ [((encT m).1.size : Int)], bytes := r.bytes + ((encT m).1.size : Int), left := catE l, done := r.done + ((encT m).1.size : Int) }, true) := by
      unfold stepR
      rw [if_neg (by rw [hg]; exact Bool.false_ne_true), hd]
      rw [if_neg (by show ¬ (0 : Int) = 12; omega), if_pos rfl, hx]
    rw [stepsN, hst, if_pos rfl]
    have ih := steps_all l n { r with ms := r.ms ++ [m], zs := r.zs ++ [((encT m).1.size : Int)], bytes := r.bytes + ((encT m).1.size : Int), left := catE l, done := r.done + ((encT m).1.size : Int) } (fun x hx => hv x (List.mem_cons_of_mem _ hx)) hg rfl (by show (catE l).size ≤ _; omega) (by show (catE l).size < _; omega)
    refine ⟨by rw [ih.1]; simp, ih.2⟩
theorem feed_all {l : List M} (h : (allT l ⟨#[]⟩).2 = 0) (hs : (allT l ⟨#[]⟩).1.size ≤ 61000) : (feedR (newR false) (allT l ⟨#[]⟩).1).2 = 0 ∧ (feedR (newR false) (allT l ⟨#[]⟩).1).1.ms = l := by
  have hv := (allT_ok h).1
  rw [allT_nil_app l h] at hs ⊢
  have e0 : (newR false).left = ⟨#[]⟩ := rfl
  have el : (newR false).left ++ catE l = catE l := eq_of_bl (by rw [e0]; simp)
  have hq : (feedQ (newR false) (catE l)).ms = l ∧ (feedQ (newR false) (catE l)).wrong = -1 := by
    unfold feedQ
    rw [el]
    have := steps_all l ((newR false).left.size + (catE l).size + 1) { newR false with left := catE l } hv rfl rfl hs (by show (catE l).size < _; omega)
    exact ⟨this.1.trans rfl, this.2⟩
  have z0 : (newR false).left.size = 0 := rfl
  have z1 : (newR false).bytes = 0 := rfl
  unfold feedR
  rw [if_neg (by omega), if_neg (by show ¬ (0 : Int) ≤ -1; omega), if_neg (by rw [z0, z1]; omega)]
  simp only [hq.2]
  exact ⟨by rw [if_neg (by omega)], hq.1⟩
theorem next_ok {r : Rdr} {B : Nat} (h : r.Ok B) : (nextR r).1.Ok B := by
  obtain ⟨h1, h2, h3, h4, h5, h6, h7, h8⟩ := h
  obtain ⟨ms, zs, b, g, hh, t, l, d, wr⟩ := r
  match ms, zs, h2 with
  | [], zs, h2 => exact ⟨h1, h2, h3, h4, h5, h6, h7, h8⟩
  | m :: ms, z :: zs, h2 =>
    simp only at h3 h4 h5 h6 h7 h8
    have hz := h4 z (List.mem_cons_self ..)
    rw [List.sum_cons] at h3
    refine ⟨h1, (by have := h2; simp only [List.length_cons] at this; show zs.length = ms.length; omega), by show b - z = zs.sum; omega, fun x hx => h4 x (List.mem_cons_of_mem _ hx), ?_, h6, ?_, h8⟩
    · show b - z + l.size ≤ B; omega
    · show 4 * ms.length + l.size ≤ B
      simp only [List.length_cons] at h7; omega
/-- How long the bytes of a message are. -/
theorem body_small {k i1 i2 i3 i4 i5 : Int} {root data : ByteArray} (h : VForm k i1 i2 i3 i4 i5 root data) : (bodyS k i1 i2 i3 i4 i5 root data).size ≤ data.size + 80 := by
  have e0 : E0.size = 0 := rfl
  have hx : ∀ (a b : Nat) (s : ByteArray), (s.extract a b).size ≤ s.size := fun a b s => by rw [ByteArray.size_extract]; omega
  have hr : root.size ≤ 32 := by
    rcases h with h | h | h | h | h | h | h | h | h
    all_goals first | (have : root = E0 := by simp only [h]); (rw [this]; omega) | omega
  have h2 := hx 2 4 (b4 i1)
  have h3 := hx 3 4 (b4 i1)
  have hb : ∀ x, (b4 x).size = 4 := fun x => rfl
  unfold bodyS
  split
  · show (b4 i1).size ≤ _; rw [hb]; omega
  split
  · omega
  split
  · show (b4 i1 ++ b4 i2 ++ b4 i3).size ≤ _; simp only [ByteArray.size_append, hb]; omega
  split
  · show (b4 i1 ++ b4 i2 ++ data).size ≤ _; simp only [ByteArray.size_append, hb]; omega
  split
  · show ((b4 i1).extract 2 4).size ≤ _; rw [hb] at h2; omega
  split
  · show ((b4 i1).extract 3 4 ++ data).size ≤ _; rw [hb] at h3; rw [ByteArray.size_append]; omega
  split
  · show (root ++ b4 i4 ++ b4 i1 ++ b4 i3 ++ b4 i5 ++ data).size ≤ _; simp only [ByteArray.size_append, hb]; omega
  · show (0 : Nat) ≤ _; omega
theorem enc_small {m : M} (h : (encT m).2 = 0) : (encT m).1.size ≤ m.data.size + 85 := by
  obtain ⟨k, i1, i2, i3, i4, i5, root, data⟩ := m
  rw [← encS_eq] at h ⊢
  unfold encS at h ⊢
  by_cases hv : validP ⟨k, i1, i2, i3, i4, i5, root, data⟩ = true
  · have hf := (validP_form k i1 i2 i3 i4 i5 root data).1 hv
    have hb := body_small hf
    simp only [if_pos hv]
    by_cases hk : k = 1
    · simp only [if_pos hk]; show (4 : Nat) ≤ _ + 85; omega
    · simp only [if_neg hk]
      show (b4 _ ++ ((⟨[_].toArray⟩ : ByteArray) ++ _)).size ≤ _
      rw [ByteArray.size_append, ByteArray.size_append, b4_size]
      show 4 + (1 + _) ≤ data.size + 85
      omega
  · simp only [if_neg hv] at h
    exact absurd h (by decide)
def dsum (l : List M) : Nat := (l.map fun m => m.data.size).sum
theorem catE_small : ∀ {l : List M}, (∀ m ∈ l, (encT m).2 = 0) → (catE l).size ≤ dsum l + 85 * l.length
  | [], _ => by show (0 : Nat) ≤ _; omega
  | m :: l, h => by
    have h1 := enc_small (h m (List.mem_cons_self ..))
    have h2 := catE_small (l := l) (fun x hx => h x (List.mem_cons_of_mem _ hx))
    have e : dsum (m :: l) = m.data.size + dsum l := by unfold dsum; simp
    rw [catE, ByteArray.size_append, e, List.length_cons]; omega
theorem dsum_next {l : List M} {i : Nat} {m : M} (h : l[i]? = some m) : dsum (l.take (i + 1)) = dsum (l.take i) + m.data.size := by
  obtain ⟨hi, rfl⟩ := List.getElem?_eq_some_iff.1 h
  unfold dsum
  rw [List.take_succ_eq_append_getElem hi, List.map_append, List.sum_append]; simp
end Go.Proofs.Ytcjmdkklbbollaa
