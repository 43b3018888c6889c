import Derived.Test.YtibdlnjnomikjaaFk
import Derived.Test.YtibdlnjnomikjaaUp
set_option linter.unusedSimpArgs false
set_option linter.unusedVariables false
namespace Go.Proofs.Ytibdlnjnomikjaa
open Go.RowKit

theorem cl10 : callable Try.prog 10 = true := by kernel_rfl
theorem cl11 : callable Try.prog 11 = true := by kernel_rfl
theorem cl12 : callable Try.prog 12 = true := by kernel_rfl
theorem cl14 : callable Try.prog 14 = true := by kernel_rfl
theorem cl15 : callable Try.prog 15 = true := by kernel_rfl
theorem cl16 : callable Try.prog 16 = true := by kernel_rfl
theorem cl17 : callable Try.prog 17 = true := by kernel_rfl
theorem cl18 : callable Try.prog 18 = true := by kernel_rfl
theorem cl22 : callable Try.prog 22 = true := by kernel_rfl
theorem cl40 : callable Try.prog 40 = true := by kernel_rfl
theorem cl41 : callable Try.prog 41 = true := by kernel_rfl
theorem cl42 : callable Try.prog 42 = true := by kernel_rfl
theorem cl43 : callable Try.prog 43 = true := by kernel_rfl
theorem cl44 : callable Try.prog 44 = true := by kernel_rfl
theorem cl45 : callable Try.prog 45 = true := by kernel_rfl
theorem cl46 : callable Try.prog 46 = true := by kernel_rfl
theorem cl47 : callable Try.prog 47 = true := by kernel_rfl
theorem cl48 : callable Try.prog 48 = true := by kernel_rfl
theorem cl49 : callable Try.prog 49 = true := by kernel_rfl
theorem cl50 : callable Try.prog 50 = true := by kernel_rfl
theorem cl51 : callable Try.prog 51 = true := by kernel_rfl
theorem cl52 : callable Try.prog 52 = true := by kernel_rfl
theorem eqgTr : Try.prog.eqGuardType Try.prog.depth 34 = false := by kernel_rfl
theorem tr_eq {xo yo : Operand} {w : World} {a b c d : Int} : Bin Try.prog .eql 34 xo yo (.agg #[.int .i64 a, .int .i64 b, .int .i64 c, .int .i64 d]) (.agg #[.int .i64 a, .int .i64 b, .int .i64 c, .int .i64 d]) w (.bool (decide True)) := by
  unfold Bin
  simp only [Sem.run_bind, run_eqGuard_agg w .eql 34 xo yo #[.int .i64 a, .int .i64 b, .int .i64 c, .int .i64 d] #[.int .i64 a, .int .i64 b, .int .i64 c, .int .i64 d] eqgTr, Result.andThen_ok]
  simp [go_sem]
section
variable {X : TM} {Z : RT} {A : PS} {g j : Nat} {w : World} {n iv q : Int} {s : ByteArray}
theorem next_gx (hX : X.ok j) (hg : X.g = g) (hA : X.A = A) (w : World) (HS : S w [X.I]) : Calls Try.prog 11 #[.pointer (some ⟨g, 0, none⟩), .int .i64 n] w fun e w' => ∃ Y : TM, Y.g = g ∧ Y.ok j ∧ Y.A = nextA A n ∧ e = .returned (.tuple #[.agg #[.int .i64 (nextV A n).1, .int .i64 (nextV A n).2.1, .int .i64 (nextV A n).2.2.1, .int .i64 (nextV A n).2.2.2], .int .i64 (nextE A n)]) ∧ S w' ([Y.I] ++ [Old w (fps [X.I])]) := by
  subst hg; subst hA; exact next_x hX w HS
theorem next_gr (hX : PI j Z.A) (hg : Z.g = g) (hA : Z.A = A) (w : World) (HS : S w [Z.I]) : Calls Try.prog 48 #[.pointer (some ⟨g, 0, none⟩), .int .i64 n] w fun e w' => ∃ Y : RT, Y.g = g ∧ PI j Y.A ∧ Y.A = nextA A n ∧ e = .returned (.tuple #[.agg #[.int .i64 (nextV A n).1, .int .i64 (nextV A n).2.1, .int .i64 (nextV A n).2.2.1, .int .i64 (nextV A n).2.2.2], .int .i64 (nextE A n)]) ∧ S w' ([Y.I] ++ [Old w (fps [Z.I])]) := by
  subst hg; subst hA; exact next_rx hX w HS
theorem when_gx (hX : X.ok j) (hg : X.g = g) (hA : X.A = A) (w : World) (HS : S w [X.I]) : Calls Try.prog 10 #[.pointer (some ⟨g, 0, none⟩), .int .i64 n] w fun e w' => ∃ Y : TM, Y.g = g ∧ Y.ok j ∧ Y.A = whenA A n ∧ e = .returned (.tuple #[.int .i64 (whenV A n), .int .i64 (whenE A n)]) ∧ S w' ([Y.I] ++ [Old w (fps [X.I])]) := by
  subst hg; subst hA; exact when_x hX w HS
theorem when_gr (hX : PI j Z.A) (hg : Z.g = g) (hA : Z.A = A) (w : World) (HS : S w [Z.I]) : Calls Try.prog 47 #[.pointer (some ⟨g, 0, none⟩), .int .i64 n] w fun e w' => ∃ Y : RT, Y.g = g ∧ PI j Y.A ∧ Y.A = whenA A n ∧ e = .returned (.tuple #[.int .i64 (whenV A n), .int .i64 (whenE A n)]) ∧ S w' ([Y.I] ++ [Old w (fps [Z.I])]) := by
  subst hg; subst hA; exact when_rx hX w HS
theorem answer_gx (hX : X.ok j) (hg : X.g = g) (hA : X.A = A) (w : World) (HS : S w [X.I]) : Calls Try.prog 15 #[.pointer (some ⟨g, 0, none⟩), .int .i64 n, .int .i64 iv] w fun e w' => ∃ Y : TM, Y.g = g ∧ Y.ok (j + 1) ∧ Y.A = answerA A n iv ∧ e = .returned (.int .i64 (answerE A n iv)) ∧ S w' ([Y.I] ++ [Old w (fps [X.I])]) := by
  subst hg; subst hA; exact answer_x hX w HS
theorem answer_gr (hX : PI j Z.A) (hg : Z.g = g) (hA : Z.A = A) (w : World) (HS : S w [Z.I]) : Calls Try.prog 40 #[.pointer (some ⟨g, 0, none⟩), .int .i64 n, .int .i64 iv] w fun e w' => ∃ Y : RT, Y.g = g ∧ PI (j + 1) Y.A ∧ Y.A = answerA A n iv ∧ e = .returned (.int .i64 (answerE A n iv)) ∧ S w' ([Y.I] ++ [Old w (fps [Z.I])]) := by
  subst hg; subst hA; exact answer_rx hX w HS
theorem fail_gx (hX : X.ok j) (hg : X.g = g) (hA : X.A = A) (hj : j ≤ 1000) (w : World) (HS : S w [X.I]) : Calls Try.prog 14 #[.pointer (some ⟨g, 0, none⟩), .int .i64 n] w fun e w' => ∃ Y : TM, Y.g = g ∧ Y.ok (j + 1) ∧ Y.A = failA A n ∧ e = .returned (.int .i64 (failE A n)) ∧ S w' ([Y.I] ++ [Old w (fps [X.I])]) := by
  subst hg; subst hA; exact fail_x hX hj w HS
theorem fail_gr (hX : PI j Z.A) (hg : Z.g = g) (hA : Z.A = A) (hj : j ≤ 1000) (w : World) (HS : S w [Z.I]) : Calls Try.prog 41 #[.pointer (some ⟨g, 0, none⟩), .int .i64 n] w fun e w' => ∃ Y : RT, Y.g = g ∧ PI (j + 1) Y.A ∧ Y.A = failA A n ∧ e = .returned (.int .i64 (failE A n)) ∧ S w' ([Y.I] ++ [Old w (fps [Z.I])]) := by
  subst hg; subst hA; exact fail_rx hX hj w HS
theorem done_gx (hX : X.ok j) (hg : X.g = g) (hA : X.A = A) (w : World) (HS : S w [X.I]) : Calls Try.prog 17 #[.pointer (some ⟨g, 0, none⟩)] w fun e w' => ∃ Y : TM, Y.g = g ∧ Y.ok j ∧ Y.A = doneA A ∧ e = .returned (.int .i64 (doneE A)) ∧ S w' ([Y.I] ++ [Old w (fps [X.I])]) := by
  subst hg; subst hA; exact done_x hX w HS
theorem done_gr (hX : PI j Z.A) (hg : Z.g = g) (hA : Z.A = A) (w : World) (HS : S w [Z.I]) : Calls Try.prog 42 #[.pointer (some ⟨g, 0, none⟩)] w fun e w' => ∃ Y : RT, Y.g = g ∧ PI j Y.A ∧ Y.A = doneA A ∧ e = .returned (.int .i64 (doneE A)) ∧ S w' ([Y.I] ++ [Old w (fps [Z.I])]) := by
  subst hg; subst hA; exact done_rx hX w HS
theorem stop_gx (hX : X.ok j) (hg : X.g = g) (hA : X.A = A) (w : World) (HS : S w [X.I]) : Calls Try.prog 18 #[.pointer (some ⟨g, 0, none⟩)] w fun e w' => ∃ Y : TM, Y.g = g ∧ Y.ok j ∧ Y.A = stopA A ∧ e = .returned (.int .i64 (stopE A)) ∧ S w' ([Y.I] ++ [Old w (fps [X.I])]) := by
  subst hg; subst hA; exact stop_x hX w HS
theorem stop_gr (hX : PI j Z.A) (hg : Z.g = g) (hA : Z.A = A) (w : World) (HS : S w [Z.I]) : Calls Try.prog 43 #[.pointer (some ⟨g, 0, none⟩)] w fun e w' => ∃ Y : RT, Y.g = g ∧ PI j Y.A ∧ Y.A = stopA A ∧ e = .returned (.int .i64 (stopE A)) ∧ S w' ([Y.I] ++ [Old w (fps [Z.I])]) := by
  subst hg; subst hA; exact stop_rx hX w HS
theorem start_gx (hX : X.ok j) (hg : X.g = g) (hA : X.A = A) (w : World) (HS : S w [X.I]) : Calls Try.prog 16 #[.pointer (some ⟨g, 0, none⟩)] w fun e w' => ∃ Y : TM, Y.g = g ∧ Y.ok j ∧ Y.A = startA A ∧ e = .returned (.int .i64 (startE A)) ∧ S w' ([Y.I] ++ [Old w (fps [X.I])]) := by
  subst hg; subst hA; exact start_x hX w HS
theorem start_gr (hX : PI j Z.A) (hg : Z.g = g) (hA : Z.A = A) (w : World) (HS : S w [Z.I]) : Calls Try.prog 44 #[.pointer (some ⟨g, 0, none⟩)] w fun e w' => ∃ Y : RT, Y.g = g ∧ PI j Y.A ∧ Y.A = startA A ∧ e = .returned (.int .i64 (startE A)) ∧ S w' ([Y.I] ++ [Old w (fps [Z.I])]) := by
  subst hg; subst hA; exact start_rx hX w HS
theorem add_gx (hX : X.ok j) (hg : X.g = g) (hA : X.A = A) (w : World) (HS : S w [X.I]) : Calls Try.prog 45 #[.pointer (some ⟨g, 0, none⟩), .int .i64 q, .string s] w fun e w' => ∃ Y : TM, Y.g = g ∧ Y.ok j ∧ Y.A = addA A q s ∧ e = .returned (.int .i64 (addE A q s)) ∧ S w' ([Y.I] ++ [Old w (fps [X.I])]) := by
  subst hg; subst hA; exact add_x hX w HS
theorem add_gr (hX : PI j Z.A) (hg : Z.g = g) (hA : Z.A = A) (w : World) (HS : S w [Z.I]) : Calls Try.prog 46 #[.pointer (some ⟨g, 0, none⟩), .int .i64 q, .string s] w fun e w' => ∃ Y : RT, Y.g = g ∧ PI j Y.A ∧ Y.A = addA A q s ∧ e = .returned (.int .i64 (addE A q s)) ∧ S w' ([Y.I] ++ [Old w (fps [Z.I])]) := by
  subst hg; subst hA; exact add_rx hX w HS
theorem order_gx (hX : X.ok j) (hg : X.g = g) (hA : X.A = A) (w : World) (HS : S w [X.I]) : Calls Try.prog 12 #[.pointer (some ⟨g, 0, none⟩), .int .i64 q] w fun e w' => ∃ p c, e = .returned (.tuple #[.slice p (orderV A q).length c, .int .i64 (orderE A q)]) ∧ S w' ([Rw 9 1 p (orderV A q).length c (fl strL (orderV A q)), X.I] ++ [Old w (fps [X.I])]) := by
  subst hg; subst hA; exact order_x hX w HS
theorem failed_gx (hX : X.ok j) (hg : X.g = g) (hA : X.A = A) (w : World) (HS : S w [X.I]) : Calls Try.prog 51 #[.pointer (some ⟨g, 0, none⟩), .string s] w fun e w' => e = .returned (.tuple #[.int .i64 (failedV A s), .int .i64 (failedE A s)]) ∧ S w' ([X.I] ++ [Old w (fps [X.I])]) := by
  subst hg; subst hA; exact failed_x hX w HS
theorem order_gr (hX : PI j Z.A) (hg : Z.g = g) (hA : Z.A = A) (w : World) (HS : S w [Z.I]) : Calls Try.prog 50 #[.pointer (some ⟨g, 0, none⟩), .int .i64 q] w fun e w' => ∃ p c, e = .returned (.tuple #[.slice p (orderV A q).length c, .int .i64 (orderE A q)]) ∧ S w' ([Rw 9 1 p (orderV A q).length c (fl strL (orderV A q)), Z.I] ++ [Old w (fps [Z.I])]) := by
  subst hg; subst hA; exact order_rx hX w HS
theorem failed_gr (hX : PI j Z.A) (hg : Z.g = g) (hA : Z.A = A) (w : World) (HS : S w [Z.I]) : Calls Try.prog 52 #[.pointer (some ⟨g, 0, none⟩), .string s] w fun e w' => e = .returned (.tuple #[.int .i64 (failedV A s), .int .i64 (failedE A s)]) ∧ S w' ([Z.I] ++ [Old w (fps [Z.I])]) := by
  subst hg; subst hA; exact failed_rx hX w HS
theorem tiers_gr (hX : PI j Z.A) (hg : Z.g = g) (hA : Z.A = A) (w : World) (HS : S w [Z.I]) : Calls Try.prog 49 #[.pointer (some ⟨g, 0, none⟩)] w fun e w' => e = .returned (.int .i64 (A.T.length : Int)) ∧ S w' ([Z.I] ++ [Old w (fps [Z.I])]) := by
  subst hg; subst hA; exact tiers_rx hX w HS
theorem order_len (hX : PI j A) (q : Int) : (orderV A q).length ≤ 20 := by
  unfold orderV
  split
  · rw [List.length_map]
    rw [List.getD_eq_getElem?_getD]
    cases h : A.T[q.toNat]? with
    | none => exact Nat.zero_le _
    | some r => exact (hX.ti.lens r (List.mem_of_getElem? h)).2
  · exact Nat.zero_le _
end
set_option maxRecDepth 20000 in
set_option maxHeartbeats 4000000 in
theorem sameL (l : List ByteArray) (hl : l.length ≤ 1000) (p : Option Addr) (c : Nat) (q : Option Addr) (d : Nat)  (w : World) (hr : Reads w p l.length c 1 (fl strL l)) (hq : Reads w q l.length d 1 (fl strL l)) : Calls Try.prog 22 #[.slice p l.length c, .slice q l.length d] w fun e w' => e = .returned (.bool true) ∧ S w' [Old w no] := by
 have H0 := S.old w
 refine enter 26 Try.func22 rfl rfl rfl ?_
 refine g_weak [(0, .slice p l.length c), (1, .slice q l.length d)] ⟨rfl, rfl, trivial⟩ ?_
 refine w_s ?_
 refine w_a ?_
 refine w_e ?_
 refine g_seq ?_
 refine w_s ?_
 refine w_m ?_
 refine w_v (v := .int .i64 ((l.length : Int))) (x_lenl rfl rfl Try.underlying37) ?_
 refine w_m ?_
 refine w_v (v := .int .i64 ((l.length : Int))) (x_lenl rfl rfl Try.underlying37) ?_
 refine w_b (v := .bool (!decide (((l.length : Int) : Int) = (l.length : Int)))) (hb := b_neq) ?_
 refine w_e ?_
 refine g_cond_f rfl (nf rfl) ?_
 refine g_skip ?_
 refine g_then ?_
 refine g_seq ?_
 refine w_s ?_
 refine w_m ?_
 refine w_v (v := .int .i64 ((l.length : Int))) (x_lenl rfl rfl Try.underlying37) ?_
 refine w_m ?_
 refine w_e ?_
 refine g_block ?_
 refine g_loop (ι := Nat) (fun k => [(0, .slice p l.length c), (1, .slice q l.length d), (12, .int .i64 ((l.length : Int))), (13, .int .i64 ((k : Int)))]) (fun k wx => (k ≤ l.length) ∧ S wx [Old w no]) (fun k => l.length - k) (0) ⟨rfl, rfl, rfl, rfl, trivial⟩ ⟨Nat.zero_le _, H0⟩ ?_
 rintro k wq1 ⟨hk, H2⟩
 refine g_weak [(0, .slice p l.length c), (1, .slice q l.length d), (12, .int .i64 ((l.length : Int))), (13, .int .i64 ((k : Int)))] ⟨rfl, rfl, rfl, rfl, trivial⟩ ?_
 refine w_s ?_
 refine w_b ?_
 refine w_e ?_
 refine g_seq ?_
 by_cases hb3 : ((k : Int) : Int) < (l.length : Int)
 ·
  refine g_cond_t rfl (decide_eq_true hb3) ?_
  refine g_skip ?_
  refine g_then ?_
  refine g_seq ?_
  refine g_block ?_
  refine w_s ?_
  refine w_r2 ?_
  refine w_e ?_
  refine g_seq ?_
  refine g_quiet (by kernel_rfl) (by kernel_rfl) H2 ?_
  refine q_val (v := .slice p l.length c) (wt0 rfl) rfl rfl (fun wx H => x_move rfl rfl) ?_
  refine q_val (v := .int .i64 ((k : Int))) (wt0 rfl) rfl rfl (fun wx H => x_move rfl rfl) ?_
  refine q_val (v := .pointer ((p).map fun q => q.add (k * 1))) (wt0 rfl) rfl rfl (fun wx H => x_idxP k ((H2.oldReads (k := 0) rfl hr).some (by omega)) rfl rfl rfl Try.underlying37 sz9 (by omega)) ?_
  have hlq := (H2.oldReads (k := 0) rfl hr).lenL strE
  obtain ⟨x4, hx4⟩ := ex_at (l := l) (j := k) (by omega)
  clear hlq
  refine q_val (v := .string x4) (wt0 rfl) rfl rfl (fun wx H => x_loadR1 k (H.oldReads (k := 0) rfl hr) (by omega) rfl rfl Try.underlying9 rfl (strE.flAt1 hx4 rfl)) ?_
  refine q_val (v := .slice q l.length d) (wt0 rfl) rfl rfl (fun wx H => x_move rfl rfl) ?_
  refine q_val (v := .int .i64 ((k : Int))) (wt0 rfl) rfl rfl (fun wx H => x_move rfl rfl) ?_
  refine q_val (v := .pointer ((q).map fun q => q.add (k * 1))) (wt0 rfl) rfl rfl (fun wx H => x_idxP k ((H2.oldReads (k := 0) rfl hq).some (by omega)) rfl rfl rfl Try.underlying37 sz9 (by omega)) ?_
  refine q_val (v := .string x4) (wt0 rfl) rfl rfl (fun wx H => x_loadR1 k (H.oldReads (k := 0) rfl hq) (by omega) rfl rfl Try.underlying9 rfl (strE.flAt1 hx4 rfl)) ?_
  refine q_val (v := .bool (!decide (x4 = x4))) (wt0 rfl) rfl rfl (fun wx H => x_bin rfl rfl rfl b_nes) ?_
  refine q_nil (fun wq5 H6 => ?_)
  refine g_then ?_
  refine g_cond_f rfl (nf rfl) ?_
  refine g_skip ?_
  refine g_in ?_
  refine g_then ?_
  refine g_weak [(0, .slice p l.length c), (1, .slice q l.length d), (12, .int .i64 ((l.length : Int))), (13, .int .i64 ((k : Int)))] ⟨rfl, rfl, rfl, rfl, trivial⟩ ?_
  refine g_region ?_
  refine w_b (v := .int .i64 (((k + 1 : Nat) : Int))) (hb := (b_add (by rw [w64 (by omega)]; omega))) ?_
  refine w_m ?_
  refine w_e ?_
  refine g_round (i := (k)) ((k + 1)) ?_ ?_ ?_
  · exact ⟨rfl, rfl, rfl, rfl, trivial⟩
  · exact ⟨by omega, H6⟩
  · (try dsimp only); omega
 ·
  refine g_cond_f rfl (decide_eq_false hb3) ?_
  refine g_exit ?_
  refine g_then_exit ?_
  refine g_then_exit ?_
  refine g_in_hit ?_
  refine g_then ?_
  refine w_s ?_
  refine w_a ?_
  refine w_e ?_
  refine g_ret ?_
  refine fin_ret [.tmp 4] [.bool true] rfl ⟨rfl, trivial⟩ ?_
  exact ⟨rfl, H2.mask [true]⟩
set_option maxRecDepth 20000 in
set_option maxHeartbeats 4000000 in
theorem do_s {X : TM} {Z : RT} {A : PS} {g h j : Nat} (hXo : X.ok j) (hXg : X.g = g) (hXA : X.A = A) (hZo : PI j Z.A) (hZg : Z.g = h) (hZA : Z.A = A) (hj : j ≤ 1000) {n kd lt iv tr : Int} {s : ByteArray}  (w : World) (HS : S w [X.I, Z.I]) : Calls Try.prog 20 #[.pointer (some ⟨g, 0, none⟩), .pointer (some ⟨h, 0, none⟩), .int .i64 n, .agg #[.int .i64 kd, .int .i64 lt, .int .i64 iv, .int .i64 tr, .string s]] w fun e w' => ∃ (X' : TM) (Z' : RT) (A' : PS), X'.g = g ∧ X'.ok (j + 1) ∧ X'.A = A' ∧ Z'.g = h ∧ PI (j + 1) Z'.A ∧ Z'.A = A' ∧ e = .returned (.bool true) ∧ S w' ([X'.I, Z'.I] ++ [Old w (fps [X.I, Z.I])]) := by
 have H0 := HS.beginI
 refine enter 123 Try.func20 rfl rfl rfl ?_
 refine g_weak [(0, .pointer (some ⟨g, 0, none⟩)), (1, .pointer (some ⟨h, 0, none⟩)), (2, .int .i64 n), (3, .agg #[.int .i64 kd, .int .i64 lt, .int .i64 iv, .int .i64 tr, .string s])] ⟨rfl, rfl, rfl, rfl, trivial⟩ ?_
 refine w_s ?_
 refine l_of (s_box H0 (wt0 rfl) rfl rfl rfl rfl ?_)
 intro g1 wq2 H3
 refine w_a ?_
 refine w_e ?_
 refine g_seq ?_
 refine w_s ?_
 refine w_f 0 ?_
 refine w_1 H3 0 ?_
 refine w_e ?_
 refine g_block ?_
 refine g_seq ?_
 refine w_s ?_
 refine w_b ?_
 refine w_a ?_
 refine w_e ?_
 by_cases hb4 : (kd : Int) = 1
 ·
  refine g_cond_t rfl (decide_eq_true hb4) ?_
  refine g_skip ?_
  refine g_then ?_
  refine g_cond_t rfl (decide_eq_true hb4) ?_
  refine g_seq ?_
  refine g_any [] (fun wx => S wx [Ob g1 (.cells #[.int .i64 kd, .int .i64 lt, .int .i64 iv, .int .i64 tr, .string s] 52 (0, 0))]) [] (by kernel_rfl) H3 (fun wq5 H6 => ?_)
  have cm1 := H6.mask [true, false, false, false]
  refine w_t 0 rfl cm1 (fun _ _ => xm) ?_
  refine w_t 1 rfl cm1 (fun _ _ => xm) ?_
  refine w_t 2 rfl cm1 (fun _ _ => xf 2) ?_
  refine w_t 3 rfl cm1 (fun _ H => xl H 0) ?_
  refine w_t 5 rfl cm1 (fun _ _ => xm) ?_
  refine w_t 6 rfl cm1 (fun _ _ => xm) ?_
  refine w_t 7 rfl cm1 (fun _ _ => xf 2) ?_
  refine w_t 8 rfl cm1 (fun _ H => xl H 0) ?_
  refine a_one (i := 4) (by kernel_rfl) rfl ?_
  refine s_call (wt0 rfl) (x_call' rfl rfl cl15) (answer_gx (n := n) (iv := iv) hXo hXg hXA _ (H6.takes [1] (by decide))) ?_
  rintro _ wq11 ⟨Y7, hYg8, hYo9, hYA10, rfl, H12⟩
  replace H12 : S wq11 [Y7.I, Ob g1 (.cells #[.int .i64 kd, .int .i64 lt, .int .i64 iv, .int .i64 tr, .string s] 52 (0, 0)), Z.I, Old w (fps [X.I, Z.I])] := by have h := H6.absorbI [1] H12; exact h
  refine b_ret rfl rfl ?_
  refine a_k (H12.mask [false, true, false, false]) ?_
  refine a_one (i := 9) (by kernel_rfl) rfl ?_
  refine s_call (wt0 rfl) (x_call' rfl rfl cl40) (answer_gr (n := n) (iv := iv) hZo hZg hZA _ (H12.takes [2] (by decide))) ?_
  rintro _ wq17 ⟨Y13, hYg14, hYo15, hYA16, rfl, H18⟩
  replace H18 : S wq17 [Y13.I, Y7.I, Ob g1 (.cells #[.int .i64 kd, .int .i64 lt, .int .i64 iv, .int .i64 tr, .string s] 52 (0, 0)), Old w (fps [X.I, Z.I])] := by have h := H12.absorbI [2] H18; exact h
  refine b_ret rfl rfl ?_
  have cm2 := H18.mask [false, false, true, false]
  refine a_k cm2 ?_
  refine w_t 10 rfl cm2 (fun _ _ => x_bin rfl rfl rfl b_eql) ?_
  refine w_t 11 rfl cm2 (fun _ _ => xa) ?_
  refine a_done (by kernel_rfl) ?_
  refine g_then ?_
  refine g_weak [(8, .bool (decide (((answerE A n iv) : Int) = (answerE A n iv))))] ⟨rfl, trivial⟩ ?_
  refine g_ret ?_
  refine g_in_ret ?_
  refine g_then_ret ?_
  refine fin_ret [.tmp 8] [.bool (decide (((answerE A n iv) : Int) = (answerE A n iv)))] rfl ⟨rfl, trivial⟩ ?_
  exact ⟨Y7, Y13, (answerA A n iv), hYg8, hYo9, hYA10, hYg14, hYo15, hYA16, by simp [tupled], H18.takes [1, 0, 3] (by decide)⟩
 ·
  refine g_cond_f rfl (decide_eq_false hb4) ?_
  refine w_s ?_
  refine w_b ?_
  refine w_a ?_
  refine w_e ?_
  by_cases hb19 : (kd : Int) = 2
  ·
   refine g_cond_t rfl (decide_eq_true hb19) ?_
   refine g_skip ?_
   refine g_then ?_
   refine g_cond_t rfl (decide_eq_true hb19) ?_
   refine g_seq ?_
   refine g_any [] (fun wx => S wx [Ob g1 (.cells #[.int .i64 kd, .int .i64 lt, .int .i64 iv, .int .i64 tr, .string s] 52 (0, 0))]) [] (by kernel_rfl) H3 (fun wq20 H21 => ?_)
   have cm3 := H21.mask [true, false, false, false]
   refine w_t 0 rfl cm3 (fun _ _ => xm) ?_
   refine w_t 1 rfl cm3 (fun _ _ => xm) ?_
   refine w_t 2 rfl cm3 (fun _ _ => xf 2) ?_
   refine w_t 3 rfl cm3 (fun _ H => xl H 0) ?_
   refine w_t 5 rfl cm3 (fun _ _ => xm) ?_
   refine w_t 6 rfl cm3 (fun _ _ => xm) ?_
   refine w_t 7 rfl cm3 (fun _ _ => xf 2) ?_
   refine w_t 8 rfl cm3 (fun _ H => xl H 0) ?_
   refine a_one (i := 4) (by kernel_rfl) rfl ?_
   refine s_call (wt0 rfl) (x_call' rfl rfl cl15) (answer_gx (n := n) (iv := iv) hXo hXg hXA _ (H21.takes [1] (by decide))) ?_
   rintro _ wq26 ⟨Y22, hYg23, hYo24, hYA25, rfl, H27⟩
   replace H27 : S wq26 [Y22.I, Ob g1 (.cells #[.int .i64 kd, .int .i64 lt, .int .i64 iv, .int .i64 tr, .string s] 52 (0, 0)), Z.I, Old w (fps [X.I, Z.I])] := by have h := H21.absorbI [1] H27; exact h
   refine b_ret rfl rfl ?_
   refine a_k (H27.mask [false, true, false, false]) ?_
   refine a_one (i := 9) (by kernel_rfl) rfl ?_
   refine s_call (wt0 rfl) (x_call' rfl rfl cl40) (answer_gr (n := n) (iv := iv) hZo hZg hZA _ (H27.takes [2] (by decide))) ?_
   rintro _ wq32 ⟨Y28, hYg29, hYo30, hYA31, rfl, H33⟩
   replace H33 : S wq32 [Y28.I, Y22.I, Ob g1 (.cells #[.int .i64 kd, .int .i64 lt, .int .i64 iv, .int .i64 tr, .string s] 52 (0, 0)), Old w (fps [X.I, Z.I])] := by have h := H27.absorbI [2] H33; exact h
   refine b_ret rfl rfl ?_
   have cm4 := H33.mask [false, false, true, false]
   refine a_k cm4 ?_
   refine w_t 10 rfl cm4 (fun _ _ => x_bin rfl rfl rfl b_eql) ?_
   refine w_t 11 rfl cm4 (fun _ _ => xa) ?_
   refine a_done (by kernel_rfl) ?_
   refine g_then ?_
   refine g_weak [(8, .bool (decide (((answerE A n iv) : Int) = (answerE A n iv))))] ⟨rfl, trivial⟩ ?_
   refine g_ret ?_
   refine g_in_ret ?_
   refine g_then_ret ?_
   refine fin_ret [.tmp 8] [.bool (decide (((answerE A n iv) : Int) = (answerE A n iv)))] rfl ⟨rfl, trivial⟩ ?_
   exact ⟨Y22, Y28, (answerA A n iv), hYg23, hYo24, hYA25, hYg29, hYo30, hYA31, by simp [tupled], H33.takes [1, 0, 3] (by decide)⟩
  ·
   refine g_cond_f rfl (decide_eq_false hb19) ?_
   refine g_region ?_
   refine w_b ?_
   refine w_a ?_
   refine w_e ?_
   by_cases hb34 : (kd : Int) = 3
   ·
    refine g_cond_t rfl (decide_eq_true hb34) ?_
    refine g_seq ?_
    refine g_any [] (fun wx => S wx [Ob g1 (.cells #[.int .i64 kd, .int .i64 lt, .int .i64 iv, .int .i64 tr, .string s] 52 (0, 0))]) [] (by kernel_rfl) H3 (fun wq35 H36 => ?_)
    have cm5 := H36.mask [true, false, false, false]
    refine w_t 0 rfl cm5 (fun _ _ => xm) ?_
    refine w_t 1 rfl cm5 (fun _ _ => xm) ?_
    refine w_t 2 rfl cm5 (fun _ _ => xf 2) ?_
    refine w_t 3 rfl cm5 (fun _ H => xl H 0) ?_
    refine w_t 5 rfl cm5 (fun _ _ => xm) ?_
    refine w_t 6 rfl cm5 (fun _ _ => xm) ?_
    refine w_t 7 rfl cm5 (fun _ _ => xf 2) ?_
    refine w_t 8 rfl cm5 (fun _ H => xl H 0) ?_
    refine a_one (i := 4) (by kernel_rfl) rfl ?_
    refine s_call (wt0 rfl) (x_call' rfl rfl cl15) (answer_gx (n := n) (iv := iv) hXo hXg hXA _ (H36.takes [1] (by decide))) ?_
    rintro _ wq41 ⟨Y37, hYg38, hYo39, hYA40, rfl, H42⟩
    replace H42 : S wq41 [Y37.I, Ob g1 (.cells #[.int .i64 kd, .int .i64 lt, .int .i64 iv, .int .i64 tr, .string s] 52 (0, 0)), Z.I, Old w (fps [X.I, Z.I])] := by have h := H36.absorbI [1] H42; exact h
    refine b_ret rfl rfl ?_
    refine a_k (H42.mask [false, true, false, false]) ?_
    refine a_one (i := 9) (by kernel_rfl) rfl ?_
    refine s_call (wt0 rfl) (x_call' rfl rfl cl40) (answer_gr (n := n) (iv := iv) hZo hZg hZA _ (H42.takes [2] (by decide))) ?_
    rintro _ wq47 ⟨Y43, hYg44, hYo45, hYA46, rfl, H48⟩
    replace H48 : S wq47 [Y43.I, Y37.I, Ob g1 (.cells #[.int .i64 kd, .int .i64 lt, .int .i64 iv, .int .i64 tr, .string s] 52 (0, 0)), Old w (fps [X.I, Z.I])] := by have h := H42.absorbI [2] H48; exact h
    refine b_ret rfl rfl ?_
    have cm6 := H48.mask [false, false, true, false]
    refine a_k cm6 ?_
    refine w_t 10 rfl cm6 (fun _ _ => x_bin rfl rfl rfl b_eql) ?_
    refine w_t 11 rfl cm6 (fun _ _ => xa) ?_
    refine a_done (by kernel_rfl) ?_
    refine g_then ?_
    refine g_weak [(8, .bool (decide (((answerE A n iv) : Int) = (answerE A n iv))))] ⟨rfl, trivial⟩ ?_
    refine g_ret ?_
    refine g_in_ret ?_
    refine g_then_ret ?_
    refine fin_ret [.tmp 8] [.bool (decide (((answerE A n iv) : Int) = (answerE A n iv)))] rfl ⟨rfl, trivial⟩ ?_
    exact ⟨Y37, Y43, (answerA A n iv), hYg38, hYo39, hYA40, hYg44, hYo45, hYA46, by simp [tupled], H48.takes [1, 0, 3] (by decide)⟩
   ·
    refine g_cond_f rfl (decide_eq_false hb34) ?_
    refine g_seq ?_
    refine w_s ?_
    refine w_b ?_
    refine w_a ?_
    refine w_e ?_
    by_cases hb49 : (kd : Int) = 4
    ·
     refine g_cond_t rfl (decide_eq_true hb49) ?_
     refine g_skip ?_
     refine g_then ?_
     refine g_cond_t rfl (decide_eq_true hb49) ?_
     refine w_s ?_
     refine w_r2 ?_
     refine l_of (s_call (wt0 rfl) (x_call' rfl rfl cl14) (fail_gx (n := n) hXo hXg hXA (by omega) _ (H3.takes [1] (by decide))) ?_)
     rintro _ wq54 ⟨Y50, hYg51, hYo52, hYA53, rfl, H55⟩
     replace H55 : S wq54 [Y50.I, Ob g1 (.cells #[.int .i64 kd, .int .i64 lt, .int .i64 iv, .int .i64 tr, .string s] 52 (0, 0)), Z.I, Old w (fps [X.I, Z.I])] := by have h := H3.absorbI [1] H55; exact h
     refine b_ret rfl rfl ?_
     refine w_r2 ?_
     refine l_of (s_call (wt0 rfl) (x_call' rfl rfl cl41) (fail_gr (n := n) hZo hZg hZA (by omega) _ (H55.takes [2] (by decide))) ?_)
     rintro _ wq60 ⟨Y56, hYg57, hYo58, hYA59, rfl, H61⟩
     replace H61 : S wq60 [Y56.I, Y50.I, Ob g1 (.cells #[.int .i64 kd, .int .i64 lt, .int .i64 iv, .int .i64 tr, .string s] 52 (0, 0)), Old w (fps [X.I, Z.I])] := by have h := H55.absorbI [2] H61; exact h
     refine b_ret rfl rfl ?_
     refine w_b ?_
     refine w_a ?_
     refine w_e ?_
     refine g_weak [(8, .bool (decide (((failE A n) : Int) = (failE A n))))] ⟨rfl, trivial⟩ ?_
     refine g_ret ?_
     refine g_in_ret ?_
     refine g_then_ret ?_
     refine fin_ret [.tmp 8] [.bool (decide (((failE A n) : Int) = (failE A n)))] rfl ⟨rfl, trivial⟩ ?_
     exact ⟨Y50, Y56, (failA A n), hYg51, hYo52, hYA53, hYg57, hYo58, hYA59, by simp [tupled], H61.takes [1, 0, 3] (by decide)⟩
    ·
     refine g_cond_f rfl (decide_eq_false hb49) ?_
     refine g_region ?_
     refine w_b ?_
     refine w_a ?_
     refine w_e ?_
     by_cases hb62 : (kd : Int) = 5
     ·
      refine g_cond_t rfl (decide_eq_true hb62) ?_
      refine w_s ?_
      refine w_r2 ?_
      refine l_of (s_call (wt0 rfl) (x_call' rfl rfl cl14) (fail_gx (n := n) hXo hXg hXA (by omega) _ (H3.takes [1] (by decide))) ?_)
      rintro _ wq67 ⟨Y63, hYg64, hYo65, hYA66, rfl, H68⟩
      replace H68 : S wq67 [Y63.I, Ob g1 (.cells #[.int .i64 kd, .int .i64 lt, .int .i64 iv, .int .i64 tr, .string s] 52 (0, 0)), Z.I, Old w (fps [X.I, Z.I])] := by have h := H3.absorbI [1] H68; exact h
      refine b_ret rfl rfl ?_
      refine w_r2 ?_
      refine l_of (s_call (wt0 rfl) (x_call' rfl rfl cl41) (fail_gr (n := n) hZo hZg hZA (by omega) _ (H68.takes [2] (by decide))) ?_)
      rintro _ wq73 ⟨Y69, hYg70, hYo71, hYA72, rfl, H74⟩
      replace H74 : S wq73 [Y69.I, Y63.I, Ob g1 (.cells #[.int .i64 kd, .int .i64 lt, .int .i64 iv, .int .i64 tr, .string s] 52 (0, 0)), Old w (fps [X.I, Z.I])] := by have h := H68.absorbI [2] H74; exact h
      refine b_ret rfl rfl ?_
      refine w_b ?_
      refine w_a ?_
      refine w_e ?_
      refine g_weak [(8, .bool (decide (((failE A n) : Int) = (failE A n))))] ⟨rfl, trivial⟩ ?_
      refine g_ret ?_
      refine g_in_ret ?_
      refine g_then_ret ?_
      refine fin_ret [.tmp 8] [.bool (decide (((failE A n) : Int) = (failE A n)))] rfl ⟨rfl, trivial⟩ ?_
      exact ⟨Y63, Y69, (failA A n), hYg64, hYo65, hYA66, hYg70, hYo71, hYA72, by simp [tupled], H74.takes [1, 0, 3] (by decide)⟩
     ·
      refine g_cond_f rfl (decide_eq_false hb62) ?_
      refine w_s ?_
      refine w_b ?_
      refine w_a ?_
      refine w_e ?_
      by_cases hb75 : (kd : Int) = 6
      ·
       refine g_cond_t rfl (decide_eq_true hb75) ?_
       refine w_s ?_
       refine w_m ?_
       refine l_of (s_call (wt0 rfl) (x_call' rfl rfl cl17) (done_gx hXo hXg hXA _ (H3.takes [1] (by decide))) ?_)
       rintro _ wq80 ⟨Y76, hYg77, hYo78, hYA79, rfl, H81⟩
       replace H81 : S wq80 [Y76.I, Ob g1 (.cells #[.int .i64 kd, .int .i64 lt, .int .i64 iv, .int .i64 tr, .string s] 52 (0, 0)), Z.I, Old w (fps [X.I, Z.I])] := by have h := H3.absorbI [1] H81; exact h
       refine b_ret rfl rfl ?_
       refine w_m ?_
       refine l_of (s_call (wt0 rfl) (x_call' rfl rfl cl42) (done_gr hZo hZg hZA _ (H81.takes [2] (by decide))) ?_)
       rintro _ wq86 ⟨Y82, hYg83, hYo84, hYA85, rfl, H87⟩
       replace H87 : S wq86 [Y82.I, Y76.I, Ob g1 (.cells #[.int .i64 kd, .int .i64 lt, .int .i64 iv, .int .i64 tr, .string s] 52 (0, 0)), Old w (fps [X.I, Z.I])] := by have h := H81.absorbI [2] H87; exact h
       refine b_ret rfl rfl ?_
       refine w_b ?_
       refine w_a ?_
       refine w_e ?_
       refine g_weak [(8, .bool (decide (((doneE A) : Int) = (doneE A))))] ⟨rfl, trivial⟩ ?_
       refine g_ret ?_
       refine g_in_ret ?_
       refine g_then_ret ?_
       refine fin_ret [.tmp 8] [.bool (decide (((doneE A) : Int) = (doneE A)))] rfl ⟨rfl, trivial⟩ ?_
       exact ⟨Y76, Y82, (doneA A), hYg77, ⟨hYo78.pi.mono (Nat.le_succ _), hYo78.cur, hYo78.map⟩, hYA79, hYg83, (hYo84.mono (Nat.le_succ _)), hYA85, by simp [tupled], H87.takes [1, 0, 3] (by decide)⟩
      ·
       refine g_cond_f rfl (decide_eq_false hb75) ?_
       refine w_s ?_
       refine w_b ?_
       refine w_a ?_
       refine w_e ?_
       refine g_weak [(0, .pointer (some ⟨g, 0, none⟩)), (1, .pointer (some ⟨h, 0, none⟩)), (2, .int .i64 n), (7, .pointer (some ⟨g1, 0, none⟩)), (18, .int .i64 kd), (51, .bool (decide ((kd : Int) = 7)))] ⟨rfl, rfl, rfl, rfl, rfl, rfl, trivial⟩ ?_
       by_cases hb88 : (kd : Int) = 7
       ·
        refine g_cond_t rfl (decide_eq_true hb88) ?_
        refine w_s ?_
        refine w_m ?_
        refine l_of (s_call (wt0 rfl) (x_call' rfl rfl cl18) (stop_gx hXo hXg hXA _ (H3.takes [1] (by decide))) ?_)
        rintro _ wq93 ⟨Y89, hYg90, hYo91, hYA92, rfl, H94⟩
        replace H94 : S wq93 [Y89.I, Ob g1 (.cells #[.int .i64 kd, .int .i64 lt, .int .i64 iv, .int .i64 tr, .string s] 52 (0, 0)), Z.I, Old w (fps [X.I, Z.I])] := by have h := H3.absorbI [1] H94; exact h
        refine b_ret rfl rfl ?_
        refine w_m ?_
        refine l_of (s_call (wt0 rfl) (x_call' rfl rfl cl43) (stop_gr hZo hZg hZA _ (H94.takes [2] (by decide))) ?_)
        rintro _ wq99 ⟨Y95, hYg96, hYo97, hYA98, rfl, H100⟩
        replace H100 : S wq99 [Y95.I, Y89.I, Ob g1 (.cells #[.int .i64 kd, .int .i64 lt, .int .i64 iv, .int .i64 tr, .string s] 52 (0, 0)), Old w (fps [X.I, Z.I])] := by have h := H94.absorbI [2] H100; exact h
        refine b_ret rfl rfl ?_
        refine w_b ?_
        refine w_a ?_
        refine w_e ?_
        refine g_ret ?_
        refine g_in_ret ?_
        refine g_then_ret ?_
        refine fin_ret [.tmp 8] [.bool (decide (((stopE A) : Int) = (stopE A)))] rfl ⟨rfl, trivial⟩ ?_
        exact ⟨Y89, Y95, (stopA A), hYg90, ⟨hYo91.pi.mono (Nat.le_succ _), hYo91.cur, hYo91.map⟩, hYA92, hYg96, (hYo97.mono (Nat.le_succ _)), hYA98, by simp [tupled], H100.takes [1, 0, 3] (by decide)⟩
       ·
        refine g_cond_f rfl (decide_eq_false hb88) ?_
        refine w_s ?_
        refine w_b ?_
        refine w_a ?_
        refine w_e ?_
        by_cases hb101 : (kd : Int) = 8
        ·
         refine g_cond_t rfl (decide_eq_true hb101) ?_
         refine w_s ?_
         refine w_m ?_
         refine l_of (s_call (wt0 rfl) (x_call' rfl rfl cl16) (start_gx hXo hXg hXA _ (H3.takes [1] (by decide))) ?_)
         rintro _ wq106 ⟨Y102, hYg103, hYo104, hYA105, rfl, H107⟩
         replace H107 : S wq106 [Y102.I, Ob g1 (.cells #[.int .i64 kd, .int .i64 lt, .int .i64 iv, .int .i64 tr, .string s] 52 (0, 0)), Z.I, Old w (fps [X.I, Z.I])] := by have h := H3.absorbI [1] H107; exact h
         refine b_ret rfl rfl ?_
         refine w_m ?_
         refine l_of (s_call (wt0 rfl) (x_call' rfl rfl cl44) (start_gr hZo hZg hZA _ (H107.takes [2] (by decide))) ?_)
         rintro _ wq112 ⟨Y108, hYg109, hYo110, hYA111, rfl, H113⟩
         replace H113 : S wq112 [Y108.I, Y102.I, Ob g1 (.cells #[.int .i64 kd, .int .i64 lt, .int .i64 iv, .int .i64 tr, .string s] 52 (0, 0)), Old w (fps [X.I, Z.I])] := by have h := H107.absorbI [2] H113; exact h
         refine b_ret rfl rfl ?_
         refine w_b ?_
         refine w_a ?_
         refine w_e ?_
         refine g_weak [(8, .bool (decide (((startE A) : Int) = (startE A))))] ⟨rfl, trivial⟩ ?_
         refine g_ret ?_
         refine g_in_ret ?_
         refine g_then_ret ?_
         refine fin_ret [.tmp 8] [.bool (decide (((startE A) : Int) = (startE A)))] rfl ⟨rfl, trivial⟩ ?_
         exact ⟨Y102, Y108, (startA A), hYg103, ⟨hYo104.pi.mono (Nat.le_succ _), hYo104.cur, hYo104.map⟩, hYA105, hYg109, (hYo110.mono (Nat.le_succ _)), hYA111, by simp [tupled], H113.takes [1, 0, 3] (by decide)⟩
        ·
         refine g_cond_f rfl (decide_eq_false hb101) ?_
         refine w_s ?_
         refine w_b ?_
         refine w_a ?_
         refine w_e ?_
         by_cases hb114 : (kd : Int) = 9
         ·
          refine g_cond_t rfl (decide_eq_true hb114) ?_
          refine g_seq ?_
          refine g_any [] (fun wx => S wx [Ob g1 (.cells #[.int .i64 kd, .int .i64 lt, .int .i64 iv, .int .i64 tr, .string s] 52 (0, 0))]) [] (by kernel_rfl) H3 (fun wq115 H116 => ?_)
          have cm7 := H116.mask [true, false, false, false]
          refine w_t 0 rfl cm7 (fun _ _ => xm) ?_
          refine w_t 1 rfl cm7 (fun _ _ => xf 3) ?_
          refine w_t 2 rfl cm7 (fun _ H => xl H 0) ?_
          refine w_t 3 rfl cm7 (fun _ _ => xf 4) ?_
          refine w_t 4 rfl cm7 (fun _ H => xl H 0) ?_
          refine w_t 6 rfl cm7 (fun _ _ => xm) ?_
          refine w_t 7 rfl cm7 (fun _ _ => xf 3) ?_
          refine w_t 8 rfl cm7 (fun _ H => xl H 0) ?_
          refine w_t 9 rfl cm7 (fun _ _ => xf 4) ?_
          refine w_t 10 rfl cm7 (fun _ H => xl H 0) ?_
          refine a_one (i := 5) (by kernel_rfl) rfl ?_
          refine s_call (wt0 rfl) (x_call' rfl rfl cl45) (add_gx (q := tr) (s := s) hXo hXg hXA _ (H116.takes [1] (by decide))) ?_
          rintro _ wq121 ⟨Y117, hYg118, hYo119, hYA120, rfl, H122⟩
          replace H122 : S wq121 [Y117.I, Ob g1 (.cells #[.int .i64 kd, .int .i64 lt, .int .i64 iv, .int .i64 tr, .string s] 52 (0, 0)), Z.I, Old w (fps [X.I, Z.I])] := by have h := H116.absorbI [1] H122; exact h
          refine b_ret rfl rfl ?_
          refine a_k (H122.mask [false, true, false, false]) ?_
          refine a_one (i := 11) (by kernel_rfl) rfl ?_
          refine s_call (wt0 rfl) (x_call' rfl rfl cl46) (add_gr (q := tr) (s := s) hZo hZg hZA _ (H122.takes [2] (by decide))) ?_
          rintro _ wq127 ⟨Y123, hYg124, hYo125, hYA126, rfl, H128⟩
          replace H128 : S wq127 [Y123.I, Y117.I, Ob g1 (.cells #[.int .i64 kd, .int .i64 lt, .int .i64 iv, .int .i64 tr, .string s] 52 (0, 0)), Old w (fps [X.I, Z.I])] := by have h := H122.absorbI [2] H128; exact h
          refine b_ret rfl rfl ?_
          have cm8 := H128.mask [false, false, true, false]
          refine a_k cm8 ?_
          refine w_t 12 rfl cm8 (fun _ _ => x_bin rfl rfl rfl b_eql) ?_
          refine w_t 13 rfl cm8 (fun _ _ => xa) ?_
          refine a_done (by kernel_rfl) ?_
          refine g_then ?_
          refine g_weak [(8, .bool (decide (((addE A tr s) : Int) = (addE A tr s))))] ⟨rfl, trivial⟩ ?_
          refine g_ret ?_
          refine g_in_ret ?_
          refine g_then_ret ?_
          refine fin_ret [.tmp 8] [.bool (decide (((addE A tr s) : Int) = (addE A tr s)))] rfl ⟨rfl, trivial⟩ ?_
          exact ⟨Y117, Y123, (addA A tr s), hYg118, ⟨hYo119.pi.mono (Nat.le_succ _), hYo119.cur, hYo119.map⟩, hYA120, hYg124, (hYo125.mono (Nat.le_succ _)), hYA126, by simp [tupled], H128.takes [1, 0, 3] (by decide)⟩
         ·
          refine g_cond_f rfl (decide_eq_false hb114) ?_
          refine g_seq ?_
          refine w_s ?_
          refine w_b ?_
          refine w_a ?_
          refine w_e ?_
          by_cases hb129 : (kd : Int) = 10
          ·
           refine g_cond_t rfl (decide_eq_true hb129) ?_
           refine g_skip ?_
           refine g_then ?_
           refine g_cond_t rfl (decide_eq_true hb129) ?_
           refine w_s ?_
           refine w_r2 ?_
           refine l_of (s_call (wt0 rfl) (x_call' rfl rfl cl10) (when_gx (n := n) hXo hXg hXA _ (H3.takes [1] (by decide))) ?_)
           rintro _ wq134 ⟨Y130, hYg131, hYo132, hYA133, rfl, H135⟩
           replace H135 : S wq134 [Y130.I, Ob g1 (.cells #[.int .i64 kd, .int .i64 lt, .int .i64 iv, .int .i64 tr, .string s] 52 (0, 0)), Z.I, Old w (fps [X.I, Z.I])] := by have h := H3.absorbI [1] H135; exact h
           refine b_ret rfl rfl ?_
           refine w_r5 ?_
           refine w_e ?_
           refine g_weak [(1, .pointer (some ⟨h, 0, none⟩)), (2, .int .i64 n), (9, .int .i64 ((whenV A n))), (10, .int .i64 ((whenE A n)))] ⟨rfl, rfl, rfl, rfl, trivial⟩ ?_
           refine w_s ?_
           refine w_r2 ?_
           refine l_of (s_call (wt0 rfl) (x_call' rfl rfl cl47) (when_gr (n := n) hZo hZg hZA _ (H135.takes [2] (by decide))) ?_)
           rintro _ wq140 ⟨Y136, hYg137, hYo138, hYA139, rfl, H141⟩
           replace H141 : S wq140 [Y136.I, Y130.I, Ob g1 (.cells #[.int .i64 kd, .int .i64 lt, .int .i64 iv, .int .i64 tr, .string s] 52 (0, 0)), Old w (fps [X.I, Z.I])] := by have h := H135.absorbI [2] H141; exact h
           refine b_ret rfl rfl ?_
           refine w_r5 ?_
           refine w_e ?_
           refine w_s ?_
           refine w_r2 ?_
           refine w_b ?_
           refine w_m ?_
           refine w_g (decide_eq_true rfl) xm ?_
           refine w_g (decide_eq_true rfl) xm ?_
           refine w_g (decide_eq_true rfl) (x_bin rfl rfl rfl b_eql) ?_
           refine w_v (v := .bool (decide (((whenE A n) : Int) = (whenE A n)))) (x_pick_t rfl rfl (decide_eq_true rfl) rfl) ?_
           refine w_a ?_
           refine w_e ?_
           refine g_weak [(8, .bool (decide (((whenE A n) : Int) = (whenE A n))))] ⟨rfl, trivial⟩ ?_
           refine g_ret ?_
           refine g_in_ret ?_
           refine g_then_ret ?_
           refine fin_ret [.tmp 8] [.bool (decide (((whenE A n) : Int) = (whenE A n)))] rfl ⟨rfl, trivial⟩ ?_
           exact ⟨Y130, Y136, (whenA A n), hYg131, ⟨hYo132.pi.mono (Nat.le_succ _), hYo132.cur, hYo132.map⟩, hYA133, hYg137, (hYo138.mono (Nat.le_succ _)), hYA139, by simp [tupled], H141.takes [1, 0, 3] (by decide)⟩
          ·
           refine g_cond_f rfl (decide_eq_false hb129) ?_
           refine g_region ?_
           refine w_b ?_
           refine w_a ?_
           refine w_e ?_
           by_cases hb142 : (kd : Int) = 11
           ·
            refine g_cond_t rfl (decide_eq_true hb142) ?_
            refine w_s ?_
            refine w_r2 ?_
            refine l_of (s_call (wt0 rfl) (x_call' rfl rfl cl10) (when_gx (n := n) hXo hXg hXA _ (H3.takes [1] (by decide))) ?_)
            rintro _ wq147 ⟨Y143, hYg144, hYo145, hYA146, rfl, H148⟩
            replace H148 : S wq147 [Y143.I, Ob g1 (.cells #[.int .i64 kd, .int .i64 lt, .int .i64 iv, .int .i64 tr, .string s] 52 (0, 0)), Z.I, Old w (fps [X.I, Z.I])] := by have h := H3.absorbI [1] H148; exact h
            refine b_ret rfl rfl ?_
            refine w_r5 ?_
            refine w_e ?_
            refine g_weak [(1, .pointer (some ⟨h, 0, none⟩)), (2, .int .i64 n), (9, .int .i64 ((whenV A n))), (10, .int .i64 ((whenE A n)))] ⟨rfl, rfl, rfl, rfl, trivial⟩ ?_
            refine w_s ?_
            refine w_r2 ?_
            refine l_of (s_call (wt0 rfl) (x_call' rfl rfl cl47) (when_gr (n := n) hZo hZg hZA _ (H148.takes [2] (by decide))) ?_)
            rintro _ wq153 ⟨Y149, hYg150, hYo151, hYA152, rfl, H154⟩
            replace H154 : S wq153 [Y149.I, Y143.I, Ob g1 (.cells #[.int .i64 kd, .int .i64 lt, .int .i64 iv, .int .i64 tr, .string s] 52 (0, 0)), Old w (fps [X.I, Z.I])] := by have h := H148.absorbI [2] H154; exact h
            refine b_ret rfl rfl ?_
            refine w_r5 ?_
            refine w_e ?_
            refine w_s ?_
            refine w_r2 ?_
            refine w_b ?_
            refine w_m ?_
            refine w_g (decide_eq_true rfl) xm ?_
            refine w_g (decide_eq_true rfl) xm ?_
            refine w_g (decide_eq_true rfl) (x_bin rfl rfl rfl b_eql) ?_
            refine w_v (v := .bool (decide (((whenE A n) : Int) = (whenE A n)))) (x_pick_t rfl rfl (decide_eq_true rfl) rfl) ?_
            refine w_a ?_
            refine w_e ?_
            refine g_weak [(8, .bool (decide (((whenE A n) : Int) = (whenE A n))))] ⟨rfl, trivial⟩ ?_
            refine g_ret ?_
            refine g_in_ret ?_
            refine g_then_ret ?_
            refine fin_ret [.tmp 8] [.bool (decide (((whenE A n) : Int) = (whenE A n)))] rfl ⟨rfl, trivial⟩ ?_
            exact ⟨Y143, Y149, (whenA A n), hYg144, ⟨hYo145.pi.mono (Nat.le_succ _), hYo145.cur, hYo145.map⟩, hYA146, hYg150, (hYo151.mono (Nat.le_succ _)), hYA152, by simp [tupled], H154.takes [1, 0, 3] (by decide)⟩
           ·
            refine g_cond_f rfl (decide_eq_false hb142) ?_
            refine g_skip ?_
            refine g_in ?_
            refine g_then ?_
            refine w_s ?_
            refine w_r2 ?_
            refine l_of (s_call (wt0 rfl) (x_call' rfl rfl cl11) (next_gx (n := n) hXo hXg hXA _ (H3.takes [1] (by decide))) ?_)
            rintro _ wq159 ⟨Y155, hYg156, hYo157, hYA158, rfl, H160⟩
            replace H160 : S wq159 [Y155.I, Ob g1 (.cells #[.int .i64 kd, .int .i64 lt, .int .i64 iv, .int .i64 tr, .string s] 52 (0, 0)), Z.I, Old w (fps [X.I, Z.I])] := by have h := H3.absorbI [1] H160; exact h
            refine b_ret rfl rfl ?_
            refine w_r3 ?_
            refine l_of (s_alloc H160 (wt0 rfl) rfl rfl rfl ze34 ?_)
            intro g161 wq162 H163
            refine l_of (w_st #[.int .i64 ((nextV A n).1), .int .i64 ((nextV A n).2.1), .int .i64 ((nextV A n).2.2.1), .int .i64 ((nextV A n).2.2.2)] H163 0 ?_)
            intro wq164 H165
            refine w_a ?_
            refine w_e ?_
            refine g_weak [(1, .pointer (some ⟨h, 0, none⟩)), (2, .int .i64 n), (13, .pointer (some ⟨g161, 0, none⟩)), (14, .int .i64 ((nextE A n)))] ⟨rfl, rfl, rfl, rfl, trivial⟩ ?_
            refine w_s ?_
            refine w_r2 ?_
            refine l_of (s_call (wt0 rfl) (x_call' rfl rfl cl48) (next_gr (n := n) hZo hZg hZA _ (H165.takes [3] (by decide))) ?_)
            rintro _ wq170 ⟨Y166, hYg167, hYo168, hYA169, rfl, H171⟩
            replace H171 : S wq170 [Y166.I, Ob g161 (.cells #[.int .i64 ((nextV A n).1), .int .i64 ((nextV A n).2.1), .int .i64 ((nextV A n).2.2.1), .int .i64 ((nextV A n).2.2.2)] 34 (0, 0)), Y155.I, Ob g1 (.cells #[.int .i64 kd, .int .i64 lt, .int .i64 iv, .int .i64 tr, .string s] 52 (0, 0)), Old w (fps [X.I, Z.I])] := by have h := H165.absorbI [3] H171; exact h
            refine b_ret rfl rfl ?_
            refine w_r3 ?_
            refine l_of (s_alloc H171 (wt0 rfl) rfl rfl rfl ze34 ?_)
            intro g172 wq173 H174
            refine l_of (w_st #[.int .i64 ((nextV A n).1), .int .i64 ((nextV A n).2.1), .int .i64 ((nextV A n).2.2.1), .int .i64 ((nextV A n).2.2.2)] H174 0 ?_)
            intro wq175 H176
            refine w_a ?_
            refine w_e ?_
            refine w_s ?_
            refine w_v (v := .agg #[.int .i64 ((nextV A n).1), .int .i64 ((nextV A n).2.1), .int .i64 ((nextV A n).2.2.1), .int .i64 ((nextV A n).2.2.2)]) (x_loadA H176 2 rfl rfl Try.underlying34 rfl sz34 rfl rfl rfl) ?_
            refine w_v (v := .agg #[.int .i64 ((nextV A n).1), .int .i64 ((nextV A n).2.1), .int .i64 ((nextV A n).2.2.1), .int .i64 ((nextV A n).2.2.2)]) (x_loadA H176 0 rfl rfl Try.underlying34 rfl sz34 rfl rfl rfl) ?_
            refine w_b (v := .bool (decide (True))) (hb := (tr_eq)) ?_
            refine w_m ?_
            refine w_g (decide_eq_true trivial) xm ?_
            refine w_g (decide_eq_true trivial) xm ?_
            refine w_g (decide_eq_true trivial) (x_bin rfl rfl rfl b_eql) ?_
            refine w_v (v := .bool (decide (((nextE A n) : Int) = (nextE A n)))) (x_pick_t rfl rfl (decide_eq_true trivial) rfl) ?_
            refine w_a ?_
            refine w_e ?_
            refine g_weak [(8, .bool (decide (((nextE A n) : Int) = (nextE A n))))] ⟨rfl, trivial⟩ ?_
            refine g_ret ?_
            refine fin_ret [.tmp 8] [.bool (decide (((nextE A n) : Int) = (nextE A n)))] rfl ⟨rfl, trivial⟩ ?_
            exact ⟨Y155, Y166, (nextA A n), hYg156, ⟨hYo157.pi.mono (Nat.le_succ _), hYo157.cur, hYo157.map⟩, hYA158, hYg167, (hYo168.mono (Nat.le_succ _)), hYA169, by simp [tupled], H176.takes [3, 1, 5] (by decide)⟩
set_option maxRecDepth 20000 in
set_option maxHeartbeats 4000000 in
theorem alike_s {X : TM} {Z : RT} {A : PS} {g h j : Nat} (hXo : X.ok j) (hXg : X.g = g) (hXA : X.A = A) (hZo : PI j Z.A) (hZg : Z.g = h) (hZA : Z.A = A)  (w : World) (HS : S w [X.I, Z.I]) : Calls Try.prog 21 #[.pointer (some ⟨g, 0, none⟩), .pointer (some ⟨h, 0, none⟩)] w fun e w' => e = .returned (.bool true) ∧ S w' ([X.I, Z.I] ++ [Old w (fps [X.I, Z.I])]) := by
 have H0 := HS.beginI
 have hT20 : A.T.length ≤ 20 := by rw [← hZA]; exact hZo.ti.rl.2
 have hpa : PI j A := by rw [← hZA]; exact hZo
 refine enter 70 Try.func21 rfl rfl rfl ?_
 refine g_weak [(0, .pointer (some ⟨g, 0, none⟩)), (1, .pointer (some ⟨h, 0, none⟩))] ⟨rfl, rfl, trivial⟩ ?_
 refine w_s ?_
 refine w_a ?_
 refine w_e ?_
 refine g_seq ?_
 refine w_s ?_
 refine w_a ?_
 refine w_e ?_
 refine g_block ?_
 refine g_loop (ι := Nat) (fun i => [(0, .pointer (some ⟨g, 0, none⟩)), (1, .pointer (some ⟨h, 0, none⟩)), (5, .int .i64 (((i : Int) - 1)))]) (fun i wx => (i ≤ A.T.length + 2) ∧ S wx [X.I, Z.I, Old w (fps [X.I, Z.I])]) (fun i => A.T.length + 2 - i) (0) ⟨rfl, rfl, rfl, trivial⟩ ⟨Nat.zero_le _, (H0.takes [0, 1, 2] (by decide))⟩ ?_
 rintro i wq1 ⟨hi, H2⟩
 refine g_weak [(0, .pointer (some ⟨g, 0, none⟩)), (1, .pointer (some ⟨h, 0, none⟩)), (5, .int .i64 (((i : Int) - 1)))] ⟨rfl, rfl, rfl, trivial⟩ ?_
 refine g_seq ?_
 refine w_s ?_
 refine w_r2 ?_
 refine l_of (s_call (wt0 rfl) (x_call' rfl rfl cl49) (tiers_gr hZo hZg hZA _ (H2.takes [1] (by decide))) ?_)
 rintro _ wq3 ⟨rfl, H4⟩
 replace H4 : S wq3 [Z.I, X.I, Old w (fps [X.I, Z.I])] := by have h := H2.absorbI [1] H4; exact h
 refine b_ret rfl rfl ?_
 refine w_b ?_
 refine w_e ?_
 by_cases hb5 : (((i : Int) - 1) : Int) ≤ (A.T.length : Int)
 ·
  refine g_cond_t rfl (decide_eq_true hb5) ?_
  refine g_skip ?_
  refine g_then ?_
  refine g_seq ?_
  refine g_block ?_
  refine w_s ?_
  refine w_r2 ?_
  refine l_of (s_call (wt0 rfl) (x_call' rfl rfl cl12) (order_gx (q := ((i : Int) - 1)) hXo hXg hXA _ (H4.takes [1] (by decide))) ?_)
  rintro _ wq8 ⟨p6, c7, rfl, H9⟩
  replace H9 : S wq8 [Rw 9 1 p6 ((orderV A ((i : Int) - 1)).length) c7 (fl strL (orderV A ((i : Int) - 1))), X.I, Z.I, Old w (fps [X.I, Z.I])] := by have h := H4.absorbI [1] H9; exact h
  refine b_ret rfl rfl ?_
  refine w_r5 ?_
  refine w_e ?_
  refine w_s ?_
  refine w_r2 ?_
  refine l_of (s_call (wt0 rfl) (x_call' rfl rfl cl50) (order_gr (q := ((i : Int) - 1)) hZo hZg hZA _ (H9.takes [2] (by decide))) ?_)
  rintro _ wq12 ⟨p10, c11, rfl, H13⟩
  replace H13 : S wq12 [Rw 9 1 p10 ((orderV A ((i : Int) - 1)).length) c11 (fl strL (orderV A ((i : Int) - 1))), Z.I, Rw 9 1 p6 ((orderV A ((i : Int) - 1)).length) c7 (fl strL (orderV A ((i : Int) - 1))), X.I, Old w (fps [X.I, Z.I])] := by have h := H9.absorbI [2] H13; exact h
  refine b_ret rfl rfl ?_
  refine w_r5 ?_
  refine w_e ?_
  refine g_weak [(0, .pointer (some ⟨g, 0, none⟩)), (1, .pointer (some ⟨h, 0, none⟩)), (5, .int .i64 (((i : Int) - 1))), (6, .slice p6 ((orderV A ((i : Int) - 1)).length) c7), (7, .int .i64 ((orderE A ((i : Int) - 1)))), (8, .slice p10 ((orderV A ((i : Int) - 1)).length) c11), (9, .int .i64 ((orderE A ((i : Int) - 1))))] ⟨rfl, rfl, rfl, rfl, rfl, rfl, rfl, trivial⟩ ?_
  refine g_seq ?_
  refine w_s ?_
  refine w_r2 ?_
  refine w_b (v := .bool (!decide (((orderE A ((i : Int) - 1)) : Int) = (orderE A ((i : Int) - 1))))) (hb := b_neq) ?_
  refine w_m ?_
  refine w_g (nf rfl) xm ?_
  refine w_g (nf rfl) xm ?_
  refine l_of (s_call0 H13 (wt1 rfl rfl rfl rfl (nf rfl)) (x_call' rfl rfl cl22) (sameL (orderV A ((i : Int) - 1)) (Nat.le_trans (order_len hpa _) (by decide)) p6 c7 p10 c11 _ (H13.rwReads (k := 2) rfl) (H13.rwReads (k := 0) rfl)) rfl rfl ?_)
  intro wq14 H15
  refine w_g (v := .bool false) (nf rfl) (x_not (b := true) rfl rfl) ?_
  refine w_v (v := .bool false) (x_pick_f rfl rfl (nf rfl) rfl) ?_
  refine w_e ?_
  refine g_cond_f rfl rfl ?_
  refine g_skip ?_
  refine g_then ?_
  refine g_weak [(0, .pointer (some ⟨g, 0, none⟩)), (1, .pointer (some ⟨h, 0, none⟩)), (5, .int .i64 (((i : Int) - 1))), (8, .slice p10 ((orderV A ((i : Int) - 1)).length) c11)] ⟨rfl, rfl, rfl, rfl, trivial⟩ ?_
  refine w_s ?_
  refine w_m ?_
  refine w_v (v := .int .i64 (((orderV A ((i : Int) - 1)).length : Int))) (x_lenl rfl rfl Try.underlying37) ?_
  refine w_m ?_
  refine w_e ?_
  refine g_block ?_
  refine g_loop (ι := Nat) (fun k => [(0, .pointer (some ⟨g, 0, none⟩)), (1, .pointer (some ⟨h, 0, none⟩)), (5, .int .i64 (((i : Int) - 1))), (43, .slice p10 ((orderV A ((i : Int) - 1)).length) c11), (44, .int .i64 (((orderV A ((i : Int) - 1)).length : Int))), (45, .int .i64 ((k : Int)))]) (fun k wx => (k ≤ (orderV A ((i : Int) - 1)).length) ∧ S wx [Rw 9 1 p10 ((orderV A ((i : Int) - 1)).length) c11 (fl strL (orderV A ((i : Int) - 1))), Z.I, Rw 9 1 p6 ((orderV A ((i : Int) - 1)).length) c7 (fl strL (orderV A ((i : Int) - 1))), X.I, Old w (fps [X.I, Z.I])]) (fun k => ((orderV A ((i : Int) - 1)).length) - k) (0) ⟨rfl, rfl, rfl, rfl, rfl, rfl, trivial⟩ ⟨Nat.zero_le _, (H15.takes [0, 1, 2, 3, 4] (by decide))⟩ ?_
  rintro k wq16 ⟨hk, H17⟩
  refine g_weak [(0, .pointer (some ⟨g, 0, none⟩)), (1, .pointer (some ⟨h, 0, none⟩)), (5, .int .i64 (((i : Int) - 1))), (43, .slice p10 ((orderV A ((i : Int) - 1)).length) c11), (44, .int .i64 (((orderV A ((i : Int) - 1)).length : Int))), (45, .int .i64 ((k : Int)))] ⟨rfl, rfl, rfl, rfl, rfl, rfl, trivial⟩ ?_
  refine w_s ?_
  refine w_b ?_
  refine w_e ?_
  refine g_seq ?_
  by_cases hb18 : ((k : Int) : Int) < ((orderV A ((i : Int) - 1)).length : Int)
  ·
   refine g_cond_t rfl (decide_eq_true hb18) ?_
   refine g_skip ?_
   refine g_then ?_
   refine g_seq ?_
   refine g_block ?_
   refine w_s ?_
   refine w_v (v := .pointer ((p10).map fun q => q.add (k * 1))) (x_idxR k (H17.rwReads (k := 0) rfl) rfl rfl rfl Try.underlying37 sz9 (by omega)) ?_
   have hlq := (H17.rwReads (k := 0) rfl).lenL strE
   obtain ⟨x19, hx19⟩ := ex_at (l := (orderV A ((i : Int) - 1))) (j := k) (by omega)
   clear hlq
   refine w_v (v := .string x19) (x_loadR1 k (H17.rwReads (k := 0) rfl) (by omega) rfl rfl Try.underlying9 rfl (strE.flAt1 hx19 rfl)) ?_
   refine w_a ?_
   refine w_e ?_
   refine w_s ?_
   refine w_r2 ?_
   refine l_of (s_call (wt0 rfl) (x_call' rfl rfl cl51) (failed_gx (s := x19) hXo hXg hXA _ (H17.takes [3] (by decide))) ?_)
   rintro _ wq20 ⟨rfl, H21⟩
   replace H21 : S wq20 [X.I, Rw 9 1 p10 ((orderV A ((i : Int) - 1)).length) c11 (fl strL (orderV A ((i : Int) - 1))), Z.I, Rw 9 1 p6 ((orderV A ((i : Int) - 1)).length) c7 (fl strL (orderV A ((i : Int) - 1))), Old w (fps [X.I, Z.I])] := by have h := H17.absorbI [3] H21; exact h
   refine b_ret rfl rfl ?_
   refine w_r5 ?_
   refine w_e ?_
   refine w_s ?_
   refine w_r2 ?_
   refine l_of (s_call (wt0 rfl) (x_call' rfl rfl cl52) (failed_gr (s := x19) hZo hZg hZA _ (H21.takes [2] (by decide))) ?_)
   rintro _ wq22 ⟨rfl, H23⟩
   replace H23 : S wq22 [Z.I, X.I, Rw 9 1 p10 ((orderV A ((i : Int) - 1)).length) c11 (fl strL (orderV A ((i : Int) - 1))), Rw 9 1 p6 ((orderV A ((i : Int) - 1)).length) c7 (fl strL (orderV A ((i : Int) - 1))), Old w (fps [X.I, Z.I])] := by have h := H21.absorbI [2] H23; exact h
   refine b_ret rfl rfl ?_
   refine w_r5 ?_
   refine w_e ?_
   refine g_weak [(0, .pointer (some ⟨g, 0, none⟩)), (1, .pointer (some ⟨h, 0, none⟩)), (5, .int .i64 (((i : Int) - 1))), (12, .int .i64 ((failedV A x19))), (13, .int .i64 ((failedE A x19))), (14, .int .i64 ((failedV A x19))), (15, .int .i64 ((failedE A x19))), (43, .slice p10 ((orderV A ((i : Int) - 1)).length) c11), (44, .int .i64 (((orderV A ((i : Int) - 1)).length : Int))), (45, .int .i64 ((k : Int)))] ⟨rfl, rfl, rfl, rfl, rfl, rfl, rfl, rfl, rfl, rfl, trivial⟩ ?_
   refine w_s ?_
   refine w_r2 ?_
   refine w_b (v := .bool (!decide (((failedV A x19) : Int) = (failedV A x19)))) (hb := b_neq) ?_
   refine w_m ?_
   refine w_g (nf rfl) xm ?_
   refine w_g (nf rfl) xm ?_
   refine w_g (v := .bool (!decide (((failedE A x19) : Int) = (failedE A x19)))) (nf rfl) (x_bin rfl rfl rfl b_neq) ?_
   refine w_v (v := .bool (!decide (((failedE A x19) : Int) = (failedE A x19)))) (x_pick_f rfl rfl (nf rfl) rfl) ?_
   refine w_e ?_
   refine g_cond_f rfl (nf rfl) ?_
   refine g_skip ?_
   refine g_in ?_
   refine g_then ?_
   refine g_weak [(0, .pointer (some ⟨g, 0, none⟩)), (1, .pointer (some ⟨h, 0, none⟩)), (5, .int .i64 (((i : Int) - 1))), (43, .slice p10 ((orderV A ((i : Int) - 1)).length) c11), (44, .int .i64 (((orderV A ((i : Int) - 1)).length : Int))), (45, .int .i64 ((k : Int)))] ⟨rfl, rfl, rfl, rfl, rfl, rfl, trivial⟩ ?_
   refine g_region ?_
   refine w_b (v := .int .i64 (((k + 1 : Nat) : Int))) (hb := (b_add (by rw [w64 (by have := order_len hpa ((i : Int) - 1); omega)]; omega))) ?_
   refine w_m ?_
   refine w_e ?_
   refine g_round (i := (k)) ((k + 1)) ?_ ?_ ?_
   · exact ⟨rfl, rfl, rfl, rfl, rfl, rfl, trivial⟩
   · exact ⟨by omega, (H23.takes [2, 0, 3, 1, 4] (by decide))⟩
   · (try dsimp only); omega
  ·
   refine g_cond_f rfl (decide_eq_false hb18) ?_
   refine g_exit ?_
   refine g_then_exit ?_
   refine g_then_exit ?_
   refine g_in_hit ?_
   refine g_in ?_
   refine g_then ?_
   refine g_region ?_
   refine w_m ?_
   refine w_b (v := .int .i64 ((((i + 1 : Nat) : Int) - 1))) (hb := (b_add (by rw [w64 (by omega)]; omega))) ?_
   refine w_a ?_
   refine w_e ?_
   refine g_round (i := (i)) ((i + 1)) ?_ ?_ ?_
   · exact ⟨rfl, rfl, rfl, trivial⟩
   · exact ⟨by omega, (H17.takes [3, 1, 4] (by decide))⟩
   · (try dsimp only); omega
 ·
  refine g_cond_f rfl (decide_eq_false hb5) ?_
  refine g_exit ?_
  refine g_then_exit ?_
  refine g_then_exit ?_
  refine g_in_hit ?_
  refine g_then ?_
  refine w_s ?_
  refine w_a ?_
  refine w_e ?_
  refine g_ret ?_
  refine fin_ret [.tmp 4] [.bool true] rfl ⟨rfl, trivial⟩ ?_
  exact ⟨rfl, H4.takes [1, 0, 2] (by decide)⟩
end Go.Proofs.Ytibdlnjnomikjaa
