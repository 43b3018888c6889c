import Derived.Test.YtcjmdkklbbollaaCHa
set_option linter.unusedSimpArgs false
set_option linter.unusedVariables false
namespace Go.Proofs.Ytcjmdkklbbollaa
open Go.RowKit

theorem below_cell' {w w' : World} (hW : Below w.heap.size w w') {p : Addr} {v : Value} (h : w.cell? p = some v) : w'.cell? p = some v := (S.of_below hW).oldCell (k := 0) rfl h id
theorem okL_nil' {B : Nat} : ∀ it ∈ ([] : List Item), it.okB B := fun _ h => by cases h
theorem okL_cons' {B : Nat} {it : Item} {L : List Item} (h : it.okB B) (hL : ∀ it ∈ L, it.okB B) : ∀ x ∈ it :: L, x.okB B := fun x hx => by
  rcases List.mem_cons.1 hx with rfl | hx
  · exact h
  · exact hL x hx
set_option maxRecDepth 20000 in
set_option maxHeartbeats 4000000 in
theorem chunk_p (gb n c : Nat)  (w : World) : Calls Try.prog 72 #[.slice (some ⟨gb, 0, none⟩) (n) (c), .int .i64 32] w fun e w' => ∃ g1 g2, e = .returned (.func (.func 93) #[] #[.pointer (some ⟨g1, 0, none⟩), .pointer (some ⟨g2, 0, none⟩)]) ∧ S w' ([Ob g2 (.cells #[.int .i64 32] 3 (0, 0)), Ob g1 (.cells #[.slice (some ⟨gb, 0, none⟩) n c] 69 (0, 0))] ++ [Old w no]) := by
  have H0 := S.old w
  refine enter 9 Try.func72 rfl rfl rfl ?_
  refine g_weak [(0, .slice (some ⟨gb, 0, none⟩) (n) (c)), (1, .int .i64 32)] ⟨rfl, rfl, trivial⟩ ?_
  refine g_seq ?_
  refine g_region ?_
  refine l_of (s_box H0 (wt0 rfl) rfl rfl rfl rfl ?_)
  intro g1 wq2 H3
  refine l_of (s_box H3 (wt0 rfl) rfl rfl rfl rfl ?_)
  intro g4 wq5 H6
  refine l_of (s_val (v := .nilFunc) (wt0 rfl) rfl rfl (x_assign rfl rfl) ?_)
  refine g_nil ?_
  refine g_then ?_
  refine g_seq ?_
  refine g_seq ?_
  refine g_region ?_
  refine l_of (s_val (v := .int .i64 32) (wt0 rfl) rfl rfl (x_load1 H6 0 rfl rfl Try.underlying3 rfl rfl rfl) ?_)
  refine l_of (s_val (v := .bool (decide ((32 : Int) < 1))) (wt0 rfl) rfl rfl (x_bin rfl rfl rfl b_lss) ?_)
  refine g_nil ?_
  refine g_then ?_
  refine g_cond_f rfl (by decide) ?_
  refine g_skip ?_
  refine g_then ?_
  refine g_seq ?_
  refine g_region ?_
  refine l_of (s_val (v := .func (.func 93) #[] #[.pointer (some ⟨g1, 0, none⟩), .pointer (some ⟨g4, 0, none⟩)]) (wt0 rfl) rfl rfl (x_makeFunc rfl rfl rfl) ?_)
  refine l_of (s_val (v := .func (.func 93) #[] #[.pointer (some ⟨g1, 0, none⟩), .pointer (some ⟨g4, 0, none⟩)]) (wt0 rfl) rfl rfl (x_assign rfl rfl) ?_)
  refine g_nil ?_
  refine g_then ?_
  refine g_ret ?_
  refine fin_ret [.tmp 4] [.func (.func 93) #[] #[.pointer (some ⟨g1, 0, none⟩), .pointer (some ⟨g4, 0, none⟩)]] rfl ⟨rfl, trivial⟩ ?_
  exact ⟨_, _, rfl, H6⟩
set_option maxRecDepth 20000 in
set_option maxHeartbeats 4000000 in
set_option maxRecDepth 20000 in
set_option maxHeartbeats 4000000 in
theorem chunk_walk {n0 l q : Nat} {gb g1 g2 n c : Nat} {J Jx : List (Ck q) → World → Prop} (w : World) (hn : n = 32 * q) (hc : n ≤ c) (hn6 : n ≤ 1099511627776) (hJ : AbidesFrom w.heap.size J)
    (h1 : w.cell? ⟨g1, 0, none⟩ = some (.slice (some ⟨gb, 0, none⟩) n c)) (h2 : w.cell? ⟨g2, 0, none⟩ = some (.int .i64 32))
    (hY : ∀ pre x W1, J pre W1 → pre.length < q → YieldAt (WF none) (n0 - 1) Try.prog l (encC gb x) W1 fun e W' => (e = .returned (.bool true) ∧ J (pre ++ [x]) W' ∧ Same (fun g => g = g1 ∨ g = g2) W1 W') ∨ (e = .returned (.bool false) ∧ Jx (pre ++ [x]) W'))
    (h0 : J [] w) :
    CallsIn (WF none) n0 Try.prog 93 #[.func (.yield l) #[] #[], .pointer (some ⟨g1, 0, none⟩), .pointer (some ⟨g2, 0, none⟩)] w fun e W' => (∃ v, e = .returned v) ∧ ((∃ xs, xs = enumC q ∧ J xs W') ∨ (∃ pre, (∃ k, k < q ∧ pre = (enumC q).take (k + 1)) ∧ Jx pre W')) := by
  have H0 := S.old w
  refine enter_ci 31 Try.func93 rfl rfl rfl ?_
  have hL : ¬ LetsOut (bodyPost Try.prog Try.f93 fun e W' => (∃ v, e = .returned v) ∧ ((∃ xs, xs = enumC q ∧ J xs W') ∨ (∃ pre, (∃ k, k < q ∧ pre = (enumC q).take (k + 1)) ∧ Jx pre W'))) := by
    rintro ⟨_, _, ⟨_, h⟩, _⟩
    cases h
  refine g_weak [(0, .func (.yield l) #[] #[]), (1, .pointer (some ⟨g1, 0, none⟩)), (2, .pointer (some ⟨g2, 0, none⟩))] ⟨rfl, rfl, rfl, trivial⟩ ?_
  refine R.g_seq ?_
  refine R.g_region ?_
  refine R.l_of rfl (fun h => hL h) (s_val (v := .int .i64 0) (wt0 rfl) rfl rfl (x_assign rfl rfl) ?_)
  refine R.g_nil ?_
  refine g_then ?_
  refine R.g_block ?_
  refine R.g_loop (ι := Nat × World) (fun (k, W0) => [(0, .func (.yield l) #[] #[]), (1, .pointer (some ⟨g1, 0, none⟩)), (2, .pointer (some ⟨g2, 0, none⟩)), (4, .int .i64 (((32 * k : Nat) : Int)))]) (fun (k, W0) wx => (k ≤ q) ∧ (J ((enumC q).take k) W0) ∧ (W0.cell? ⟨g1, 0, none⟩ = some (.slice (some ⟨gb, 0, none⟩) n c)) ∧ (W0.cell? ⟨g2, 0, none⟩ = some (.int .i64 32)) ∧ S wx [Old W0 no]) (fun (k, W0) => q - k) (0, w) ⟨rfl, rfl, rfl, rfl, trivial⟩ ⟨Nat.zero_le _, h0, h1, h2, H0⟩ ?_
  rintro ⟨k, W0⟩ wq1 ⟨hk, hJ0, h1, h2, H2⟩
  replace H2 : S wq1 [Old W0 no] := H2
  refine g_weak [(0, .func (.yield l) #[] #[]), (1, .pointer (some ⟨g1, 0, none⟩)), (2, .pointer (some ⟨g2, 0, none⟩)), (4, .int .i64 (((32 * k : Nat) : Int)))] ⟨rfl, rfl, rfl, rfl, trivial⟩ ?_
  refine R.g_seq ?_
  refine R.g_seq ?_
  refine R.g_region ?_
  refine R.l_of rfl (fun h => hL h) (s_val (v := .int .i64 (((32 * k : Nat) : Int))) (wt0 rfl) rfl rfl (x_move rfl rfl) ?_)
  refine R.l_of rfl (fun h => hL h) (s_val (v := .slice (some ⟨gb, 0, none⟩) (n) (c)) (wt0 rfl) rfl rfl (x_loadC rfl rfl Try.underlying69 rfl (H2.oldCell (k := 0) rfl h1 id)) ?_)
  refine R.l_of rfl (fun h => hL h) (s_val (v := .int .i64 ((n : Int))) (wt0 rfl) rfl rfl (x_lenl rfl rfl Try.underlying69) ?_)
  refine R.l_of rfl (fun h => hL h) (s_val (v := .bool (decide ((((32 * k : Nat) : Int) : Int) < (n : Int)))) (wt0 rfl) rfl rfl (x_bin rfl rfl rfl b_lss) ?_)
  refine R.g_nil ?_
  refine g_then ?_
  by_cases hb3 : (((32 * k : Nat) : Int) : Int) < (n : Int)
  · skip
    have hkq : k < q := by omega
    refine R.g_cond_t rfl (decide_eq_true hb3) ?_
    refine R.g_skip ?_
    refine g_then ?_
    refine R.g_seq ?_
    refine R.g_block ?_
    refine R.g_seq ?_
    refine R.g_anyY [] (fun wx => S wx [Old W0 no]) (fun wx => S wx [Old W0 no]) [] (by kernel_rfl) (by kernel_rfl) (fun h => hL h) H2 (fun wq4 H5 => ?_)
    refine y_take (v := .int .i64 32) 0 rfl (wt0 rfl) rfl rfl rfl (by kernel_rfl) (by kernel_rfl) (by kernel_rfl) (by kernel_rfl) (by kernel_rfl) H5 (fun wx H => x_loadC rfl rfl Try.underlying3 rfl (H.oldCell (k := 0) rfl h2 id)) ?_
    refine y_take (v := .slice (some ⟨gb, 0, none⟩) (n) (c)) 1 rfl (wt0 rfl) rfl rfl rfl (by kernel_rfl) (by kernel_rfl) (by kernel_rfl) (by kernel_rfl) (by kernel_rfl) H5 (fun wx H => x_loadC rfl rfl Try.underlying69 rfl (H.oldCell (k := 0) rfl h1 id)) ?_
    refine y_pure (v := .int .i64 (((32 * k : Nat) : Int))) 2 rfl (wt0 rfl) rfl rfl rfl (by kernel_rfl) (by kernel_rfl) (by kernel_rfl) (by kernel_rfl) (fun wx => x_move rfl rfl) ?_
    refine y_pure (v := .slice (cutP (some ⟨gb, 0, none⟩) (32 * k) c 1) ((n - 32 * k) : Nat) ((c - 32 * k) : Nat)) 3 rfl (wt0 rfl) rfl rfl rfl (by kernel_rfl) (by kernel_rfl) (by kernel_rfl) (by kernel_rfl) (fun wx => x_cut (32 * k) rfl rfl rfl Try.underlying69 sz5 (by omega)) ?_
    refine y_pure (v := .int .i64 ((((n - 32 * k) : Nat) : Int))) 4 rfl (wt0 rfl) rfl rfl rfl (by kernel_rfl) (by kernel_rfl) (by kernel_rfl) (by kernel_rfl) (fun wx => x_lenl rfl rfl Try.underlying69) ?_
    refine y_pure (v := .int .i64 32) 5 rfl (wt0 rfl) rfl rfl rfl (by kernel_rfl) (by kernel_rfl) (by kernel_rfl) (by kernel_rfl) (fun wx => ex_cast (x_min rfl rfl rfl) (congrArg (Value.int .i64) (by omega))) ?_
    refine y_pure (v := .int .i64 32) 6 rfl (wt0 rfl) rfl rfl rfl (by kernel_rfl) (by kernel_rfl) (by kernel_rfl) (by kernel_rfl) (fun wx => x_assign rfl rfl) ?_
    refine y_done (by kernel_rfl) ?_
    refine g_then ?_
    refine R.g_seq ?_
    refine R.g_region ?_
    refine R.l_of rfl (fun h => hL h) (s_val (v := .func (.yield l) #[] #[]) (wt0 rfl) rfl rfl (x_move rfl rfl) ?_)
    refine R.l_of rfl (fun h => hL h) (s_val (v := .slice (some ⟨gb, 0, none⟩) (n) (c)) (wt0 rfl) rfl rfl (x_loadC rfl rfl Try.underlying69 rfl (H5.oldCell (k := 0) rfl h1 id)) ?_)
    refine R.l_of rfl (fun h => hL h) (s_val (v := .int .i64 (((32 * k : Nat) : Int))) (wt0 rfl) rfl rfl (x_move rfl rfl) ?_)
    refine R.l_of rfl (fun h => hL h) (s_val (v := .int .i64 (((32 * k : Nat) : Int))) (wt0 rfl) rfl rfl (x_move rfl rfl) ?_)
    refine R.l_of rfl (fun h => hL h) (s_val (v := .int .i64 32) (wt0 rfl) rfl rfl (x_move rfl rfl) ?_)
    refine R.l_of rfl (fun h => hL h) (s_val (v := .int .i64 (((32 * k + 32 : Nat) : Int))) (wt0 rfl) rfl rfl (x_bin rfl rfl rfl (b_addN (a := 32 * k) (b := 32) (by omega))) ?_)
    refine R.l_of rfl (fun h => hL h) (s_val (v := .int .i64 (((32 * k : Nat) : Int))) (wt0 rfl) rfl rfl (x_move rfl rfl) ?_)
    refine R.l_of rfl (fun h => hL h) (s_val (v := .int .i64 32) (wt0 rfl) rfl rfl (x_move rfl rfl) ?_)
    refine R.l_of rfl (fun h => hL h) (s_val (v := .int .i64 (((32 * k + 32 : Nat) : Int))) (wt0 rfl) rfl rfl (x_bin rfl rfl rfl (b_addN (a := 32 * k) (b := 32) (by omega))) ?_)
    refine R.l_of rfl (fun h => hL h) (s_val (v := .slice (some ⟨gb, 32 * k, none⟩) (32) (32)) (wt0 rfl) rfl rfl (ex_cast (x_slice3 (32 * k) (32 * k + 32) (32 * k + 32) rfl rfl rfl rfl rfl Try.underlying69 sz5 (by omega) (off' := 32 * k) (by omega)) (by rw [Nat.add_sub_cancel_left])) ?_)
    have hJ1 := hJ _ _ _ none hJ0 (H5.grownOld (k := 0) rfl) (fun r h => by cases h)
    have h11 := H5.oldCell (k := 0) rfl h1 id
    have h21 := H5.oldCell (k := 0) rfl h2 id
    refine l_yield (wt0 rfl) rfl rfl rfl rfl rfl (hY _ ⟨k, hkq⟩ wq4 hJ1 (by rw [List.length_take, enumC_len]; omega)) ?_
    rintro _ wq6 (⟨rfl, hJ2, hK⟩ | ⟨rfl, hJx⟩)
    · skip
      refine ⟨_, rfl, ?_⟩
      have H7 := S.old wq6
      rw [enumC_next hkq] at hJ2
      have h12 := (World.cell?_of_block (hK.block g1 (.inl rfl))).trans h11
      have h22 := (World.cell?_of_block (hK.block g2 (.inr rfl))).trans h21
      refine R.l_of rfl (fun h => hL h) (s_val (v := .bool false) (wt0 rfl) rfl rfl (x_not (b := true) rfl rfl) ?_)
      refine R.g_nil ?_
      refine g_then ?_
      refine g_weak [(0, .func (.yield l) #[] #[]), (1, .pointer (some ⟨g1, 0, none⟩)), (2, .pointer (some ⟨g2, 0, none⟩)), (4, .int .i64 (((32 * k : Nat) : Int))), (30, .bool false)] ⟨rfl, rfl, rfl, rfl, rfl, trivial⟩ ?_
      refine R.g_cond_f rfl rfl ?_
      refine R.g_skip ?_
      refine g_in ?_
      refine g_then ?_
      refine R.g_region ?_
      refine R.l_of rfl (fun h => hL h) (s_val (v := .int .i64 (((32 * k : Nat) : Int))) (wt0 rfl) rfl rfl (x_move rfl rfl) ?_)
      refine R.l_of rfl (fun h => hL h) (s_val (v := .int .i64 32) (wt0 rfl) rfl rfl (x_loadC rfl rfl Try.underlying3 rfl (H7.oldCell (k := 0) rfl h22 id)) ?_)
      refine R.l_of rfl (fun h => hL h) (s_val (v := .int .i64 (((32 * (k + 1) : Nat) : Int))) (wt0 rfl) rfl rfl (x_bin rfl rfl rfl (b_add (by rw [w64 (by omega)]; omega))) ?_)
      refine R.l_of rfl (fun h => hL h) (s_val (v := .int .i64 (((32 * (k + 1) : Nat) : Int))) (wt0 rfl) rfl rfl (x_assign rfl rfl) ?_)
      refine R.g_nil ?_
      refine g_then ?_
      refine g_round (i := (k, W0)) (k + 1, wq6) ?_ ?_ ?_
      · exact ⟨rfl, rfl, rfl, rfl, trivial⟩
      · exact ⟨by omega, hJ2, h12, h22, H7⟩
      · (try dsimp only); omega
    · skip
      refine ⟨_, rfl, ?_⟩
      have H8 := S.old wq6
      rw [enumC_next hkq] at hJx
      refine R.l_of rfl (fun h => hL h) (s_val (v := .bool true) (wt0 rfl) rfl rfl (x_not (b := false) rfl rfl) ?_)
      refine R.g_nil ?_
      refine g_then ?_
      refine g_weak [(0, .func (.yield l) #[] #[]), (1, .pointer (some ⟨g1, 0, none⟩)), (2, .pointer (some ⟨g2, 0, none⟩)), (4, .int .i64 (((32 * k : Nat) : Int))), (30, .bool true)] ⟨rfl, rfl, rfl, rfl, rfl, trivial⟩ ?_
      refine R.g_cond_t rfl rfl ?_
      refine R.g_ret ?_
      refine g_in_ret ?_
      refine g_then_ret ?_
      refine g_then_ret ?_
      refine g_in_ret ?_
      refine fin_ret [] [] rfl trivial ?_
      exact ⟨⟨_, rfl⟩, .inr ⟨_, ⟨k, hkq, rfl⟩, hJx⟩⟩
  · skip
    refine R.g_cond_f rfl (decide_eq_false hb3) ?_
    refine R.g_exit ?_
    refine g_then_exit ?_
    refine g_then_exit ?_
    refine g_in_hit ?_
    refine fin_end [] [] rfl trivial ?_
    have hk2 : k = q := by omega
    have hJ1 := hJ _ _ _ none hJ0 (H2.grownOld (k := 0) rfl) (fun r h => by cases h)
    exact ⟨⟨_, rfl⟩, .inl ⟨_, rfl, by rw [List.take_of_length_le (by rw [enumC_len]; omega)] at hJ1; exact hJ1⟩⟩
/-- The iterator over the pieces: what it gives. -/
theorem chunk_seq {n0 q gb g1 g2 n c : Nat} {w : World} (hn : n = 32 * q) (hc : n ≤ c) (hn6 : n ≤ 1099511627776) (h1 : w.cell? ⟨g1, 0, none⟩ = some (.slice (some ⟨gb, 0, none⟩) n c)) (h2 : w.cell? ⟨g2, 0, none⟩ = some (.int .i64 32)) :
    SeqStopsK (WF none) n0 Try.prog 93 #[.pointer (some ⟨g1, 0, none⟩), .pointer (some ⟨g2, 0, none⟩)] (encC gb (q := q)) (Same (fun g => g = g1 ∨ g = g2)) (fun xs => xs = enumC q) (fun pre => ∃ k, k < q ∧ pre = (enumC q).take (k + 1)) q w :=
  fun l J Jx W hW hJ hJx hY h0 => chunk_walk (gb := gb) (c := c) W hn hc hn6 hJ (below_cell' hW h1) (below_cell' hW h2) hY h0
theorem same_ck {w : World} {L : List Item} {k1 k2 g1 g2 : Nat} {o1 o2 : Obj} (H : S w L) (hk1 : L[k1]? = some (Ob g1 o1)) (hk2 : L[k2]? = some (Ob g2 o2)) (W : World) (l : Nat) (o o' : Obj) (hl : w.heap.size ≤ l) (_ : W.heap[l]? = some o) (_ : o.isCells = false) (_ : o.isWalk = false) : Same (fun g => g = g1 ∨ g = g2) W (W.putObj l o') :=
  (same_putObj W l o').less fun g hg e => by
    subst e
    rcases hg with rfl | rfl
    · have := H.lt hk1 rfl; omega
    · have := H.lt hk2 rfl; omega
end Go.Proofs.Ytcjmdkklbbollaa
