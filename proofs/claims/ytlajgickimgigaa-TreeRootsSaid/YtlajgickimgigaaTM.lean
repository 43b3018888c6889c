import Derived.Test.YtlajgickimgigaaTL
set_option linter.unusedSimpArgs false
set_option linter.unusedVariables false
namespace Go.Proofs.Ytlajgickimgigaa
open Go.RowKit

theorem cl74 : callable Try.prog 74 = true := by kernel_rfl
theorem cl87 : callable Try.prog 87 = true := by kernel_rfl
theorem cl94 : callable Try.prog 94 = true := by kernel_rfl
theorem S.big1 {w : World} {a : Item} {A L : List Item} (h : S w (a :: (A ++ L))) : S w (a :: Big A :: L) := by
  have h1 : S w (A ++ a :: L) := h.perm List.perm_middle.symm
  exact h1.big.perm (List.Perm.swap ..)
set_option maxRecDepth 20000 in
set_option maxHeartbeats 4000000 in
set_option maxRecDepth 20000 in
set_option maxHeartbeats 4000000 in
theorem layer_s (k r : Nat) (l : List ByteArray) (p : Option Addr) (n c : Nat) (hn : n = l.length) (hm : n ≤ 1099511627) (hk : k + r ≤ 900) (hsz : ∀ s ∈ l, s.size ≤ 65536) (h1 : 0 < (lvlS k l r).length) (w : World) (hr : Reads w p n c 1 (stV l)) :
    Calls Try.prog 51 #[.int .i64 (k : Int), .int .i64 ((k + r : Nat) : Int), .slice p n c] w fun e w' => ∃ p' c', e = .returned (.slice p' (lvlS k l r).length c') ∧ S w' ([Rw 9 1 p' (lvlS k l r).length c' (stV (lvlS k l r))] ++ [Old w no]) := by
  have H0 := S.old w
  have hle := lvlS_le k l r
  refine enter_m 19 Try.func51 rfl rfl rfl ?_
  have hL : ¬ LetsOut (bodyPostM (WF none) 9 Try.prog Try.f51 fun e w' => ∃ p' c', e = .returned (.slice p' (lvlS k l r).length c') ∧ S w' ([Rw 9 1 p' (lvlS k l r).length c' (stV (lvlS k l r))] ++ [Old w no])) := by
    rintro ⟨_, _, ⟨_, _, h, _⟩⟩
    cases h
  refine g_weak [(0, .int .i64 ((k : Int))), (1, .int .i64 (((k + r : Nat) : Int))), (2, .slice p n c)] ⟨rfl, rfl, rfl, trivial⟩ ?_
  refine R.g_seq ?_
  refine R.g_region ?_
  refine R.l_of rfl (fun h => hL h) (s_box H0 (wt0 rfl) rfl rfl rfl rfl ?_)
  intro g1 wq2 H3
  refine R.l_of rfl (fun h => hL h) (s_alloc H3 (wt0 rfl) rfl rfl rfl ze22 ?_)
  intro g4 wq5 H6
  refine R.g_nil ?_
  refine g_then ?_
  refine R.g_seq ?_
  refine R.g_seq ?_
  refine R.g_region ?_
  refine R.l_of rfl (fun h => hL h) (s_val (v := .int .i64 ((k : Int))) (wt0 rfl) rfl rfl (x_move rfl rfl) ?_)
  refine R.l_of rfl (fun h => hL h) (s_val (v := .slice p n c) (wt0 rfl) rfl rfl (x_move rfl rfl) ?_)
  refine R.l_of rfl (fun h => hL h) (s_call (wt0 rfl) (x_call' rfl rfl cl74) (levels_s _ _ _ _ _) ?_)
  rintro _ wq10 ⟨b7, b8, b9, rfl, H11⟩
  replace H11 : S wq10 [Ob b9 (.cells #[.func (.func 43) #[] #[]] 61 (0, 0)), Ob b8 (.cells #[.slice p n c] 22 (0, 0)), Ob b7 (.cells #[.int .i64 ((k : Int))] 3 (0, 0)), Ob g4 (.cells #[.slice none 0 0] 22 (0, 0)), Ob g1 (.cells #[.int .i64 (((k + r : Nat) : Int))] 3 (0, 0)), Old w no] := H6.absorb (new := [Ob b9 (.cells #[.func (.func 43) #[] #[]] 61 (0, 0)), Ob b8 (.cells #[.slice p n c] 22 (0, 0)), Ob b7 (.cells #[.int .i64 ((k : Int))] 3 (0, 0))]) H11
  refine b_ret rfl rfl ?_
  refine R.g_nil ?_
  refine g_then ?_
  refine R.g_block ?_
  have H12 : S wq10 (Old w no :: Big [_, _, _] :: [Ob g4 (.cells #[.slice none 0 0] 22 (0, 0)), Ob g1 (.cells #[.int .i64 (((k + r : Nat) : Int))] 3 (0, 0))]) := S.big1 (A := [_, _, _]) (H11.takes [5, 0, 1, 2, 3, 4] (by decide))
  refine g_rangeS (α := Lx) (encs := encL k l) (base := Old w no) (by omega) rfl cl94 (levels_it (M := r) (by omega) (by omega) hn hr hsz hm) (fun _ => rfl) rfl (fun pre Lx => pre.length ≤ r ∧ Lx = [Ob g4 (.cells #[.slice none 0 0] 22 (0, 0)), Ob g1 (.cells #[.int .i64 (((k + r : Nat) : Int))] 3 (0, 0))]) (fun _ Lx => ∃ p' c', Lx = [Rw 9 1 p' (lvlS k l r).length c' (stV (lvlS k l r)), Ob g4 (.cells #[.slice p' (lvlS k l r).length c'] 22 (0, 0)), Ob g1 (.cells #[.int .i64 (((k + r : Nat) : Int))] 3 (0, 0))]) (fun x => [(4, .pointer (some ⟨g1, 0, none⟩)), (6, .pointer (some ⟨g4, 0, none⟩)), (7, .int .i64 (((k + x.1 : Nat) : Int))), (8, .slice x.2.1 (lvlS k l x.1).length x.2.2)]) (fun _ _ h => h.1) ⟨Nat.zero_le _, rfl⟩ H12 ?_ ?_ (fun _ _ _ _ h => h.elim) ?_
  · rintro l1 x Ly W13 H14
    have hL : ¬ LetsOut (fun (_ : Exit) (_ : Act) (_ : World) => False) := fun ⟨_, _, h⟩ => h
    refine g_weak [(4, .pointer (some ⟨g1, 0, none⟩)), (6, .pointer (some ⟨g4, 0, none⟩)), (12, .int .i64 (((k + x.1 : Nat) : Int))), (13, .slice x.2.1 (lvlS k l x.1).length x.2.2)] ⟨rfl, rfl, rfl, rfl, trivial⟩ ?_
    refine R.g_seq ?_
    refine R.g_region ?_
    refine R.l_of rfl (fun h => hL h) (s_val (v := .int .i64 (((k + x.1 : Nat) : Int))) (wt0 rfl) rfl rfl (x_assign rfl rfl) ?_)
    refine R.g_nil ?_
    refine g_then ?_
    refine R.g_region ?_
    refine R.l_of rfl (fun h => hL h) (s_val (v := .slice x.2.1 (lvlS k l x.1).length x.2.2) (wt0 rfl) rfl rfl (x_assign rfl rfl) ?_)
    refine R.g_nil ?_
    refine g_then ?_
    exact rs_assign ⟨rfl, rfl, rfl, rfl, trivial⟩ H14
  · rintro l1 pr x I Kx _ W15 ⟨hpr, rfl⟩ hphi H16
    obtain ⟨i, xp, xc⟩ := x
    obtain ⟨hi1, hi2⟩ := hphi
    replace hi1 : i = pr.length := hi1
    replace hi2 : ∀ W, (Old w no).ok W → I.ok W → Reads W xp (lvlS k l i).length xc 1 (stV (lvlS k l i)) := hi2
    replace H16 : S W15 [Old w no, I, Kx, Ob g4 (.cells #[.slice none 0 0] 22 (0, 0)), Ob g1 (.cells #[.int .i64 (((k + r : Nat) : Int))] 3 (0, 0))] := H16
    refine g_weak [(4, .pointer (some ⟨g1, 0, none⟩)), (6, .pointer (some ⟨g4, 0, none⟩)), (7, .int .i64 (((k + i : Nat) : Int))), (8, .slice xp (lvlS k l i).length xc)] ⟨rfl, rfl, rfl, rfl, trivial⟩ ?_
    refine R.g_block ?_
    refine R.g_seq ?_
    refine R.g_region ?_
    refine R.l_of rfl (fun ⟨_, _, h⟩ => h) (s_val (v := .int .i64 (((k + i : Nat) : Int))) (wt0 rfl) rfl rfl (x_move rfl rfl) ?_)
    refine R.l_of rfl (fun ⟨_, _, h⟩ => h) (s_val (v := .int .i64 (((k + r : Nat) : Int))) (wt0 rfl) rfl rfl (x_load1 H16 4 rfl rfl Try.underlying3 rfl rfl rfl) ?_)
    refine R.l_of rfl (fun ⟨_, _, h⟩ => h) (s_val (v := .bool (decide ((((k + i : Nat) : Int) : Int) = ((k + r : Nat) : Int)))) (wt0 rfl) rfl rfl (x_bin rfl rfl rfl b_eql) ?_)
    refine R.g_nil ?_
    refine g_then ?_
    by_cases hb17 : (((k + i : Nat) : Int) : Int) = ((k + r : Nat) : Int)
    · skip
      have hir : r = i := by omega
      subst hir
      refine R.g_cond_t rfl (decide_eq_true hb17) ?_
      refine R.g_seq ?_
      refine R.g_region ?_
      refine R.l_of rfl (fun ⟨_, _, h⟩ => h) (s_val (v := .slice xp (lvlS k l r).length xc) (wt0 rfl) rfl rfl (x_move rfl rfl) ?_)
      refine R.l_of rfl (fun ⟨_, _, h⟩ => h) (s_call (wt0 rfl) (x_call' rfl rfl cl87) (clone_s (lvlS k l r) xp _ xc h1 (by omega) _ (hi2 _ (H16.at (k := 0) rfl) (H16.at (k := 1) rfl))) ?_)
      rintro _ wq20 ⟨p18, c19, rfl, H21⟩
      replace H21 : S wq20 [Rw 9 1 p18 (lvlS k l r).length c19 (stV (lvlS k l r)), Old w no, I, Kx, Ob g4 (.cells #[.slice none 0 0] 22 (0, 0)), Ob g1 (.cells #[.int .i64 (((k + r : Nat) : Int))] 3 (0, 0))] := H16.absorb (new := [Rw 9 1 p18 (lvlS k l r).length c19 (stV (lvlS k l r))]) H21
      refine b_ret rfl rfl ?_
      refine R.l_of rfl (fun ⟨_, _, h⟩ => h) (s_store H21 4 (wt0 rfl) rfl rfl rfl rfl rfl sz22 rfl rfl (cs' := #[.slice p18 (lvlS k l r).length c19]) rfl ?_)
      intro wq22 H23
      refine R.g_nil ?_
      refine g_then ?_
      refine R.g_ret ?_
      refine g_in_ret ?_
      exact rs_stop ⟨p18, c19, rfl⟩ (H23.takes [1, 2, 3, 0, 4, 5] (by decide))
    · skip
      refine R.g_cond_f rfl (decide_eq_false hb17) ?_
      refine R.g_skip ?_
      refine g_in ?_
      exact rs_next ⟨by rw [List.length_append, List.length_singleton]; omega, rfl⟩ H16
  · rintro D pr _ W24 _ ⟨p', c', rfl⟩ H25
    replace H25 : S W24 [Ob D (.deferred (some [])), Old w no, Rw 9 1 p' (lvlS k l r).length c' (stV (lvlS k l r)), Ob g4 (.cells #[.slice p' (lvlS k l r).length c'] 22 (0, 0)), Ob g1 (.cells #[.int .i64 (((k + r : Nat) : Int))] 3 (0, 0))] := H25
    refine g_in_ret ?_
    refine g_then_ret ?_
    refine fin_mark H25 0 rfl [.cell 6 22] [.slice p' (lvlS k l r).length c'] rfl (fun wq26 H27 => ⟨⟨⟨_, rfl, run_load1 Try.underlying22 rfl (H27.cell (k := 3) rfl rfl)⟩, trivial⟩, ?_⟩)
    replace H27 : S wq26 [Ob D (.deferred none), Old w no, Rw 9 1 p' (lvlS k l r).length c' (stV (lvlS k l r)), Ob g4 (.cells #[.slice p' (lvlS k l r).length c'] 22 (0, 0)), Ob g1 (.cells #[.int .i64 (((k + r : Nat) : Int))] 3 (0, 0))] := H27
    exact ⟨_, _, rfl, H27.takes [2, 1] (by decide)⟩
end Go.Proofs.Ytlajgickimgigaa
