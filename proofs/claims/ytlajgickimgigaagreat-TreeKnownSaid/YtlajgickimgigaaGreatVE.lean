import Derived.Test.YtlajgickimgigaaGreatVD
set_option linter.unusedSimpArgs false
set_option linter.unusedVariables false
namespace Go.Proofs.YtlajgickimgigaaGreat
open Go.RowKit

theorem sz68 : szO Tryz.prog 68 = some 1 := by kernel_rfl
theorem ze68 : zeO Tryz.prog 68 = some (.map none) := by kernel_rfl
theorem lvM_root {l : List ByteArray} (hc : checkE l = 0) : lvM l (tallN l.length + 1) (tallN l.length, 0) = some (rootS l).1 := by
  obtain ⟨h1, h2, h3⟩ := check_spec hc
  rw [lvM_get h1 _ _ _ (by omega) (by have := countN_pos l.length (tallN l.length); omega)]
  unfold rootS; rw [if_pos hc]
theorem lookR_S {o : Option ByteArray} {a : ByteArray} (h : o = some a) : (o.map Value.string).getD (.string ⟨#[]⟩) = .string a := by rw [h]; rfl
set_option maxRecDepth 20000 in
set_option maxHeartbeats 4000000 in
set_option maxRecDepth 20000 in
set_option maxHeartbeats 4000000 in
theorem of_s (l : List ByteArray) (p : Option Addr) (c : Nat) (hm : l.length ≤ 1099511627776) (w : World) (hr : Reads w p l.length c 1 (stV l)) : Calls Tryz.prog 7 #[.slice p l.length c] w fun e w' => (checkE l = 0 ∧ ∃ tg mg, e = .returned (.tuple #[.pointer (some ⟨tg, 0, none⟩), .int .i64 0]) ∧ S w' ([Ob tg (.cells #[.int .i64 ((l.length : Int)), .int .i64 (((tallN l.length) : Int)), .string ((rootS l).1), .map (some mg)] 75 (0, 0)), Mp placeV Value.string placeOk mg (lvM l ((tallN l.length) + 1))] ++ [Old w no])) ∨ (¬ checkE l = 0 ∧ e = .returned (.tuple #[.pointer none, .int .i64 (checkE l)]) ∧ S w' [Old w no]) := by
  have H0 := S.old w
  refine enter_w 43 Tryz.func7 rfl rfl rfl ?_
  have hL : ¬ LetsOut (bodyPostW Tryz.prog Tryz.f7 fun e w' => (checkE l = 0 ∧ ∃ tg mg, e = .returned (.tuple #[.pointer (some ⟨tg, 0, none⟩), .int .i64 0]) ∧ S w' ([Ob tg (.cells #[.int .i64 ((l.length : Int)), .int .i64 (((tallN l.length) : Int)), .string ((rootS l).1), .map (some mg)] 75 (0, 0)), Mp placeV Value.string placeOk mg (lvM l ((tallN l.length) + 1))] ++ [Old w no])) ∨ (¬ checkE l = 0 ∧ e = .returned (.tuple #[.pointer none, .int .i64 (checkE l)]) ∧ S w' [Old w no])) := by
    rintro ⟨_, _, h⟩
    rcases h with ⟨_, _, _, h, _⟩ | ⟨_, h, _⟩ <;> cases h
  refine g_weak [(0, .slice p l.length c)] ⟨rfl, trivial⟩ ?_
  refine R.g_seq ?_
  refine R.g_region ?_
  refine R.l_of rfl (fun h => hL h) (s_val (v := .pointer none) (wt0 rfl) rfl rfl (x_assign rfl rfl) ?_)
  refine R.l_of rfl (fun h => hL h) (s_alloc H0 (wt0 rfl) rfl rfl rfl ze26 ?_)
  intro g1 wq2 H3
  refine R.g_nil ?_
  refine g_then ?_
  refine R.g_seq ?_
  refine R.g_region ?_
  refine l_defer (wt0 rfl) rfl (xd_defer rfl rfl rfl) ?_
  refine R.g_nil ?_
  refine g_then ?_
  refine R.g_seq ?_
  refine R.g_region ?_
  refine R.l_of rfl (fun h => hL h) (s_val (v := .slice p l.length c) (wt0 rfl) rfl rfl (x_move rfl rfl) ?_)
  refine R.l_of rfl (fun h => hL h) (s_call (wt0 rfl) (x_call' rfl rfl cl31) (open_s l p l.length c rfl hm _ (H3.oldReads (k := 1) rfl hr)) ?_)
  rintro _ wq4 ⟨rfl, H5⟩
  replace H5 : S wq4 [Ob g1 (.cells #[.int .i64 0] 26 (0, 0)), Old w no] := H3.absorb (new := []) H5
  by_cases hce : checkE l = 0
  · skip
    rw [show openV l = .returned (.agg #[.int .i64 ((l.length : Int)), .int .i64 (((tallN l.length : Nat) : Int))]) from if_pos hce]
    obtain ⟨hc1, hc2, hc3⟩ := check_spec hce
    have ht12 := tall_le12 hc2
    refine b_ret rfl rfl ?_
    refine R.l_of rfl (fun h => hL h) (s_alloc H5 (wt0 rfl) rfl rfl rfl ze65 ?_)
    intro g6 wq7 H8
    refine R.l_of rfl (fun h => hL h) (s_store H8 0 (wt0 rfl) rfl rfl rfl rfl rfl sz65 rfl rfl (cs' := #[.int .i64 ((l.length : Int)), .int .i64 (((tallN l.length : Nat) : Int))]) rfl ?_)
    intro wq9 H10
    refine R.g_nil ?_
    refine g_then ?_
    refine R.g_seq ?_
    refine R.g_region ?_
    refine R.l_of rfl (fun h => hL h) (s_makeMap (α := ByteArray) placeV Value.string placeOk H10 (wt0 rfl) rfl rfl rfl ?_)
    intro mg11 wq12 H13
    replace H13 : S wq12 [Mp placeV Value.string placeOk mg11 (fun _ => none), Ob g6 (.cells #[.int .i64 ((l.length : Int)), .int .i64 (((tallN l.length : Nat) : Int))] 65 (0, 0)), Ob g1 (.cells #[.int .i64 0] 26 (0, 0)), Old w no] := H13
    refine R.l_of rfl (fun h => hL h) (s_alloc H13 (wt0 rfl) rfl rfl rfl ze68 ?_)
    intro g14 wq15 H16
    refine R.l_of rfl (fun h => hL h) (s_store H16 0 (wt0 rfl) rfl rfl rfl rfl rfl sz68 rfl rfl (cs' := #[.map (some mg11)]) rfl ?_)
    intro wq17 H18
    refine R.g_nil ?_
    refine g_then ?_
    refine R.g_seq ?_
    refine R.g_seq ?_
    refine R.g_region ?_
    refine R.l_of rfl (fun h => hL h) (s_val (v := .slice p l.length c) (wt0 rfl) rfl rfl (x_move rfl rfl) ?_)
    refine R.l_of rfl (fun h => hL h) (s_call (wt0 rfl) (x_call' rfl rfl cl33) (levels_s _ _ _ _ _) ?_)
    rintro _ wq22 ⟨b19, b20, b21, rfl, H23⟩
    replace H23 : S wq22 [Ob b21 (.cells #[.func (.func 28) #[] #[]] 61 (0, 0)), Ob b20 (.cells #[.slice p l.length c] 22 (0, 0)), Ob b19 (.cells #[.int .i64 0] 3 (0, 0)), Ob g14 (.cells #[.map (some mg11)] 68 (0, 0)), Mp placeV Value.string placeOk mg11 (fun _ => none), Ob g6 (.cells #[.int .i64 ((l.length : Int)), .int .i64 (((tallN l.length : Nat) : Int))] 65 (0, 0)), Ob g1 (.cells #[.int .i64 0] 26 (0, 0)), Old w no] := H18.absorb (new := [Ob b21 (.cells #[.func (.func 28) #[] #[]] 61 (0, 0)), Ob b20 (.cells #[.slice p l.length c] 22 (0, 0)), Ob b19 (.cells #[.int .i64 0] 3 (0, 0))]) H23
    refine b_ret rfl rfl ?_
    refine R.g_nil ?_
    refine g_then ?_
    refine R.g_block ?_
    have H24 : S wq22 (Old w no :: Big [Ob b21 (.cells #[.func (.func 28) #[] #[]] 61 (0, 0)), Ob b20 (.cells #[.slice p l.length c] 22 (0, 0)), Ob b19 (.cells #[.int .i64 ((0 : Nat) : Int)] 3 (0, 0))] :: [Mp placeV Value.string placeOk mg11 (lvM l 0), Ob g14 (.cells #[.map (some mg11)] 68 (0, 0)), Ob g6 (.cells #[.int .i64 ((l.length : Int)), .int .i64 (((tallN l.length : Nat) : Int))] 65 (0, 0)), Ob g1 (.cells #[.int .i64 0] 26 (0, 0))]) := S.big1 (A := [_, _, _]) (H23.takes [7, 0, 1, 2, 4, 3, 5, 6] (by decide))
    refine g_rangeX 0 (α := Lx) (encs := encL 0 l) (base := Old w no) (by omega) rfl cl69 (levels_it (k := 0) (M := (tallN l.length)) (by omega) (by omega) rfl hr (digs_size hc3) (by omega)) (fun _ => rfl) rfl (fun pre Lx => pre.length ≤ (tallN l.length) ∧ Lx = [Mp placeV Value.string placeOk mg11 (lvM l pre.length), Ob g14 (.cells #[.map (some mg11)] 68 (0, 0)), Ob g6 (.cells #[.int .i64 ((l.length : Int)), .int .i64 (((tallN l.length : Nat) : Int))] 65 (0, 0)), Ob g1 (.cells #[.int .i64 0] 26 (0, 0))]) (fun _ Lx => Lx = [Mp placeV Value.string placeOk mg11 (lvM l ((tallN l.length) + 1)), Ob g14 (.cells #[.map (some mg11)] 68 (0, 0)), Ob g6 (.cells #[.int .i64 ((l.length : Int)), .int .i64 (((tallN l.length : Nat) : Int))] 65 (0, 0)), Ob g1 (.cells #[.int .i64 0] 26 (0, 0))]) (fun x => [(4, .pointer (some ⟨g6, 0, none⟩)), (5, .pointer (some ⟨g14, 0, none⟩)), (6, .int .i64 (((0 + x.1 : Nat) : Int))), (7, .slice x.2.1 (lvlS 0 l x.1).length x.2.2)]) (fun _ _ h => h.1) ⟨Nat.zero_le _, rfl⟩ H24 ?_ ?_ (fun _ _ _ _ h => h.elim) ?_
    · rintro l1 x Ly W25 H26
      have hL : ¬ LetsOut (fun (_ : Exit) (_ : Act) (_ : World) => False) := fun ⟨_, _, h⟩ => h
      refine g_weak [(4, .pointer (some ⟨g6, 0, none⟩)), (5, .pointer (some ⟨g14, 0, none⟩)), (15, .int .i64 (((0 + x.1 : Nat) : Int))), (16, .slice x.2.1 (lvlS 0 l x.1).length x.2.2)] ⟨rfl, rfl, rfl, rfl, trivial⟩ ?_
      refine R.g_seq ?_
      refine R.g_region ?_
      refine R.l_of rfl (fun h => hL h) (s_val (v := .int .i64 (((0 + x.1 : Nat) : Int))) (wt0 rfl) rfl rfl (x_assign rfl rfl) ?_)
      refine R.g_nil ?_
      refine g_then ?_
      refine R.g_region ?_
      refine R.l_of rfl (fun h => hL h) (s_val (v := .slice x.2.1 (lvlS 0 l x.1).length x.2.2) (wt0 rfl) rfl rfl (x_assign rfl rfl) ?_)
      refine R.g_nil ?_
      refine g_then ?_
      exact rs_assign ⟨rfl, rfl, rfl, rfl, trivial⟩ H26
    · rintro l1 pr x I Kx _ W27 ⟨hpr, rfl⟩ hphi H28
      obtain ⟨i, xp, xc⟩ := x
      obtain ⟨hi1, hi2⟩ := hphi
      replace hi1 : i = pr.length := hi1
      subst hi1
      replace hi2 : ∀ W, (Old w no).ok W → I.ok W → Reads W xp (lvlS 0 l pr.length).length xc 1 (stV (lvlS 0 l pr.length)) := hi2
      have hll := lvl_count (l := l) (by omega) pr.length
      have hcl := count_le (n := l.length) (v := pr.length) (by omega) (by omega) hpr
      have hpw : 2 ^ ((tallN l.length) - pr.length) ≤ 4096 := Nat.pow_le_pow_right (by omega) (show (tallN l.length) - pr.length ≤ 12 by omega)
      replace H28 : S W27 [Old w no, I, Kx, Mp placeV Value.string placeOk mg11 (lvM l pr.length), Ob g14 (.cells #[.map (some mg11)] 68 (0, 0)), Ob g6 (.cells #[.int .i64 ((l.length : Int)), .int .i64 (((tallN l.length : Nat) : Int))] 65 (0, 0)), Ob g1 (.cells #[.int .i64 0] 26 (0, 0))] := H28
      refine g_weak [(4, .pointer (some ⟨g6, 0, none⟩)), (5, .pointer (some ⟨g14, 0, none⟩)), (6, .int .i64 (((0 + pr.length : Nat) : Int))), (7, .slice xp (lvlS 0 l pr.length).length xc)] ⟨rfl, rfl, rfl, rfl, trivial⟩ ?_
      rw [Nat.zero_add]
      refine R.g_block ?_
      refine R.g_seq ?_
      refine R.g_seq ?_
      refine R.g_region ?_
      refine R.l_of rfl (fun ⟨_, _, h⟩ => h) (s_val (v := .slice xp (lvlS 0 l pr.length).length xc) (wt0 rfl) rfl rfl (x_move rfl rfl) ?_)
      refine R.l_of rfl (fun ⟨_, _, h⟩ => h) (s_val (v := .int .i64 (((lvlS 0 l pr.length).length : Int))) (wt0 rfl) rfl rfl (x_lenl rfl rfl Tryz.underlying22) ?_)
      refine R.l_of rfl (fun ⟨_, _, h⟩ => h) (s_val (v := .int .i64 0) (wt0 rfl) rfl rfl (x_move rfl rfl) ?_)
      refine R.g_nil ?_
      refine g_then ?_
      refine R.g_block ?_
      refine R.g_loop (ι := Nat) (fun j => [(4, .pointer (some ⟨g6, 0, none⟩)), (5, .pointer (some ⟨g14, 0, none⟩)), (6, .int .i64 ((pr.length : Int))), (17, .slice xp (lvlS 0 l pr.length).length xc), (18, .int .i64 (((lvlS 0 l pr.length).length : Int))), (19, .int .i64 ((j : Int)))]) (fun j wx => (j ≤ (lvlS 0 l pr.length).length) ∧ S wx [Old w no, I, Kx, Mp placeV Value.string placeOk mg11 (rowZ (lvM l pr.length) pr.length (lvlS 0 l pr.length) j), Ob g14 (.cells #[.map (some mg11)] 68 (0, 0)), Ob g6 (.cells #[.int .i64 ((l.length : Int)), .int .i64 (((tallN l.length : Nat) : Int))] 65 (0, 0)), Ob g1 (.cells #[.int .i64 0] 26 (0, 0))]) (fun j => (lvlS 0 l pr.length).length - j) (0) ⟨rfl, rfl, rfl, rfl, rfl, rfl, trivial⟩ ⟨Nat.zero_le _, H28⟩ ?_
      rintro j wq29 ⟨hj, H30⟩
      replace H30 : S wq29 [Old w no, I, Kx, Mp placeV Value.string placeOk mg11 (rowZ (lvM l pr.length) pr.length (lvlS 0 l pr.length) j), Ob g14 (.cells #[.map (some mg11)] 68 (0, 0)), Ob g6 (.cells #[.int .i64 ((l.length : Int)), .int .i64 (((tallN l.length : Nat) : Int))] 65 (0, 0)), Ob g1 (.cells #[.int .i64 0] 26 (0, 0))] := H30
      refine g_weak [(4, .pointer (some ⟨g6, 0, none⟩)), (5, .pointer (some ⟨g14, 0, none⟩)), (6, .int .i64 ((pr.length : Int))), (17, .slice xp (lvlS 0 l pr.length).length xc), (18, .int .i64 (((lvlS 0 l pr.length).length : Int))), (19, .int .i64 ((j : Int)))] ⟨rfl, rfl, rfl, rfl, rfl, rfl, trivial⟩ ?_
      refine R.g_seq ?_
      refine R.g_region ?_
      refine R.l_of rfl (fun ⟨_, _, h⟩ => h) (s_val (v := .bool (decide (((j : Int) : Int) < ((lvlS 0 l pr.length).length : Int)))) (wt0 rfl) rfl rfl (x_bin rfl rfl rfl b_lss) ?_)
      refine R.g_nil ?_
      refine g_then ?_
      refine R.g_seq ?_
      by_cases hb31 : ((j : Int) : Int) < ((lvlS 0 l pr.length).length : Int)
      · skip
        refine R.g_cond_t rfl (decide_eq_true hb31) ?_
        refine R.g_skip ?_
        refine g_then ?_
        refine R.g_seq ?_
        refine R.g_block ?_
        refine R.g_seq ?_
        refine R.g_region ?_
        refine R.l_of rfl (fun ⟨_, _, h⟩ => h) (s_val (v := .int .i64 ((j : Int))) (wt0 rfl) rfl rfl (x_move rfl rfl) ?_)
        refine R.l_of rfl (fun ⟨_, _, h⟩ => h) (s_val (v := .pointer ((xp).map fun q => q.add (j * 1))) (wt0 rfl) rfl rfl (x_idxR j (hi2 _ (H30.at (k := 0) rfl) (H30.at (k := 1) rfl)) rfl rfl rfl Tryz.underlying22 sz9 (by omega)) ?_)
        refine R.l_of rfl (fun ⟨_, _, h⟩ => h) (s_val (v := .string (((lvlS 0 l pr.length).getD (j) ⟨#[]⟩))) (wt0 rfl) rfl rfl (x_loadR1 j (hi2 _ (H30.at (k := 0) rfl) (H30.at (k := 1) rfl)) (by omega) rfl rfl Tryz.underlying9 rfl (stV_at (by omega))) ?_)
        refine R.l_of rfl (fun ⟨_, _, h⟩ => h) (s_val (v := .int .i64 ((j : Int))) (wt0 rfl) rfl rfl (x_assign rfl rfl) ?_)
        refine R.l_of rfl (fun ⟨_, _, h⟩ => h) (s_val (v := .string (((lvlS 0 l pr.length).getD (j) ⟨#[]⟩))) (wt0 rfl) rfl rfl (x_assign rfl rfl) ?_)
        refine R.g_nil ?_
        refine g_then ?_
        refine R.g_region ?_
        refine R.l_of rfl (fun ⟨_, _, h⟩ => h) (s_val (v := .map (some mg11)) (wt0 rfl) rfl rfl (x_load1 H30 4 rfl rfl Tryz.underlying68 rfl rfl rfl) ?_)
        refine R.l_of rfl (fun ⟨_, _, h⟩ => h) (s_val (v := .int .i64 ((pr.length : Int))) (wt0 rfl) rfl rfl (x_move rfl rfl) ?_)
        refine R.l_of rfl (fun ⟨_, _, h⟩ => h) (s_val (v := .int .i64 ((j : Int))) (wt0 rfl) rfl rfl (x_move rfl rfl) ?_)
        refine R.l_of rfl (fun ⟨_, _, h⟩ => h) (s_val (v := .agg #[.int .i64 ((pr.length : Int)), .int .i64 ((j : Int))]) (wt0 rfl) rfl rfl (x_build (vs := [.int .i64 ((pr.length : Int)), .int .i64 ((j : Int))]) rfl rfl (cells := #[.int .i64 ((pr.length : Int)), .int .i64 ((j : Int))]) (by kernel_rfl)) ?_)
        refine R.l_of rfl (fun ⟨_, _, h⟩ => h) (s_val (v := .string (((lvlS 0 l pr.length).getD (j) ⟨#[]⟩))) (wt0 rfl) rfl rfl (x_move rfl rfl) ?_)
        refine R.l_of rfl (fun ⟨_, _, h⟩ => h) (s_mapUpdate (x := (pr.length, j)) (a := ((lvlS 0 l pr.length).getD (j) ⟨#[]⟩)) placeT H30 3 (wt0 rfl) rfl rfl rfl rfl rfl rfl ⟨by (show _ ≤ 1099511627776); omega, by (show _ ≤ 1099511627776); omega⟩ ?_)
        intro wq32 H33
        replace H33 : S wq32 [Old w no, I, Kx, Mp placeV Value.string placeOk mg11 (rowZ (lvM l pr.length) pr.length (lvlS 0 l pr.length) (j + 1)), Ob g14 (.cells #[.map (some mg11)] 68 (0, 0)), Ob g6 (.cells #[.int .i64 ((l.length : Int)), .int .i64 (((tallN l.length : Nat) : Int))] 65 (0, 0)), Ob g1 (.cells #[.int .i64 0] 26 (0, 0))] := H33
        refine R.g_nil ?_
        refine g_in ?_
        refine g_then ?_
        refine R.g_region ?_
        refine R.l_of rfl (fun ⟨_, _, h⟩ => h) (s_val (v := .int .i64 ((j : Int) + 1)) (wt0 rfl) rfl rfl (x_bin rfl rfl rfl (b_add (w64 (by omega)))) ?_)
        refine R.l_of rfl (fun ⟨_, _, h⟩ => h) (s_val (v := .int .i64 ((j : Int) + 1)) (wt0 rfl) rfl rfl (x_move rfl rfl) ?_)
        refine R.g_nil ?_
        refine g_then ?_
        refine g_round (i := (j)) (j + 1) ?_ ?_ ?_
        · exact ⟨rfl, rfl, rfl, rfl, rfl, rfl, trivial⟩
        · exact ⟨by omega, H33⟩
        · (try dsimp only); omega
      · skip
        have hjj : j = (lvlS 0 l pr.length).length := by omega
        subst hjj
        refine R.g_cond_f rfl (decide_eq_false hb31) ?_
        refine R.g_exit ?_
        refine g_then_exit ?_
        refine g_then_exit ?_
        refine g_in_hit ?_
        refine g_then ?_
        refine R.g_seq ?_
        refine R.g_region ?_
        refine R.l_of rfl (fun ⟨_, _, h⟩ => h) (s_val (v := .int .i64 ((pr.length : Int))) (wt0 rfl) rfl rfl (x_move rfl rfl) ?_)
        refine R.l_of rfl (fun ⟨_, _, h⟩ => h) (s_val (v := .pointer (some ⟨g6, 1, none⟩)) (wt0 rfl) rfl rfl (x_fieldAddr rfl rfl fo65_1 rfl) ?_)
        refine R.l_of rfl (fun ⟨_, _, h⟩ => h) (s_val (v := .int .i64 (((tallN l.length : Nat) : Int))) (wt0 rfl) rfl rfl (x_load1 H30 5 rfl rfl Tryz.underlying3 rfl rfl rfl) ?_)
        refine R.l_of rfl (fun ⟨_, _, h⟩ => h) (s_val (v := .bool (decide (((pr.length : Int) : Int) = ((tallN l.length : Nat) : Int)))) (wt0 rfl) rfl rfl (x_bin rfl rfl rfl b_eql) ?_)
        refine R.g_nil ?_
        refine g_then ?_
        by_cases hb34 : ((pr.length : Int) : Int) = ((tallN l.length : Nat) : Int)
        · skip
          refine R.g_cond_t rfl (decide_eq_true hb34) ?_
          refine R.g_exit ?_
          refine g_in_miss rfl ?_
          have hpT : pr.length = (tallN l.length) := by omega
          have H35 := H30.takes [0, 1, 2, 3, 4, 5, 6] (by decide)
          exact rx_stop (by rw [show lvM l ((tallN l.length) + 1) = rowZ (lvM l pr.length) pr.length (lvlS 0 l pr.length) (lvlS 0 l pr.length).length from by rw [← hpT]; rfl]; rfl) H35
        · skip
          refine R.g_cond_f rfl (decide_eq_false hb34) ?_
          refine R.g_skip ?_
          refine g_in ?_
          have e1 : (pr ++ [(pr.length, xp, xc)]).length = pr.length + 1 := by simp
          exact rx_next ⟨by rw [e1]; omega, by rw [e1]; rfl⟩ (H30.takes [0, 1, 2, 3, 4, 5, 6] (by decide))
    · rintro D pr _ W36 _ rfl H37
      replace H37 : S W36 [Ob D (.deferred (some [])), Old w no, Mp placeV Value.string placeOk mg11 (lvM l ((tallN l.length) + 1)), Ob g14 (.cells #[.map (some mg11)] 68 (0, 0)), Ob g6 (.cells #[.int .i64 ((l.length : Int)), .int .i64 (((tallN l.length : Nat) : Int))] 65 (0, 0)), Ob g1 (.cells #[.int .i64 0] 26 (0, 0))] := H37
      refine g_in_hit ?_
      refine g_then ?_
      refine R.g_seq ?_
      refine R.g_anyY [(0, .slice p l.length c), (3, .pointer (some ⟨g1, 0, none⟩)), (4, .pointer (some ⟨g6, 0, none⟩)), (5, .pointer (some ⟨g14, 0, none⟩)), (10, .slice p l.length c), (11, .agg #[.int .i64 ((l.length : Int)), .int .i64 (((tallN l.length : Nat) : Int))]), (12, .map (some mg11)), (13, .slice p l.length c), (14, .func (.func 69) #[] #[.pointer (some ⟨b19, 0, none⟩), .pointer (some ⟨b20, 0, none⟩), .pointer (some ⟨b21, 0, none⟩)])] (fun wx => S wx [Ob D (.deferred (some [])), Old w no, Mp placeV Value.string placeOk mg11 (lvM l ((tallN l.length) + 1)), Ob g14 (.cells #[.map (some mg11)] 68 (0, 0)), Ob g6 (.cells #[.int .i64 ((l.length : Int)), .int .i64 (((tallN l.length : Nat) : Int))] 65 (0, 0)), Ob g1 (.cells #[.int .i64 0] 26 (0, 0))]) (fun wx => S wx [Ob D (.deferred (some [])), Old w no, Mp placeV Value.string placeOk mg11 (lvM l ((tallN l.length) + 1)), Ob g14 (.cells #[.map (some mg11)] 68 (0, 0)), Ob g6 (.cells #[.int .i64 ((l.length : Int)), .int .i64 (((tallN l.length : Nat) : Int))] 65 (0, 0))]) [10] (by kernel_rfl) (by kernel_rfl) (fun h => hL h) H37 (fun wq38 H39 => ?_)
      refine y_take (v := .agg #[.int .i64 ((l.length : Int)), .int .i64 (((tallN l.length : Nat) : Int))]) 0 rfl (wt0 rfl) rfl rfl rfl (by kernel_rfl) (by kernel_rfl) (by kernel_rfl) (by kernel_rfl) (by kernel_rfl) H39 (fun wx H => x_loadA H 4 rfl rfl Tryz.underlying65 rfl sz65 rfl rfl rfl) ?_
      refine y_take (v := .map (some mg11)) 1 rfl (wt0 rfl) rfl rfl rfl (by kernel_rfl) (by kernel_rfl) (by kernel_rfl) (by kernel_rfl) (by kernel_rfl) H39 (fun wx H => x_load1 H 3 rfl rfl Tryz.underlying68 rfl rfl rfl) ?_
      refine y_pure (v := .pointer (some ⟨g6, 1, none⟩)) 2 rfl (wt0 rfl) rfl rfl rfl (by kernel_rfl) (by kernel_rfl) (by kernel_rfl) (by kernel_rfl) (fun wx => x_fieldAddr rfl rfl fo65_1 rfl) ?_
      refine y_take (v := .int .i64 (((tallN l.length : Nat) : Int))) 3 rfl (wt0 rfl) rfl rfl rfl (by kernel_rfl) (by kernel_rfl) (by kernel_rfl) (by kernel_rfl) (by kernel_rfl) H39 (fun wx H => x_load1 H 4 rfl rfl Tryz.underlying3 rfl rfl rfl) ?_
      refine y_pure (v := .agg #[.int .i64 (((tallN l.length : Nat) : Int)), .int .i64 0]) 4 rfl (wt0 rfl) rfl rfl rfl (by kernel_rfl) (by kernel_rfl) (by kernel_rfl) (by kernel_rfl) (fun wx => x_build (vs := [.int .i64 (((tallN l.length : Nat) : Int)), .int .i64 0]) rfl rfl (cells := #[.int .i64 (((tallN l.length : Nat) : Int)), .int .i64 0]) (by kernel_rfl)) ?_
      refine y_take (v := .string ((rootS l).1)) 5 rfl (wt0 rfl) rfl rfl rfl (by kernel_rfl) (by kernel_rfl) (by kernel_rfl) (by kernel_rfl) (by kernel_rfl) H39 (fun wx H => ex_cast (x_lookup1 (x := ((tallN l.length), 0)) placeT H 2 rfl rfl rfl rfl ⟨by (show _ ≤ 1099511627776); omega, by (show _ ≤ 1099511627776); omega⟩ ze9) (lookR_S (lvM_root hce))) ?_
      refine y_take (v := .map (some mg11)) 6 rfl (wt0 rfl) rfl rfl rfl (by kernel_rfl) (by kernel_rfl) (by kernel_rfl) (by kernel_rfl) (by kernel_rfl) H39 (fun wx H => x_load1 H 3 rfl rfl Tryz.underlying68 rfl rfl rfl) ?_
      refine y_pure (v := .agg #[.int .i64 ((l.length : Int)), .int .i64 (((tallN l.length : Nat) : Int)), .string ((rootS l).1), .map (some mg11)]) 7 rfl (wt0 rfl) rfl rfl rfl (by kernel_rfl) (by kernel_rfl) (by kernel_rfl) (by kernel_rfl) (fun wx => x_build (vs := [.agg #[.int .i64 ((l.length : Int)), .int .i64 (((tallN l.length : Nat) : Int))], .string ((rootS l).1), .map (some mg11)]) rfl rfl (cells := #[.int .i64 ((l.length : Int)), .int .i64 (((tallN l.length : Nat) : Int)), .string ((rootS l).1), .map (some mg11)]) (by kernel_rfl)) ?_
      refine y_one (i := 8) (by kernel_rfl) rfl ?_
      refine s_box H39 (wt0 rfl) rfl rfl rfl rfl ?_
      intro g40 wq41 H42
      refine y_k (H42.mask [false, true, true, true, true, true, true]) (H42.mask [false, true, true, true, true, true, false]) ?_
      refine y_pure (v := .pointer (some ⟨g40, 0, none⟩)) 9 rfl (wt0 rfl) rfl rfl rfl (by kernel_rfl) (by kernel_rfl) (by kernel_rfl) (by kernel_rfl) (fun wx => x_assign rfl rfl) ?_
      refine y_one (i := 10) (by kernel_rfl) rfl ?_
      refine s_store H42 6 (wt0 rfl) rfl rfl rfl rfl rfl sz26 rfl rfl (cs' := #[.int .i64 0]) rfl ?_
      intro wq43 H44
      refine y_kt rfl (H44.mask [false, true, true, true, true, true, false]) ?_
      refine y_done (by kernel_rfl) ?_
      refine g_then ?_
      refine g_weak [(2, .pointer (some ⟨g40, 0, none⟩)), (3, .pointer (some ⟨g1, 0, none⟩))] ⟨rfl, rfl, trivial⟩ ?_
      refine R.g_ret ?_
      refine fin_wret ?_
      refine glw_mark (by simp) H44 (k := 1) rfl ?_
      intro wq45 H46
      replace H46 : S wq45 [Ob g40 (.cells #[.int .i64 ((l.length : Int)), .int .i64 (((tallN l.length : Nat) : Int)), .string ((rootS l).1), .map (some mg11)] 75 (0, 0)), Ob D (.deferred none), Old w no, Mp placeV Value.string placeOk mg11 (lvM l ((tallN l.length) + 1)), Ob g14 (.cells #[.map (some mg11)] 68 (0, 0)), Ob g6 (.cells #[.int .i64 ((l.length : Int)), .int .i64 (((tallN l.length : Nat) : Int))] 65 (0, 0)), Ob g1 (.cells #[.int .i64 0] 26 (0, 0))] := H46
      refine glw_step (by simp) cl30 (caught_n g1 _) ?_
      rintro _ _ wq47 ⟨⟨rfl, H48⟩, rfl⟩
      replace H48 : S wq47 [Ob g40 (.cells #[.int .i64 ((l.length : Int)), .int .i64 (((tallN l.length : Nat) : Int)), .string ((rootS l).1), .map (some mg11)] 75 (0, 0)), Ob D (.deferred none), Old w no, Mp placeV Value.string placeOk mg11 (lvM l ((tallN l.length) + 1)), Ob g14 (.cells #[.map (some mg11)] 68 (0, 0)), Ob g6 (.cells #[.int .i64 ((l.length : Int)), .int .i64 (((tallN l.length : Nat) : Int))] 65 (0, 0)), Ob g1 (.cells #[.int .i64 0] 26 (0, 0))] := H46.absorb (new := []) H48
      refine (?_ : GLW _ _ _ _ _ _ FrameMode.returning _)
      refine glw_ret [.tmp 2, .cell 3 26] [.pointer (some ⟨g40, 0, none⟩), .int .i64 0] rfl ⟨rfl, ⟨_, rfl, run_load1 Tryz.underlying26 rfl (H48.cell (k := 6) rfl rfl)⟩, trivial⟩ ?_
      exact .inl ⟨hce, g40, mg11, rfl, H48.takes [0, 3, 2] (by decide)⟩
  · skip
    rw [show openV l = .panicked [{ v := .iface 105 (.int .i64 (checkE l)), recovered := false }] from if_neg hce]
    refine b_panic ?_
    refine g_then_panic ?_
    refine fin_wpanic ?_
    refine glw_step (by simp) cl30 (caught_p g1 ((checkE l)) (0) [] _ (H5.ob (k := 0) rfl)) ?_
    rintro _ _ wq49 ⟨⟨rfl, H50⟩, rfl⟩
    replace H50 : S wq49 [Ob g1 (.cells #[.int .i64 ((checkE l))] 26 (0, 0)), Old w no] := H5.absorbK (new := [Ob g1 (.cells #[.int .i64 ((checkE l))] 26 (0, 0))]) [0] (by intro g hg; subst hg; exact ⟨0, rfl, _, rfl, rfl⟩) H50
    refine (?_ : GLW _ _ _ _ _ _ FrameMode.returning _)
    refine glw_ret [.tmp 2, .cell 3 26] [.pointer none, .int .i64 ((checkE l))] rfl ⟨rfl, ⟨_, rfl, run_load1 Tryz.underlying26 rfl (H50.cell (k := 0) rfl rfl)⟩, trivial⟩ ?_
    exact .inr ⟨hce, rfl, H50.mask [false, true]⟩
end Go.Proofs.YtlajgickimgigaaGreat
