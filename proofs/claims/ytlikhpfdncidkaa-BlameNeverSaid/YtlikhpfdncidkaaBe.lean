import Derived.Test.YtlikhpfdncidkaaBd
set_option linter.unusedSimpArgs false
set_option linter.unusedVariables false
namespace Go.Proofs.Ytlikhpfdncidkaa
open Go.RowKit

theorem sz9 : szO Try.prog 9 = some 1 := by kernel_rfl
def stV (l : List ByteArray) : List Value := l.map Value.string
theorem stV_at {l : List ByteArray} {j : Nat} {x : ByteArray} (h : l[j]? = some x) : (stV l)[j * 1]? = some (.string x) := by unfold stV; rw [Nat.mul_one, List.getElem?_map, h]; rfl
set_option maxRecDepth 20000 in
set_option maxHeartbeats 4000000 in
set_option maxRecDepth 20000 in
set_option maxHeartbeats 4000000 in
theorem alone_law (peer piece : Int) (hok_peer : okI peer) (hok_piece : okI piece) (p : Option Addr) (n c : Nat) (l : List ByteArray) (proved : Bool) (hn : n = l.length) (hn2 : n ≤ 9223372036854775807) (w : World) (hr : Reads w p n c 1 (stV l)) : Calls Try.prog 4 #[.int .i64 peer, .int .i64 piece, .slice p n c, .bool proved] w fun e w' => e = .returned (.bool true) ∧ S w' [Old w no] := by
  have H0 := S.old w
  refine enter 135 Try.func4 rfl rfl rfl ?_
  refine g_weak [(0, .int .i64 peer), (1, .int .i64 piece), (2, .slice p n c), (3, .bool proved)] ⟨rfl, rfl, rfl, rfl, trivial⟩ ?_
  refine g_seq ?_
  refine g_region ?_
  refine l_of (s_val (v := .bool false) (wt0 rfl) rfl rfl (x_assign rfl rfl) ?_)
  refine g_nil ?_
  refine g_then ?_
  refine g_seq ?_
  refine g_seq ?_
  refine g_region ?_
  refine l_of (s_val (v := .slice p n c) (wt0 rfl) rfl rfl (x_move rfl rfl) ?_)
  refine l_of (s_val (v := .int .i64 ((n : Int))) (wt0 rfl) rfl rfl (x_lenl rfl rfl Try.underlying34) ?_)
  refine l_of (s_val (v := .bool (decide (((n : Int) : Int) < 1))) (wt0 rfl) rfl rfl (x_bin rfl rfl rfl b_lss) ?_)
  refine l_of (s_val (v := .bool (decide (((n : Int) : Int) < 1))) (wt0 rfl) rfl rfl (x_move rfl rfl) ?_)
  by_cases hb1 : ((n : Int) : Int) < 1
  · skip
    refine l_of (s_not (wn1 rfl rfl rfl rfl (decide_eq_true hb1)) rfl rfl ?_)
    refine l_of (s_not (wn1 rfl rfl rfl rfl (decide_eq_true hb1)) rfl rfl ?_)
    refine l_of (s_not (wn1 rfl rfl rfl rfl (decide_eq_true hb1)) rfl rfl ?_)
    refine l_of (s_val (v := .bool true) (wt0 rfl) rfl rfl (x_pick_t rfl rfl (decide_eq_true hb1) rfl) ?_)
    refine g_nil ?_
    refine g_then ?_
    refine g_cond_t rfl rfl ?_
    refine g_seq ?_
    refine g_region ?_
    refine l_of (s_call (wt0 rfl) (x_call' rfl rfl cl8) (awake_s _) ?_)
    rintro _ wq2 ⟨rfl, H3⟩
    replace H3 : S wq2 [Old w no] := H0.absorb (new := []) H3
    refine b_ret rfl rfl ?_
    refine l_of (s_val (v := .bool true) (wt0 rfl) rfl rfl (x_assign rfl rfl) ?_)
    refine g_nil ?_
    refine g_then ?_
    refine g_weak [(8, .bool true)] ⟨rfl, trivial⟩ ?_
    refine g_ret ?_
    refine g_then_ret ?_
    refine fin_ret [.tmp 8] [.bool true] rfl ⟨rfl, trivial⟩ ?_
    exact ⟨rfl, H3.mask [true]⟩
  · skip
    refine l_of (s_val (v := .slice p n c) (wt1 rfl rfl rfl rfl (decide_eq_false hb1)) rfl rfl (x_move rfl rfl) ?_)
    refine l_of (s_val (v := .int .i64 ((n : Int))) (wt1 rfl rfl rfl rfl (decide_eq_false hb1)) rfl rfl (x_lenl rfl rfl Try.underlying34) ?_)
    refine l_of (s_val (v := .bool (decide ((8 : Int) < (n : Int)))) (wt1 rfl rfl rfl rfl (decide_eq_false hb1)) rfl rfl (x_bin rfl rfl rfl b_gtr) ?_)
    refine l_of (s_val (v := .bool (decide ((8 : Int) < (n : Int)))) (wt0 rfl) rfl rfl (x_pick_f rfl rfl (decide_eq_false hb1) rfl) ?_)
    refine g_nil ?_
    refine g_then ?_
    by_cases hb4 : (8 : Int) < (n : Int)
    · skip
      refine g_cond_t rfl (decide_eq_true hb4) ?_
      refine g_seq ?_
      refine g_region ?_
      refine l_of (s_call (wt0 rfl) (x_call' rfl rfl cl8) (awake_s _) ?_)
      rintro _ wq5 ⟨rfl, H6⟩
      replace H6 : S wq5 [Old w no] := H0.absorb (new := []) H6
      refine b_ret rfl rfl ?_
      refine l_of (s_val (v := .bool true) (wt0 rfl) rfl rfl (x_assign rfl rfl) ?_)
      refine g_nil ?_
      refine g_then ?_
      refine g_weak [(8, .bool true)] ⟨rfl, trivial⟩ ?_
      refine g_ret ?_
      refine g_then_ret ?_
      refine fin_ret [.tmp 8] [.bool true] rfl ⟨rfl, trivial⟩ ?_
      exact ⟨rfl, H6.mask [true]⟩
    · skip
      refine g_cond_f rfl (decide_eq_false hb4) ?_
      refine g_skip ?_
      refine g_then ?_
      refine g_seq ?_
      refine g_region ?_
      refine l_of (s_call (wt0 rfl) (x_call' rfl rfl cl12) (new_x _) ?_)
      rintro _ wq10 ⟨Y7, hYo8, hYA9, rfl, H11⟩
      replace H11 : S wq10 [Y7.I, Old w no] := H0.absorb (new := [Y7.I]) H11
      refine b_ret rfl rfl ?_
      refine l_of (s_val (v := .pointer (some ⟨Y7.b, 0, none⟩)) (wt0 rfl) rfl rfl (x_assign rfl rfl) ?_)
      refine g_nil ?_
      refine g_then ?_
      refine g_seq ?_
      refine g_region ?_
      refine l_of (s_val (v := .int .i64 0) (wt0 rfl) rfl rfl (x_assign rfl rfl) ?_)
      refine g_nil ?_
      refine g_then ?_
      refine g_seq ?_
      refine g_seq ?_
      refine g_region ?_
      refine l_of (s_val (v := .slice p n c) (wt0 rfl) rfl rfl (x_move rfl rfl) ?_)
      refine l_of (s_val (v := .int .i64 ((n : Int))) (wt0 rfl) rfl rfl (x_lenl rfl rfl Try.underlying34) ?_)
      refine l_of (s_val (v := .int .i64 0) (wt0 rfl) rfl rfl (x_move rfl rfl) ?_)
      refine g_nil ?_
      refine g_then ?_
      refine g_block ?_
      refine g_loop (ι := Nat × BM × BS × Int) (fun (k, X, A, at_) => [(0, .int .i64 peer), (1, .int .i64 piece), (3, .bool proved), (9, .pointer (some ⟨Y7.b, 0, none⟩)), (10, .int .i64 at_), (28, .slice p n c), (29, .int .i64 ((n : Int))), (30, .int .i64 ((k : Int)))]) (fun (k, X, A, at_) wx => (k ≤ n) ∧ (X.ok) ∧ (X.b = Y7.b) ∧ (X.A = A) ∧ (AL A peer piece at_) ∧ (0 < k → 0 < at_) ∧ (at_ ≤ 1024 ∧ 0 ≤ at_) ∧ S wx [X.I, Old w no]) (fun (k, X, A, at_) => n - k) (0, Y7, BS.none, 0) ⟨rfl, rfl, rfl, rfl, rfl, rfl, rfl, rfl, trivial⟩ ⟨Nat.zero_le _, hYo8, rfl, hYA9, (al_none _ _), (fun h => absurd h (by decide)), (by omega), (H11.takes [0, 1] (by decide))⟩ ?_
      rintro ⟨k, X, A, at_⟩ wq12 ⟨hk, hok, hbX, hXA, hAL, hka, hal, H13⟩
      replace H13 : S wq12 [X.I, Old w no] := H13
      refine g_weak [(0, .int .i64 peer), (1, .int .i64 piece), (3, .bool proved), (9, .pointer (some ⟨Y7.b, 0, none⟩)), (10, .int .i64 at_), (28, .slice p n c), (29, .int .i64 ((n : Int))), (30, .int .i64 ((k : Int)))] ⟨rfl, rfl, rfl, rfl, rfl, rfl, rfl, rfl, trivial⟩ ?_
      refine g_seq ?_
      refine g_region ?_
      refine l_of (s_val (v := .bool (decide (((k : Int) : Int) < (n : Int)))) (wt0 rfl) rfl rfl (x_bin rfl rfl rfl b_lss) ?_)
      refine g_nil ?_
      refine g_then ?_
      refine g_seq ?_
      by_cases hb14 : ((k : Int) : Int) < (n : Int)
      · skip
        obtain ⟨x, hx⟩ : ∃ x, l[k]? = some x := ⟨_, List.getElem?_eq_getElem (by omega)⟩
        refine g_cond_t rfl (decide_eq_true hb14) ?_
        refine g_skip ?_
        refine g_then ?_
        refine g_seq ?_
        refine g_block ?_
        refine g_seq ?_
        refine g_region ?_
        refine l_of (s_val (v := .pointer ((p).map fun q => q.add (k * 1))) (wt0 rfl) rfl rfl (x_idxR k (H13.oldReads (k := 1) rfl hr) rfl rfl rfl Try.underlying34 sz9 (by omega)) ?_)
        refine l_of (s_val (v := .string x) (wt0 rfl) rfl rfl (x_loadR1 k (H13.oldReads (k := 1) rfl hr) (by omega) rfl rfl Try.underlying9 rfl (stV_at hx)) ?_)
        refine l_of (s_val (v := .string x) (wt0 rfl) rfl rfl (x_assign rfl rfl) ?_)
        refine g_nil ?_
        refine g_then ?_
        refine g_seq ?_
        refine g_seq ?_
        refine g_region ?_
        refine l_of (s_val (v := .string x) (wt0 rfl) rfl rfl (x_move rfl rfl) ?_)
        refine l_of (s_val (v := .int .i64 ((x.size : Int))) (wt0 rfl) rfl rfl (x_lens rfl rfl Try.underlying9) ?_)
        refine l_of (s_val (v := .bool (decide ((100 : Int) < (x.size : Int)))) (wt0 rfl) rfl rfl (x_bin rfl rfl rfl b_gtr) ?_)
        refine g_nil ?_
        refine g_then ?_
        by_cases hb15 : (100 : Int) < (x.size : Int)
        · skip
          refine g_cond_t rfl (decide_eq_true hb15) ?_
          refine g_seq ?_
          refine g_region ?_
          refine l_of (s_call (wt0 rfl) (x_call' rfl rfl cl8) (awake_s _) ?_)
          rintro _ wq16 ⟨rfl, H17⟩
          replace H17 : S wq16 [X.I, Old w no] := H13.absorb (new := []) H17
          refine b_ret rfl rfl ?_
          refine l_of (s_val (v := .bool true) (wt0 rfl) rfl rfl (x_assign rfl rfl) ?_)
          refine g_nil ?_
          refine g_then ?_
          refine g_weak [(8, .bool true)] ⟨rfl, trivial⟩ ?_
          refine g_ret ?_
          refine g_then_ret ?_
          refine g_in_ret ?_
          refine g_then_ret ?_
          refine g_then_ret ?_
          refine g_in_ret ?_
          refine g_then_ret ?_
          refine fin_ret [.tmp 8] [.bool true] rfl ⟨rfl, trivial⟩ ?_
          exact ⟨rfl, H17.mask [false, true]⟩
        · skip
          refine g_cond_f rfl (decide_eq_false hb15) ?_
          refine g_skip ?_
          refine g_then ?_
          refine g_seq ?_
          refine g_region ?_
          refine l_of (s_val (v := .int .i64 piece) (wt0 rfl) rfl rfl (x_move rfl rfl) ?_)
          refine l_of (s_val (v := .int .i64 at_) (wt0 rfl) rfl rfl (x_move rfl rfl) ?_)
          refine l_of (s_val (v := .string x) (wt0 rfl) rfl rfl (x_move rfl rfl) ?_)
          refine l_of (s_val (v := .int .i64 ((x.size : Int))) (wt0 rfl) rfl rfl (x_lens rfl rfl Try.underlying9) ?_)
          refine l_of (s_val (v := .agg #[.int .i64 piece, .int .i64 at_, .int .i64 ((x.size : Int))]) (wt0 rfl) rfl rfl (x_build (vs := [.int .i64 piece, .int .i64 at_, .int .i64 ((x.size : Int))]) rfl rfl (cells := #[.int .i64 piece, .int .i64 at_, .int .i64 ((x.size : Int))]) (by kernel_rfl)) ?_)
          refine l_of (s_alloc H13 (wt0 rfl) rfl rfl rfl ze37 ?_)
          intro g18 wq19 H20
          refine l_of (s_store H20 0 (wt0 rfl) rfl rfl rfl rfl rfl sz37 rfl rfl (cs' := #[.int .i64 piece, .int .i64 at_, .int .i64 ((x.size : Int))]) rfl ?_)
          intro wq21 H22
          refine g_nil ?_
          refine g_then ?_
          refine g_seq ?_
          refine g_seq ?_
          refine g_region ?_
          refine l_of (s_val (v := .pointer (some ⟨Y7.b, 0, none⟩)) (wt0 rfl) rfl rfl (x_move rfl rfl) ?_)
          refine l_of (s_val (v := .int .i64 peer) (wt0 rfl) rfl rfl (x_move rfl rfl) ?_)
          refine l_of (s_val (v := .agg #[.int .i64 piece, .int .i64 at_, .int .i64 ((x.size : Int))]) (wt0 rfl) rfl rfl (x_loadA H22 0 rfl rfl Try.underlying37 rfl sz37 rfl rfl rfl) ?_)
          refine l_of (s_val (v := .string x) (wt0 rfl) rfl rfl (x_move rfl rfl) ?_)
          refine l_of (s_call (wt0 rfl) (x_call' rfl rfl cl13) (sent_g (A' := (sentA A peer piece at_ (x.size : Int) x)) hok hbX hXA hok_peer hok_piece rfl rfl _ (H22.takes [1] (by decide))) ?_)
          rintro _ wq27 ⟨Y23, hYb24, hYo25, hYA26, rfl, H28⟩
          replace H28 : S wq27 [Y23.I, Ob g18 (.cells #[.int .i64 piece, .int .i64 at_, .int .i64 ((x.size : Int))] 37 (0, 0)), Old w no] := H22.absorbI (new := [Y23.I]) [1] H28
          refine b_ret rfl rfl ?_
          refine l_of (s_val (v := .bool (!decide (((sentE A peer piece at_ (x.size : Int) x) : Int) = 0))) (wt0 rfl) rfl rfl (x_bin rfl rfl rfl b_neq) ?_)
          refine g_nil ?_
          refine g_then ?_
          refine g_weak [(0, .int .i64 peer), (1, .int .i64 piece), (3, .bool proved), (9, .pointer (some ⟨Y7.b, 0, none⟩)), (10, .int .i64 at_), (12, .string x), (13, .pointer (some ⟨g18, 0, none⟩)), (28, .slice p n c), (29, .int .i64 ((n : Int))), (30, .int .i64 ((k : Int))), (48, .bool (!decide (((sentE A peer piece at_ (x.size : Int) x) : Int) = 0)))] ⟨rfl, rfl, rfl, rfl, rfl, rfl, rfl, rfl, rfl, rfl, rfl, trivial⟩ ?_
          by_cases hb29 : ((sentE A peer piece at_ (x.size : Int) x) : Int) = 0
          · skip
            have hb0 := hb29
            have hAL2 := al_sent hAL hb0
            have hs9 := sentE_inv hb0
            have hln := (blockB_true hs9.1).2.2
            have hq9 := hAL2.some (by omega)
            have hm9 := hq9.2.2.2
            refine g_cond_f rfl (nf hb29) ?_
            refine g_skip ?_
            refine g_then ?_
            refine g_seq ?_
            refine g_seq ?_
            refine g_region ?_
            refine l_of (s_val (v := .bool proved) (wt0 rfl) rfl rfl (x_move rfl rfl) ?_)
            refine g_nil ?_
            refine g_then ?_
            rcases Bool.eq_false_or_eq_true (proved) with hb30 | hb30
            · skip
              refine g_cond_t rfl hb30 ?_
              refine g_seq ?_
              refine g_region ?_
              refine l_of (s_val (v := .pointer (some ⟨Y7.b, 0, none⟩)) (wt0 rfl) rfl rfl (x_move rfl rfl) ?_)
              refine l_of (s_val (v := .int .i64 peer) (wt0 rfl) rfl rfl (x_move rfl rfl) ?_)
              refine l_of (s_val (v := .agg #[.int .i64 piece, .int .i64 at_, .int .i64 ((x.size : Int))]) (wt0 rfl) rfl rfl (x_loadA H28 1 rfl rfl Try.underlying37 rfl sz37 rfl rfl rfl) ?_)
              refine l_of (s_call (wt0 rfl) (x_call' rfl rfl cl14) (proved_g (A' := (alP A peer piece at_ (x.size : Int) x)) hYo25 hYb24 hYA26 hok_peer hok_piece (al_prov hb0) (al_provR hAL hb0) rfl _ (H28.takes [0] (by decide))) ?_)
              rintro _ wq35 ⟨Y31, hYb32, hYo33, hYA34, rfl, H36⟩
              replace H36 : S wq35 [Y31.I, Ob g18 (.cells #[.int .i64 piece, .int .i64 at_, .int .i64 ((x.size : Int))] 37 (0, 0)), Old w no] := H28.absorbI (new := [Y31.I]) [0] H36
              refine b_ret rfl rfl ?_
              refine l_of (s_val (v := .tuple #[.bool true, .int .i64 0]) (wt0 rfl) rfl rfl (x_move rfl rfl) ?_)
              refine l_of (s_val (v := .bool true) (wt0 rfl) rfl rfl (x_extract rfl rfl rfl) ?_)
              refine l_of (s_val (v := .int .i64 0) (wt0 rfl) rfl rfl (x_extract rfl rfl rfl) ?_)
              refine l_of (s_val (v := .bool true) (wt0 rfl) rfl rfl (x_assign rfl rfl) ?_)
              refine l_of (s_val (v := .int .i64 0) (wt0 rfl) rfl rfl (x_assign rfl rfl) ?_)
              refine g_nil ?_
              refine g_then ?_
              refine g_weak [(0, .int .i64 peer), (1, .int .i64 piece), (9, .pointer (some ⟨Y7.b, 0, none⟩)), (10, .int .i64 at_), (12, .string x), (13, .pointer (some ⟨g18, 0, none⟩)), (14, .bool true), (15, .int .i64 0)] ⟨rfl, rfl, rfl, rfl, rfl, rfl, rfl, rfl, trivial⟩ ?_
              refine g_seq ?_
              refine g_region ?_
              refine l_of (s_val (v := .bool true) (wt0 rfl) rfl rfl (x_move rfl rfl) ?_)
              refine l_of (s_val (v := .bool true) (wt0 rfl) rfl rfl (x_move rfl rfl) ?_)
              refine l_of (s_val (v := .int .i64 0) (wt1 rfl rfl rfl rfl rfl) rfl rfl (x_move rfl rfl) ?_)
              refine l_of (s_val (v := .bool (decide ((0 : Int) = 0))) (wt1 rfl rfl rfl rfl rfl) rfl rfl (x_bin rfl rfl rfl b_eql) ?_)
              refine l_of (s_val (v := .bool (decide ((0 : Int) = 0))) (wt0 rfl) rfl rfl (x_pick_t rfl rfl rfl rfl) ?_)
              refine l_of (s_val (v := .bool (decide ((0 : Int) = 0))) (wt0 rfl) rfl rfl (x_move rfl rfl) ?_)
              refine l_of (s_val (v := .pointer (some ⟨Y7.b, 0, none⟩)) (wt1 rfl rfl rfl rfl (decide_eq_true rfl)) rfl rfl (x_move rfl rfl) ?_)
              refine l_of (s_val (v := .int .i64 peer) (wt1 rfl rfl rfl rfl (decide_eq_true rfl)) rfl rfl (x_move rfl rfl) ?_)
              refine l_of (s_call (wt1 rfl rfl rfl rfl (decide_eq_true rfl)) (x_call' rfl rfl cl10) (banned_g hYo33 hYb32 hYA34 hok_peer (al_ban hb0) _ (H36.takes [0] (by decide))) ?_)
              rintro _ wq37 ⟨rfl, H38⟩
              replace H38 : S wq37 [Y31.I, Ob g18 (.cells #[.int .i64 piece, .int .i64 at_, .int .i64 ((x.size : Int))] 37 (0, 0)), Old w no] := H36.absorbI (new := [Y31.I]) [0] H38
              refine b_ret rfl rfl ?_
              refine l_of (s_val (v := .bool true) (wt0 rfl) rfl rfl (x_pick_t rfl rfl (decide_eq_true rfl) rfl) ?_)
              refine l_of (s_val (v := .bool true) (wt0 rfl) rfl rfl (x_move rfl rfl) ?_)
              refine l_of (s_val (v := .pointer (some ⟨Y7.b, 0, none⟩)) (wt1 rfl rfl rfl rfl rfl) rfl rfl (x_move rfl rfl) ?_)
              refine l_of (s_val (v := .int .i64 piece) (wt1 rfl rfl rfl rfl rfl) rfl rfl (x_move rfl rfl) ?_)
              refine l_of (s_call (wt1 rfl rfl rfl rfl rfl) (x_call' rfl rfl cl15) (senders_g hYo33 hYb32 hYA34 hok_piece rfl _ (H38.takes [0] (by decide))) ?_)
              rintro _ wq41 ⟨p39, c40, rfl, H42⟩
              replace H42 : S wq41 [Rw 3 1 p39 (whoL ((alP A peer piece at_ (x.size : Int) x).nw piece)).length c40 (zV (whoL ((alP A peer piece at_ (x.size : Int) x).nw piece))), Y31.I, Ob g18 (.cells #[.int .i64 piece, .int .i64 at_, .int .i64 ((x.size : Int))] 37 (0, 0)), Old w no] := H38.absorbI (new := [Rw 3 1 p39 (whoL ((alP A peer piece at_ (x.size : Int) x).nw piece)).length c40 (zV (whoL ((alP A peer piece at_ (x.size : Int) x).nw piece))), Y31.I]) [0] H42
              refine b_ret rfl rfl ?_
              refine l_of (s_val (v := .int .i64 (((whoL ((alP A peer piece at_ (x.size : Int) x).nw piece)).length : Int))) (wt1 rfl rfl rfl rfl rfl) rfl rfl (x_lenl rfl rfl Try.underlying24) ?_)
              refine l_of (s_val (v := .bool (decide ((((whoL ((alP A peer piece at_ (x.size : Int) x).nw piece)).length : Int) : Int) = 0))) (wt1 rfl rfl rfl rfl rfl) rfl rfl (x_bin rfl rfl rfl b_eql) ?_)
              refine l_of (s_val (v := .int .i64 at_) (wt1 rfl rfl rfl rfl rfl) rfl rfl (x_move rfl rfl) ?_)
              refine l_of (s_val (v := .bool (decide ((at_ : Int) = 0))) (wt1 rfl rfl rfl rfl rfl) rfl rfl (x_bin rfl rfl rfl b_eql) ?_)
              refine l_of (s_val (v := .bool true) (wt1 rfl rfl rfl rfl rfl) rfl rfl (ex_cast (x_bin rfl rfl rfl (b_eqN (r := decide (((whoL ((alP A peer piece at_ (x.size : Int) x).nw piece)).length : Int) = 0) == decide (at_ = 0)) Try.underlying4 rfl)) (congrArg Value.bool (al_len hAL hb0))) ?_)
              refine l_of (s_val (v := .bool true) (wt0 rfl) rfl rfl (x_pick_t rfl rfl rfl rfl) ?_)
              refine l_of (s_val (v := .bool true) (wt0 rfl) rfl rfl (x_move rfl rfl) ?_)
              refine l_of (s_val (v := .pointer (some ⟨Y7.b, 0, none⟩)) (wt1 rfl rfl rfl rfl rfl) rfl rfl (x_move rfl rfl) ?_)
              refine l_of (s_val (v := .int .i64 peer) (wt1 rfl rfl rfl rfl rfl) rfl rfl (x_move rfl rfl) ?_)
              refine l_of (s_val (v := .agg #[.int .i64 piece, .int .i64 at_, .int .i64 ((x.size : Int))]) (wt1 rfl rfl rfl rfl rfl) rfl rfl (x_loadA H42 2 rfl rfl Try.underlying37 rfl sz37 rfl rfl rfl) ?_)
              refine l_of (s_val (v := .string x) (wt1 rfl rfl rfl rfl rfl) rfl rfl (x_move rfl rfl) ?_)
              refine l_of (s_call (wt1 rfl rfl rfl rfl rfl) (x_call' rfl rfl cl13) (sent_g (A' := (sentA (alP A peer piece at_ (x.size : Int) x) peer piece at_ (x.size : Int) x)) hYo33 hYb32 hYA34 hok_peer hok_piece (al_ref hb0) rfl _ (H42.takes [1] (by decide))) ?_)
              rintro _ wq47 ⟨Y43, hYb44, hYo45, hYA46, rfl, H48⟩
              replace H48 : S wq47 [Y43.I, Rw 3 1 p39 (whoL ((alP A peer piece at_ (x.size : Int) x).nw piece)).length c40 (zV (whoL ((alP A peer piece at_ (x.size : Int) x).nw piece))), Ob g18 (.cells #[.int .i64 piece, .int .i64 at_, .int .i64 ((x.size : Int))] 37 (0, 0)), Old w no] := H42.absorbI (new := [Y43.I]) [1] H48
              refine b_ret rfl rfl ?_
              refine l_of (s_val (v := .bool (decide ((20 : Int) = 20))) (wt1 rfl rfl rfl rfl rfl) rfl rfl (x_bin rfl rfl rfl b_eql) ?_)
              refine l_of (s_val (v := .bool (decide ((20 : Int) = 20))) (wt0 rfl) rfl rfl (x_pick_t rfl rfl rfl rfl) ?_)
              refine l_of (s_val (v := .bool (decide ((20 : Int) = 20))) (wt0 rfl) rfl rfl (x_move rfl rfl) ?_)
              refine l_of (s_call (wt1 rfl rfl rfl rfl (decide_eq_true rfl)) (x_call' rfl rfl cl8) (awake_s _) ?_)
              rintro _ wq49 ⟨rfl, H50⟩
              replace H50 : S wq49 [Y43.I, Rw 3 1 p39 (whoL ((alP A peer piece at_ (x.size : Int) x).nw piece)).length c40 (zV (whoL ((alP A peer piece at_ (x.size : Int) x).nw piece))), Ob g18 (.cells #[.int .i64 piece, .int .i64 at_, .int .i64 ((x.size : Int))] 37 (0, 0)), Old w no] := H48.absorb (new := []) H50
              refine b_ret rfl rfl ?_
              refine l_of (s_val (v := .bool true) (wt0 rfl) rfl rfl (x_pick_t rfl rfl (decide_eq_true rfl) rfl) ?_)
              refine l_of (s_val (v := .bool true) (wt0 rfl) rfl rfl (x_assign rfl rfl) ?_)
              refine g_nil ?_
              refine g_then ?_
              refine g_weak [(8, .bool true)] ⟨rfl, trivial⟩ ?_
              refine g_ret ?_
              refine g_then_ret ?_
              refine g_in_ret ?_
              refine g_then_ret ?_
              refine g_then_ret ?_
              refine g_in_ret ?_
              refine g_then_ret ?_
              refine fin_ret [.tmp 8] [.bool true] rfl ⟨rfl, trivial⟩ ?_
              exact ⟨rfl, H50.mask [false, false, false, true]⟩
            · skip
              refine g_cond_f rfl hb30 ?_
              refine g_skip ?_
              refine g_then ?_
              refine g_region ?_
              refine l_of (s_val (v := .int .i64 at_) (wt0 rfl) rfl rfl (x_move rfl rfl) ?_)
              refine l_of (s_val (v := .string x) (wt0 rfl) rfl rfl (x_move rfl rfl) ?_)
              refine l_of (s_val (v := .int .i64 ((x.size : Int))) (wt0 rfl) rfl rfl (x_lens rfl rfl Try.underlying9) ?_)
              refine l_of (s_val (v := .int .i64 (at_ + (x.size : Int))) (wt0 rfl) rfl rfl (x_bin rfl rfl rfl (b_add (w64 (by omega)))) ?_)
              refine l_of (s_val (v := .int .i64 (at_ + (x.size : Int))) (wt0 rfl) rfl rfl (x_assign rfl rfl) ?_)
              refine g_nil ?_
              refine g_in ?_
              refine g_then ?_
              refine g_region ?_
              refine l_of (s_val (v := .int .i64 (((k + 1 : Nat) : Int))) (wt0 rfl) rfl rfl (x_bin rfl rfl rfl (b_add (by rw [w64 (by omega)]; omega))) ?_)
              refine l_of (s_val (v := .int .i64 (((k + 1 : Nat) : Int))) (wt0 rfl) rfl rfl (x_move rfl rfl) ?_)
              refine g_nil ?_
              refine g_then ?_
              refine g_round (i := (k, X, A, at_)) ((k + 1), Y23, (sentA A peer piece at_ (x.size : Int) x), (at_ + (x.size : Int))) ?_ ?_ ?_
              · exact ⟨rfl, rfl, rfl, rfl, rfl, rfl, rfl, rfl, trivial⟩
              · exact ⟨by omega, hYo25, hYb24, hYA26, hAL2, (fun _ => by omega), (by omega), (H28.takes [0, 2] (by decide))⟩
              · (try dsimp only); omega
          · skip
            refine g_cond_t rfl (nt hb29) ?_
            refine g_seq ?_
            refine g_region ?_
            refine l_of (s_call (wt0 rfl) (x_call' rfl rfl cl8) (awake_s _) ?_)
            rintro _ wq51 ⟨rfl, H52⟩
            replace H52 : S wq51 [Y23.I, Ob g18 (.cells #[.int .i64 piece, .int .i64 at_, .int .i64 ((x.size : Int))] 37 (0, 0)), Old w no] := H28.absorb (new := []) H52
            refine b_ret rfl rfl ?_
            refine l_of (s_val (v := .bool true) (wt0 rfl) rfl rfl (x_assign rfl rfl) ?_)
            refine g_nil ?_
            refine g_then ?_
            refine g_weak [(8, .bool true)] ⟨rfl, trivial⟩ ?_
            refine g_ret ?_
            refine g_then_ret ?_
            refine g_in_ret ?_
            refine g_then_ret ?_
            refine g_then_ret ?_
            refine g_in_ret ?_
            refine g_then_ret ?_
            refine fin_ret [.tmp 8] [.bool true] rfl ⟨rfl, trivial⟩ ?_
            exact ⟨rfl, H52.mask [false, false, true]⟩
      · skip
        have hpos : 0 < at_ := hka (by omega)
        refine g_cond_f rfl (decide_eq_false hb14) ?_
        refine g_exit ?_
        refine g_then_exit ?_
        refine g_then_exit ?_
        refine g_in_hit ?_
        refine g_then ?_
        refine g_seq ?_
        refine g_region ?_
        refine l_of (s_val (v := .pointer (some ⟨Y7.b, 0, none⟩)) (wt0 rfl) rfl rfl (x_move rfl rfl) ?_)
        refine l_of (s_val (v := .int .i64 piece) (wt0 rfl) rfl rfl (x_move rfl rfl) ?_)
        refine l_of (s_call (wt0 rfl) (x_call' rfl rfl cl16) (fail_g (A' := (failA A piece)) hok hbX hXA hok_piece (al_endE hAL hpos) (al_failR hAL hpos) rfl _ (H13.takes [0] (by decide))) ?_)
        rintro _ wq59 ⟨Y53, p57, c58, hYb54, hYo55, hYA56, rfl, H60⟩
        replace H60 : S wq59 [Rw 3 1 p57 1 c58 (zV ([peer])), Y53.I, Old w no] := H13.absorbI (new := [Rw 3 1 p57 1 c58 (zV ([peer])), Y53.I]) [0] H60
        refine b_ret rfl rfl ?_
        refine l_of (s_val (v := .tuple #[.slice p57 1 c58, .int .i64 0]) (wt0 rfl) rfl rfl (x_move rfl rfl) ?_)
        refine l_of (s_val (v := .slice p57 1 c58) (wt0 rfl) rfl rfl (x_extract rfl rfl rfl) ?_)
        refine l_of (s_val (v := .int .i64 0) (wt0 rfl) rfl rfl (x_extract rfl rfl rfl) ?_)
        refine l_of (s_val (v := .slice p57 1 c58) (wt0 rfl) rfl rfl (x_assign rfl rfl) ?_)
        refine l_of (s_val (v := .int .i64 0) (wt0 rfl) rfl rfl (x_assign rfl rfl) ?_)
        refine g_nil ?_
        refine g_then ?_
        refine g_weak [(0, .int .i64 peer), (1, .int .i64 piece), (9, .pointer (some ⟨Y7.b, 0, none⟩)), (16, .slice p57 1 c58), (17, .int .i64 0)] ⟨rfl, rfl, rfl, rfl, rfl, trivial⟩ ?_
        refine g_seq ?_
        refine g_region ?_
        refine l_of (s_val (v := .slice p57 1 c58) (wt0 rfl) rfl rfl (x_move rfl rfl) ?_)
        refine l_of (s_val (v := .int .i64 1) (wt0 rfl) rfl rfl (x_lenl rfl rfl Try.underlying24) ?_)
        refine l_of (s_val (v := .bool (decide ((1 : Int) = 1))) (wt0 rfl) rfl rfl (x_bin rfl rfl rfl b_eql) ?_)
        refine l_of (s_val (v := .bool (decide ((1 : Int) = 1))) (wt0 rfl) rfl rfl (x_move rfl rfl) ?_)
        refine l_of (s_val (v := .slice p57 1 c58) (wt1 rfl rfl rfl rfl (decide_eq_true rfl)) rfl rfl (x_move rfl rfl) ?_)
        refine l_of (s_val (v := .pointer ((p57).map fun q => q.add (0 * 1))) (wt1 rfl rfl rfl rfl (decide_eq_true rfl)) rfl rfl (x_idxR 0 (H60.rwReads (k := 0) rfl) rfl rfl rfl Try.underlying24 sz3 (by omega)) ?_)
        refine l_of (s_val (v := .int .i64 peer) (wt1 rfl rfl rfl rfl (decide_eq_true rfl)) rfl rfl (x_loadR1 0 (H60.rwReads (k := 0) rfl) (by omega) rfl rfl Try.underlying3 rfl (rfl)) ?_)
        refine l_of (s_val (v := .int .i64 peer) (wt1 rfl rfl rfl rfl (decide_eq_true rfl)) rfl rfl (x_move rfl rfl) ?_)
        refine l_of (s_val (v := .bool (decide ((peer : Int) = peer))) (wt1 rfl rfl rfl rfl (decide_eq_true rfl)) rfl rfl (x_bin rfl rfl rfl b_eql) ?_)
        refine l_of (s_val (v := .bool (decide ((peer : Int) = peer))) (wt0 rfl) rfl rfl (x_pick_t rfl rfl (decide_eq_true rfl) rfl) ?_)
        refine l_of (s_val (v := .bool (decide ((peer : Int) = peer))) (wt0 rfl) rfl rfl (x_move rfl rfl) ?_)
        refine l_of (s_val (v := .int .i64 0) (wt1 rfl rfl rfl rfl (decide_eq_true rfl)) rfl rfl (x_move rfl rfl) ?_)
        refine l_of (s_val (v := .bool (decide ((0 : Int) = 0))) (wt1 rfl rfl rfl rfl (decide_eq_true rfl)) rfl rfl (x_bin rfl rfl rfl b_eql) ?_)
        refine l_of (s_val (v := .bool (decide ((0 : Int) = 0))) (wt0 rfl) rfl rfl (x_pick_t rfl rfl (decide_eq_true rfl) rfl) ?_)
        refine l_of (s_val (v := .bool (decide ((0 : Int) = 0))) (wt0 rfl) rfl rfl (x_move rfl rfl) ?_)
        refine l_of (s_val (v := .pointer (some ⟨Y7.b, 0, none⟩)) (wt1 rfl rfl rfl rfl (decide_eq_true rfl)) rfl rfl (x_move rfl rfl) ?_)
        refine l_of (s_val (v := .int .i64 peer) (wt1 rfl rfl rfl rfl (decide_eq_true rfl)) rfl rfl (x_move rfl rfl) ?_)
        refine l_of (s_call (wt1 rfl rfl rfl rfl (decide_eq_true rfl)) (x_call' rfl rfl cl10) (banned_g hYo55 hYb54 hYA56 hok_peer (al_bn hAL hpos) _ (H60.takes [1] (by decide))) ?_)
        rintro _ wq61 ⟨rfl, H62⟩
        replace H62 : S wq61 [Y53.I, Rw 3 1 p57 1 c58 (zV ([peer])), Old w no] := H60.absorbI (new := [Y53.I]) [1] H62
        refine b_ret rfl rfl ?_
        refine l_of (s_val (v := .bool true) (wt0 rfl) rfl rfl (x_pick_t rfl rfl (decide_eq_true rfl) rfl) ?_)
        refine l_of (s_val (v := .bool true) (wt0 rfl) rfl rfl (x_move rfl rfl) ?_)
        refine l_of (s_val (v := .pointer (some ⟨Y7.b, 0, none⟩)) (wt1 rfl rfl rfl rfl rfl) rfl rfl (x_move rfl rfl) ?_)
        refine l_of (s_val (v := .int .i64 peer) (wt1 rfl rfl rfl rfl rfl) rfl rfl (x_move rfl rfl) ?_)
        refine l_of (s_val (v := .int .i64 piece) (wt1 rfl rfl rfl rfl rfl) rfl rfl (x_move rfl rfl) ?_)
        refine l_of (s_call (wt1 rfl rfl rfl rfl rfl) (x_call' rfl rfl cl17) (may_g hYo55 hYb54 hYA56 hok_peer hok_piece (al_may hAL hpos) _ (H62.takes [0] (by decide))) ?_)
        rintro _ wq63 ⟨rfl, H64⟩
        replace H64 : S wq63 [Y53.I, Rw 3 1 p57 1 c58 (zV ([peer])), Old w no] := H62.absorbI (new := [Y53.I]) [0] H64
        refine b_ret rfl rfl ?_
        refine l_of (s_val (v := .bool true) (wt1 rfl rfl rfl rfl rfl) rfl rfl (x_not (b := false) rfl rfl) ?_)
        refine l_of (s_val (v := .bool true) (wt0 rfl) rfl rfl (x_pick_t rfl rfl rfl rfl) ?_)
        refine l_of (s_val (v := .bool true) (wt0 rfl) rfl rfl (x_move rfl rfl) ?_)
        refine l_of (s_val (v := .pointer (some ⟨Y7.b, 0, none⟩)) (wt1 rfl rfl rfl rfl rfl) rfl rfl (x_move rfl rfl) ?_)
        refine l_of (s_val (v := .int .i64 peer) (wt1 rfl rfl rfl rfl rfl) rfl rfl (x_move rfl rfl) ?_)
        refine l_of (s_call (wt1 rfl rfl rfl rfl rfl) (x_call' rfl rfl cl11) (parole_g hYo55 hYb54 hYA56 hok_peer (al_par hAL hpos) _ (H64.takes [0] (by decide))) ?_)
        rintro _ wq65 ⟨rfl, H66⟩
        replace H66 : S wq65 [Y53.I, Rw 3 1 p57 1 c58 (zV ([peer])), Old w no] := H64.absorbI (new := [Y53.I]) [0] H66
        refine b_ret rfl rfl ?_
        refine l_of (s_val (v := .bool true) (wt1 rfl rfl rfl rfl rfl) rfl rfl (x_not (b := false) rfl rfl) ?_)
        refine l_of (s_val (v := .bool true) (wt0 rfl) rfl rfl (x_pick_t rfl rfl rfl rfl) ?_)
        refine l_of (s_val (v := .bool true) (wt0 rfl) rfl rfl (x_move rfl rfl) ?_)
        refine l_of (s_call (wt1 rfl rfl rfl rfl rfl) (x_call' rfl rfl cl8) (awake_s _) ?_)
        rintro _ wq67 ⟨rfl, H68⟩
        replace H68 : S wq67 [Y53.I, Rw 3 1 p57 1 c58 (zV ([peer])), Old w no] := H66.absorb (new := []) H68
        refine b_ret rfl rfl ?_
        refine l_of (s_val (v := .bool true) (wt0 rfl) rfl rfl (x_pick_t rfl rfl rfl rfl) ?_)
        refine l_of (s_val (v := .bool true) (wt0 rfl) rfl rfl (x_assign rfl rfl) ?_)
        refine g_nil ?_
        refine g_then ?_
        refine g_weak [(8, .bool true)] ⟨rfl, trivial⟩ ?_
        refine g_ret ?_
        refine fin_ret [.tmp 8] [.bool true] rfl ⟨rfl, trivial⟩ ?_
        exact ⟨rfl, H68.mask [false, false, true]⟩
end Go.Proofs.Ytlikhpfdncidkaa
