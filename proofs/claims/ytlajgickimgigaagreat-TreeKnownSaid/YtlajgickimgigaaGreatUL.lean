import Derived.Test.YtlajgickimgigaaGreatUJ
set_option linter.unusedSimpArgs false
set_option linter.unusedVariables false
namespace Go.Proofs.YtlajgickimgigaaGreat
open Go.RowKit

theorem cl47 : callable Tryz.prog 47 = true := by kernel_rfl
/-- What Check meets. -/
def chkE (n : Int) (root : ByteArray) (v i : Int) (l u : List ByteArray) : Int :=
  if digsB l = true ∧ digsB u = true ∧ root.size = 32 then (if 1 ≤ n ∧ n ≤ 4096 then provE (tallN n.toNat) root v i l u else 7) else 1
theorem prov_split {h : Nat} {root : ByteArray} {v i : Int} {l u : List ByteArray} {e : Ending} {w w' : World}
    (hp : (provE h root v i l u = 0 ∧ ∃ g, e = .returned (.map (some g)) ∧ S w' ([Mp placeV Value.string placeOk g (provM v.toNat i.toNat l u)] ++ [Old w no])) ∨ (¬ provE h root v i l u = 0 ∧ e = .panicked [{ v := .iface 105 (.int .i64 (provE h root v i l u)), recovered := false }] ∧ S w' [Old w no])) :
    (provE h root v i l u = 0 ∧ ∃ g, e = .returned (.map (some g)) ∧ S w' ([Mp placeV Value.string placeOk g (provM v.toNat i.toNat l u)] ++ [Old w no])) ∨ (¬ provE h root v i l u = 0 ∧ e = .panicked [{ v := .iface 105 (.int .i64 (provE h root v i l u)), recovered := false }] ∧ S w' [Old w no]) := hp
end Go.Proofs.YtlajgickimgigaaGreat
namespace Go.Proofs.YtlajgickimgigaaGreat
open Go.RowKit

/-- The nodes from a run's top up to the root. -/
def wayTo (b : Nat) (t0 : ByteArray) (u : List ByteArray) (k : Nat) : List ByteArray := (List.range k).map (topS b t0 u)
theorem wayTo_next (b : Nat) (t0 : ByteArray) (u : List ByteArray) (k : Nat) : wayTo b t0 u (k + 1) = wayTo b t0 u k ++ [topS b t0 u k] := by unfold wayTo; simp [List.range_succ]
theorem wayTo_len (b : Nat) (t0 : ByteArray) (u : List ByteArray) (k : Nat) : (wayTo b t0 u k).length = k := by unfold wayTo; simp
theorem way_at {b : Nat} {t0 : ByteArray} {u : List ByteArray} {k s : Nat} (h : s < k) : (stV (wayTo b t0 u k))[s * 1]? = some (.string (topS b t0 u s)) := by
  unfold stV wayTo
  rw [Nat.mul_one, List.getElem?_map, List.getElem?_map, List.getElem?_range h]; rfl
set_option maxRecDepth 20000 in
set_option maxHeartbeats 4000000 in
set_option maxRecDepth 20000 in
set_option maxHeartbeats 4000000 in
theorem way_r (i : Nat) (l u : List ByteArray) (p q : Option Addr) (c d : Nat) (r5 : 2 ^ tallN l.length = l.length) (hmm : l.length ≤ 4096) (hi : i ≤ 1099511627776) (hdl : digsB l = true) (hdu : digsB u = true) (hmu : u.length ≤ 1099511627776) (w : World) (hr : Reads w p l.length c 1 (stV l)) (hu : Reads w q u.length d 1 (stV u)) : Calls Tryz.prog 53 #[.int .i64 ((i : Int)), .slice p l.length c, .slice q u.length d] w fun e w' => ∃ p' c', e = .returned (.slice p' (u.length + 1) c') ∧ S w' ([Rw 9 1 p' (u.length + 1) c' (stV (wayTo (i / 2 ^ (tallN l.length)) ((upN (tallN l.length) l).getD 0 ⟨#[]⟩) u (u.length + 1)))] ++ [Old w no]) := by
  have H0 := S.old w
  refine enter 58 Tryz.func53 rfl rfl rfl ?_
  refine g_weak [(0, .int .i64 ((i : Int))), (1, .slice p l.length c), (2, .slice q u.length d)] ⟨rfl, rfl, rfl, trivial⟩ ?_
  refine g_seq ?_
  refine g_region ?_
  refine l_of (s_val (v := .slice none 0 0) (wt0 rfl) rfl rfl (x_assign rfl rfl) ?_)
  refine g_nil ?_
  refine g_then ?_
  refine g_seq ?_
  refine g_region ?_
  refine l_of (s_val (v := .slice p l.length c) (wt0 rfl) rfl rfl (x_move rfl rfl) ?_)
  refine l_of (s_val (v := .slice p l.length c) (wt0 rfl) rfl rfl (x_assign rfl rfl) ?_)
  refine g_nil ?_
  refine g_then ?_
  refine g_seq ?_
  refine g_region ?_
  refine l_of (s_val (v := .int .i64 ((i : Int))) (wt0 rfl) rfl rfl (x_move rfl rfl) ?_)
  refine l_of (s_val (v := .slice p l.length c) (wt0 rfl) rfl rfl (x_move rfl rfl) ?_)
  refine l_of (s_val (v := .int .i64 ((l.length : Int))) (wt0 rfl) rfl rfl (x_lenl rfl rfl Tryz.underlying22) ?_)
  have hl0 : 0 < l.length := by rw [← r5]; exact Nat.two_pow_pos _
  obtain ⟨b, hb⟩ : ∃ b, b = i / 2 ^ (tallN l.length) := ⟨_, rfl⟩
  have hbi : b ≤ i := by rw [hb]; exact Nat.div_le_self _ _
  refine l_of (s_val (v := .int .i64 ((b : Int))) (wt0 rfl) rfl rfl (x_bin rfl rfl rfl (show Bin _ _ _ _ _ (.int .i64 (i : Int)) (.int .i64 (l.length : Int)) _ (.int .i64 (b : Int)) from by have := b_quoN (P := Tryz.prog) (t := 3) (xo := .tmp 14) (yo := .tmp 16) (w := w) (a := i) (b := l.length) (by omega); rw [hb, r5]; exact this)) ?_)
  refine l_of (s_val (v := .int .i64 ((b : Int))) (wt0 rfl) rfl rfl (x_assign rfl rfl) ?_)
  refine g_nil ?_
  refine g_then ?_
  refine g_seq ?_
  refine g_block ?_
  refine g_loop (ι := Nat × Option Addr × Nat × Item) (fun (j, q1, d1, X) => [(2, .slice q u.length d), (7, .slice q1 (upN j l).length d1), (8, .int .i64 ((b : Int)))]) (fun (j, q1, d1, X) wx => (j ≤ (tallN l.length)) ∧ ((upN j l).length = 2 ^ ((tallN l.length) - j)) ∧ (digsB (upN j l) = true) ∧ (∀ W, (Old w no).ok W → X.ok W → Reads W q1 (upN j l).length d1 1 (stV (upN j l))) ∧ S wx [X, Old w no]) (fun (j, q1, d1, X) => (tallN l.length) - j) (0, p, c, Big []) ⟨rfl, rfl, rfl, trivial⟩ ⟨Nat.zero_le _, by rw [Nat.sub_zero, r5]; rfl, hdl, (fun W hW _ => reads_old hW hr), (H0.nilBig)⟩ ?_
  rintro ⟨j, q1, d1, X⟩ wq2 ⟨hj, hlen, hdj, hX, H3⟩
  replace H3 : S wq2 [X, Old w no] := H3
  refine g_weak [(2, .slice q u.length d), (7, .slice q1 (upN j l).length d1), (8, .int .i64 ((b : Int)))] ⟨rfl, rfl, rfl, trivial⟩ ?_
  have hz : ∀ s, s < (upN j l).length → ((upN j l).getD s ⟨#[]⟩).size ≤ 65536 := fun s hs => getD_size (digs_size hdj) hs
  have hkj : 2 ^ (tallN l.length - j) ≤ 2 ^ tallN l.length := Nat.pow_le_pow_right (by omega) (by omega)
  refine g_seq ?_
  refine g_seq ?_
  refine g_region ?_
  refine l_of (s_val (v := .slice q1 (upN j l).length d1) (wt0 rfl) rfl rfl (x_move rfl rfl) ?_)
  refine l_of (s_val (v := .int .i64 (((upN j l).length : Int))) (wt0 rfl) rfl rfl (x_lenl rfl rfl Tryz.underlying22) ?_)
  refine l_of (s_val (v := .bool (decide ((1 : Int) < ((upN j l).length : Int)))) (wt0 rfl) rfl rfl (x_bin rfl rfl rfl b_gtr) ?_)
  refine g_nil ?_
  refine g_then ?_
  by_cases hb4 : (1 : Int) < ((upN j l).length : Int)
  · skip
    obtain ⟨Q, hQ, hjlt⟩ := upN_even (K := (tallN l.length)) hlen (by omega)
    refine g_cond_t rfl (decide_eq_true hb4) ?_
    refine g_skip ?_
    refine g_then ?_
    refine g_block ?_
    refine g_region ?_
    refine l_of (s_val (v := .slice q1 (upN j l).length d1) (wt0 rfl) rfl rfl (x_move rfl rfl) ?_)
    refine l_of (s_call (wt0 rfl) (x_call' rfl rfl cl52) (up_r (upN j l) q1 _ d1 rfl hz (by omega) _ (hX _ (H3.at (k := 1) rfl) (H3.at (k := 0) rfl))) ?_)
    rintro _ wq7 ⟨p5, c6, rfl, H8⟩
    replace H8 : S wq7 [Rw 9 1 p5 ((upN j l).length / 2) c6 (stV (upS (upN j l))), X, Old w no] := H3.absorb (new := [Rw 9 1 p5 ((upN j l).length / 2) c6 (stV (upS (upN j l)))]) H8
    refine b_ret rfl rfl ?_
    refine l_of (s_val (v := .slice p5 ((upN j l).length / 2) c6) (wt0 rfl) rfl rfl (x_assign rfl rfl) ?_)
    refine g_nil ?_
    refine g_in ?_
    refine g_then ?_
    have hlen2 : (upN (j + 1) l).length = 2 ^ ((tallN l.length) - (j + 1)) := upN_len (j + 1) (tallN l.length) l (by rw [r5]) (by omega)
    have hup : upN (j + 1) l = upS (upN j l) := upN_snoc j l
    have hlq : (upN j l).length / 2 = (upN (j + 1) l).length := by rw [hup, upS_len]
    have H9 : S wq7 [Rw 9 1 p5 (upN (j + 1) l).length c6 (stV (upN (j + 1) l)), Old w no] := by rw [← hlq, hup]; exact H8.takes [0, 2] (by decide)
    have hX2 : ∀ W, (Old w no).ok W → (Rw 9 1 p5 (upN (j + 1) l).length c6 (stV (upN (j + 1) l))).ok W → Reads W p5 (upN (j + 1) l).length c6 1 (stV (upN (j + 1) l)) := fun W _ h => reads_rw h
    rw [hlq]
    refine g_round (i := (j, q1, d1, X)) (j + 1, p5, c6, (Rw 9 1 p5 (upN (j + 1) l).length c6 (stV (upN (j + 1) l)))) ?_ ?_ ?_
    · exact ⟨rfl, rfl, rfl, trivial⟩
    · exact ⟨by omega, hlen2, (upN_digs hdl _), hX2, H9⟩
    · (try dsimp only); omega
  · skip
    have hp0 : 0 < 2 ^ ((tallN l.length) - j) := Nat.two_pow_pos _
    have hjk : j = (tallN l.length) := by have := pow_one (t := (tallN l.length) - j) (by omega); omega
    subst hjk
    have hu1 : (upN (tallN l.length) l).length = 1 := by omega
    refine g_cond_f rfl (decide_eq_false hb4) ?_
    refine g_exit ?_
    refine g_then_exit ?_
    refine g_then_exit ?_
    refine g_in_hit ?_
    refine g_then ?_
    refine g_seq ?_
    refine g_region ?_
    refine l_of (s_val (v := .slice q1 (upN (tallN l.length) l).length d1) (wt0 rfl) rfl rfl (x_move rfl rfl) ?_)
    refine l_of (s_val (v := .pointer ((q1).map fun q => q.add (0 * 1))) (wt0 rfl) rfl rfl (x_idxR 0 (hX _ (H3.at (k := 1) rfl) (H3.at (k := 0) rfl)) rfl rfl rfl Tryz.underlying22 sz9 (by omega)) ?_)
    refine l_of (s_val (v := .string (((upN (tallN l.length) l).getD (0) ⟨#[]⟩))) (wt0 rfl) rfl rfl (x_loadR1 0 (hX _ (H3.at (k := 1) rfl) (H3.at (k := 0) rfl)) (by omega) rfl rfl Tryz.underlying9 rfl (stV_at (by omega))) ?_)
    refine l_of (s_buildSlice H3 (wt0 rfl) rfl rfl rfl (vs := [.string (((upN (tallN l.length) l).getD (0) ⟨#[]⟩))]) rfl Tryz.underlying22 sz9 ze9 rfl rfl (cells := #[.string (((upN (tallN l.length) l).getD (0) ⟨#[]⟩))]) (by kernel_rfl) ?_)
    intro g10 wq11 H12
    have H13 : S wq11 [Rw 9 1 (some ⟨g10, 0, none⟩) 1 1 (stV (wayTo b ((upN (tallN l.length) l).getD 0 ⟨#[]⟩) u 1)), X, Old w no] := H12.obRw (k := 0) (size := 1) (n := 1) rfl rfl (by decide)
    refine l_of (s_val (v := .slice (some ⟨g10, 0, none⟩) 1 1) (wt0 rfl) rfl rfl (x_assign rfl rfl) ?_)
    refine g_nil ?_
    refine g_then ?_
    refine g_seq ?_
    refine g_seq ?_
    refine g_region ?_
    refine l_of (s_val (v := .slice q u.length d) (wt0 rfl) rfl rfl (x_move rfl rfl) ?_)
    refine l_of (s_val (v := .int .i64 ((u.length : Int))) (wt0 rfl) rfl rfl (x_lenl rfl rfl Tryz.underlying22) ?_)
    refine l_of (s_val (v := .int .i64 0) (wt0 rfl) rfl rfl (x_move rfl rfl) ?_)
    refine g_nil ?_
    refine g_then ?_
    refine g_block ?_
    refine g_loop (ι := Nat × Nat × Option Addr × Nat) (fun (s, bs, qq, dd) => [(8, .int .i64 ((bs : Int))), (9, .slice qq (s + 1) dd), (27, .slice q u.length d), (28, .int .i64 ((u.length : Int))), (29, .int .i64 ((s : Int)))]) (fun (s, bs, qq, dd) wx => (s ≤ u.length) ∧ (bs = b / 2 ^ s) ∧ S wx [Rw 9 1 qq (s + 1) dd (stV (wayTo b ((upN (tallN l.length) l).getD 0 ⟨#[]⟩) u (s + 1))), Old w no]) (fun (s, bs, qq, dd) => u.length - s) (0, b, (some ⟨g10, 0, none⟩), 1) ⟨rfl, rfl, rfl, rfl, rfl, trivial⟩ ⟨Nat.zero_le _, by rw [Nat.pow_zero, Nat.div_one], (H13.takes [0, 2] (by decide))⟩ ?_
    rintro ⟨s, bs, qq, dd⟩ wq14 ⟨hs, hbs, H15⟩
    replace H15 : S wq14 [Rw 9 1 qq (s + 1) dd (stV (wayTo b ((upN (tallN l.length) l).getD 0 ⟨#[]⟩) u (s + 1))), Old w no] := H15
    refine g_weak [(8, .int .i64 ((bs : Int))), (9, .slice qq (s + 1) dd), (27, .slice q u.length d), (28, .int .i64 ((u.length : Int))), (29, .int .i64 ((s : Int)))] ⟨rfl, rfl, rfl, rfl, rfl, trivial⟩ ?_
    have hbsi : bs ≤ b := by rw [hbs]; exact Nat.div_le_self _ _
    have htz : (topS b ((upN (tallN l.length) l).getD 0 ⟨#[]⟩) u s).size = 32 := topS_size (digs_get hdj (by omega)) s
    refine g_seq ?_
    refine g_region ?_
    refine l_of (s_val (v := .bool (decide (((s : Int) : Int) < (u.length : Int)))) (wt0 rfl) rfl rfl (x_bin rfl rfl rfl b_lss) ?_)
    refine g_nil ?_
    refine g_then ?_
    refine g_seq ?_
    by_cases hb16 : ((s : Int) : Int) < (u.length : Int)
    · skip
      have hus : (u.getD s ⟨#[]⟩).size = 32 := digs_get hdu (by omega)
      refine g_cond_t rfl (decide_eq_true hb16) ?_
      refine g_skip ?_
      refine g_then ?_
      refine g_seq ?_
      refine g_block ?_
      refine g_seq ?_
      refine g_region ?_
      refine l_of (s_val (v := .pointer ((q).map fun q => q.add (s * 1))) (wt0 rfl) rfl rfl (x_idxR s (H15.oldReads (k := 1) rfl hu) rfl rfl rfl Tryz.underlying22 sz9 (by omega)) ?_)
      refine l_of (s_val (v := .string ((u.getD (s) ⟨#[]⟩))) (wt0 rfl) rfl rfl (x_loadR1 s (H15.oldReads (k := 1) rfl hu) (by omega) rfl rfl Tryz.underlying9 rfl (stV_at (by omega))) ?_)
      refine l_of (s_val (v := .string ((u.getD (s) ⟨#[]⟩))) (wt0 rfl) rfl rfl (x_assign rfl rfl) ?_)
      refine g_nil ?_
      refine g_then ?_
      refine g_seq ?_
      refine g_region ?_
      refine l_of (s_val (v := .slice qq (s + 1) dd) (wt0 rfl) rfl rfl (x_move rfl rfl) ?_)
      refine l_of (s_val (v := .slice qq (s + 1) dd) (wt0 rfl) rfl rfl (x_move rfl rfl) ?_)
      refine l_of (s_val (v := .int .i64 (((s + 1) : Int))) (wt0 rfl) rfl rfl (x_lenl rfl rfl Tryz.underlying22) ?_)
      refine l_of (s_val (v := .int .i64 ((s : Int))) (wt0 rfl) rfl rfl (x_bin rfl rfl rfl (b_sub (r := (s : Int)) (by rw [w64 (by omega)]; omega))) ?_)
      refine l_of (s_val (v := .pointer ((qq).map fun q => q.add (s * 1))) (wt0 rfl) rfl rfl (x_idxR s (H15.rwReads (k := 0) rfl) rfl rfl rfl Tryz.underlying22 sz9 (by omega)) ?_)
      refine l_of (s_val (v := .string ((topS b ((upN (tallN l.length) l).getD 0 ⟨#[]⟩) u s))) (wt0 rfl) rfl rfl (x_loadR1 s (H15.rwReads (k := 0) rfl) (by omega) rfl rfl Tryz.underlying9 rfl (way_at (by omega))) ?_)
      refine l_of (s_val (v := .string ((topS b ((upN (tallN l.length) l).getD 0 ⟨#[]⟩) u s))) (wt0 rfl) rfl rfl (x_assign rfl rfl) ?_)
      refine g_nil ?_
      refine g_then ?_
      refine g_seq ?_
      refine g_seq ?_
      refine g_region ?_
      refine l_of (s_val (v := .int .i64 ((bs : Int))) (wt0 rfl) rfl rfl (x_move rfl rfl) ?_)
      refine l_of (s_val (v := .int .i64 (((bs % 2 : Nat) : Int))) (wt0 rfl) rfl rfl (x_bin rfl rfl rfl (b_remN (a := bs) (b := 2) (by omega))) ?_)
      refine l_of (s_val (v := .bool (decide ((((bs % 2 : Nat) : Int) : Int) = 0))) (wt0 rfl) rfl rfl (x_bin rfl rfl rfl b_eql) ?_)
      refine g_nil ?_
      refine g_then ?_
      by_cases hb17 : (((bs % 2 : Nat) : Int) : Int) = 0
      · skip
        refine g_cond_t rfl (decide_eq_true hb17) ?_
        refine g_region ?_
        refine l_of (s_val (v := .slice qq (s + 1) dd) (wt0 rfl) rfl rfl (x_move rfl rfl) ?_)
        refine l_of (s_val (v := .string ((topS b ((upN (tallN l.length) l).getD 0 ⟨#[]⟩) u s))) (wt0 rfl) rfl rfl (x_move rfl rfl) ?_)
        refine l_of (s_val (v := .string ((u.getD (s) ⟨#[]⟩))) (wt0 rfl) rfl rfl (x_move rfl rfl) ?_)
        refine l_of (s_call (wt0 rfl) (x_call' rfl rfl cl74) (pair_r _ _ (by omega) _) ?_)
        rintro _ wq18 ⟨rfl, H19⟩
        replace H19 : S wq18 [Rw 9 1 qq (s + 1) dd (stV (wayTo b ((upN (tallN l.length) l).getD 0 ⟨#[]⟩) u (s + 1))), Old w no] := H15.absorb (new := []) H19
        refine b_ret rfl rfl ?_
        refine l_of (s_buildSlice H19 (wt0 rfl) rfl rfl rfl (vs := [.string ((pairS (topS b ((upN (tallN l.length) l).getD 0 ⟨#[]⟩) u s) (u.getD (s) ⟨#[]⟩)))]) rfl Tryz.underlying22 sz9 ze9 rfl rfl (cells := #[.string ((pairS (topS b ((upN (tallN l.length) l).getD 0 ⟨#[]⟩) u s) (u.getD (s) ⟨#[]⟩)))]) (by kernel_rfl) ?_)
        intro g20 wq21 H22
        refine l_of (s_appendR (n := (s + 1)) (m := 1) (sc := dd) (xs := (stV (wayTo b ((upN (tallN l.length) l).getD 0 ⟨#[]⟩) u (s + 1)))) (news := [.string ((pairS (topS b ((upN (tallN l.length) l).getD 0 ⟨#[]⟩) u s) (u.getD (s) ⟨#[]⟩)))]) (p := qq) (ad := ⟨g20, 0, none⟩) H22 1 (wt0 rfl) rfl rfl rfl rfl rfl rfl Tryz.underlying22 inf9 rfl (by decide) (by decide) rfl (by decide) (news_ob H22 (j0 := 0) rfl) rfl (by omega) ?_)
        intro p23 c24 wq25 (H26 : S wq25 [Ob g20 (.cells #[.string ((pairS (topS b ((upN (tallN l.length) l).getD 0 ⟨#[]⟩) u s) (u.getD (s) ⟨#[]⟩)))] 9 (0, 0)), Rw 9 1 p23 ((s + 1) + 1) c24 ((stV (wayTo b ((upN (tallN l.length) l).getD 0 ⟨#[]⟩) u (s + 1))) ++ [.string ((pairS (topS b ((upN (tallN l.length) l).getD 0 ⟨#[]⟩) u s) (u.getD (s) ⟨#[]⟩)))]), Old w no])
        refine l_of (s_val (v := .slice p23 ((s + 1) + 1) c24) (wt0 rfl) rfl rfl (x_assign rfl rfl) ?_)
        refine g_nil ?_
        refine g_then ?_
        refine g_weak [(8, .int .i64 ((bs : Int))), (9, .slice p23 ((s + 1) + 1) c24), (27, .slice q u.length d), (28, .int .i64 ((u.length : Int))), (29, .int .i64 ((s : Int)))] ⟨rfl, rfl, rfl, rfl, rfl, trivial⟩ ?_
        refine g_region ?_
        refine l_of (s_val (v := .int .i64 ((bs : Int))) (wt0 rfl) rfl rfl (x_move rfl rfl) ?_)
        refine l_of (s_val (v := .int .i64 (((bs / 2 : Nat) : Int))) (wt0 rfl) rfl rfl (x_bin rfl rfl rfl (b_quoN (a := bs) (b := 2) (by omega))) ?_)
        refine l_of (s_val (v := .int .i64 (((bs / 2 : Nat) : Int))) (wt0 rfl) rfl rfl (x_assign rfl rfl) ?_)
        refine g_nil ?_
        refine g_in ?_
        refine g_then ?_
        refine g_region ?_
        refine l_of (s_val (v := .int .i64 ((s : Int) + 1)) (wt0 rfl) rfl rfl (x_bin rfl rfl rfl (b_add (w64 (by omega)))) ?_)
        refine l_of (s_val (v := .int .i64 ((s : Int) + 1)) (wt0 rfl) rfl rfl (x_move rfl rfl) ?_)
        refine g_nil ?_
        refine g_then ?_
        refine g_round (i := (s, bs, qq, dd)) (s + 1, bs / 2, p23, c24) ?_ ?_ ?_
        · exact ⟨rfl, rfl, rfl, rfl, rfl, trivial⟩
        · exact ⟨by omega, (by rw [hbs, Nat.div_div_eq_div_mul, Nat.pow_succ]), (by rw [wayTo_next, stV_snoc, show topS b ((upN (tallN l.length) l).getD 0 ⟨#[]⟩) u (s + 1) = pairS (topS b ((upN (tallN l.length) l).getD 0 ⟨#[]⟩) u s) (u.getD s ⟨#[]⟩) from by (conv => lhs; unfold topS); rw [if_pos (by rw [← hbs]; omega)]]; exact (H26.takes [1, 2] (by decide)))⟩
        · (try dsimp only); omega
      · skip
        refine g_cond_f rfl (decide_eq_false hb17) ?_
        refine g_region ?_
        refine l_of (s_val (v := .slice qq (s + 1) dd) (wt0 rfl) rfl rfl (x_move rfl rfl) ?_)
        refine l_of (s_val (v := .string ((u.getD (s) ⟨#[]⟩))) (wt0 rfl) rfl rfl (x_move rfl rfl) ?_)
        refine l_of (s_val (v := .string ((topS b ((upN (tallN l.length) l).getD 0 ⟨#[]⟩) u s))) (wt0 rfl) rfl rfl (x_move rfl rfl) ?_)
        refine l_of (s_call (wt0 rfl) (x_call' rfl rfl cl74) (pair_r _ _ (by omega) _) ?_)
        rintro _ wq27 ⟨rfl, H28⟩
        replace H28 : S wq27 [Rw 9 1 qq (s + 1) dd (stV (wayTo b ((upN (tallN l.length) l).getD 0 ⟨#[]⟩) u (s + 1))), Old w no] := H15.absorb (new := []) H28
        refine b_ret rfl rfl ?_
        refine l_of (s_buildSlice H28 (wt0 rfl) rfl rfl rfl (vs := [.string ((pairS (u.getD (s) ⟨#[]⟩) (topS b ((upN (tallN l.length) l).getD 0 ⟨#[]⟩) u s)))]) rfl Tryz.underlying22 sz9 ze9 rfl rfl (cells := #[.string ((pairS (u.getD (s) ⟨#[]⟩) (topS b ((upN (tallN l.length) l).getD 0 ⟨#[]⟩) u s)))]) (by kernel_rfl) ?_)
        intro g29 wq30 H31
        refine l_of (s_appendR (n := (s + 1)) (m := 1) (sc := dd) (xs := (stV (wayTo b ((upN (tallN l.length) l).getD 0 ⟨#[]⟩) u (s + 1)))) (news := [.string ((pairS (u.getD (s) ⟨#[]⟩) (topS b ((upN (tallN l.length) l).getD 0 ⟨#[]⟩) u s)))]) (p := qq) (ad := ⟨g29, 0, none⟩) H31 1 (wt0 rfl) rfl rfl rfl rfl rfl rfl Tryz.underlying22 inf9 rfl (by decide) (by decide) rfl (by decide) (news_ob H31 (j0 := 0) rfl) rfl (by omega) ?_)
        intro p32 c33 wq34 (H35 : S wq34 [Ob g29 (.cells #[.string ((pairS (u.getD (s) ⟨#[]⟩) (topS b ((upN (tallN l.length) l).getD 0 ⟨#[]⟩) u s)))] 9 (0, 0)), Rw 9 1 p32 ((s + 1) + 1) c33 ((stV (wayTo b ((upN (tallN l.length) l).getD 0 ⟨#[]⟩) u (s + 1))) ++ [.string ((pairS (u.getD (s) ⟨#[]⟩) (topS b ((upN (tallN l.length) l).getD 0 ⟨#[]⟩) u s)))]), Old w no])
        refine l_of (s_val (v := .slice p32 ((s + 1) + 1) c33) (wt0 rfl) rfl rfl (x_assign rfl rfl) ?_)
        refine g_nil ?_
        refine g_then ?_
        refine g_weak [(8, .int .i64 ((bs : Int))), (9, .slice p32 ((s + 1) + 1) c33), (27, .slice q u.length d), (28, .int .i64 ((u.length : Int))), (29, .int .i64 ((s : Int)))] ⟨rfl, rfl, rfl, rfl, rfl, trivial⟩ ?_
        refine g_region ?_
        refine l_of (s_val (v := .int .i64 ((bs : Int))) (wt0 rfl) rfl rfl (x_move rfl rfl) ?_)
        refine l_of (s_val (v := .int .i64 (((bs / 2 : Nat) : Int))) (wt0 rfl) rfl rfl (x_bin rfl rfl rfl (b_quoN (a := bs) (b := 2) (by omega))) ?_)
        refine l_of (s_val (v := .int .i64 (((bs / 2 : Nat) : Int))) (wt0 rfl) rfl rfl (x_assign rfl rfl) ?_)
        refine g_nil ?_
        refine g_in ?_
        refine g_then ?_
        refine g_region ?_
        refine l_of (s_val (v := .int .i64 ((s : Int) + 1)) (wt0 rfl) rfl rfl (x_bin rfl rfl rfl (b_add (w64 (by omega)))) ?_)
        refine l_of (s_val (v := .int .i64 ((s : Int) + 1)) (wt0 rfl) rfl rfl (x_move rfl rfl) ?_)
        refine g_nil ?_
        refine g_then ?_
        refine g_round (i := (s, bs, qq, dd)) (s + 1, bs / 2, p32, c33) ?_ ?_ ?_
        · exact ⟨rfl, rfl, rfl, rfl, rfl, trivial⟩
        · exact ⟨by omega, (by rw [hbs, Nat.div_div_eq_div_mul, Nat.pow_succ]), (by rw [wayTo_next, stV_snoc, show topS b ((upN (tallN l.length) l).getD 0 ⟨#[]⟩) u (s + 1) = pairS (u.getD s ⟨#[]⟩) (topS b ((upN (tallN l.length) l).getD 0 ⟨#[]⟩) u s) from by (conv => lhs; unfold topS); rw [if_neg (by rw [← hbs]; omega)]]; exact (H35.takes [1, 2] (by decide)))⟩
        · (try dsimp only); omega
    · skip
      have hsl : s = u.length := by omega
      subst hsl
      refine g_cond_f rfl (decide_eq_false hb16) ?_
      refine g_exit ?_
      refine g_then_exit ?_
      refine g_then_exit ?_
      refine g_in_hit ?_
      refine g_then ?_
      refine g_seq ?_
      refine g_region ?_
      refine l_of (s_val (v := .slice qq (u.length + 1) dd) (wt0 rfl) rfl rfl (x_move rfl rfl) ?_)
      refine l_of (s_val (v := .slice qq (u.length + 1) dd) (wt0 rfl) rfl rfl (x_assign rfl rfl) ?_)
      refine g_nil ?_
      refine g_then ?_
      refine g_ret ?_
      refine fin_ret [.tmp 6] [.slice qq (u.length + 1) dd] rfl ⟨rfl, trivial⟩ ?_
      exact ⟨_, _, rfl, by rw [← hb]; exact H15.takes [0, 1] (by decide)⟩
end Go.Proofs.YtlajgickimgigaaGreat
