import Derived.Test.YthfglkkjkpdkpaaDoorNi
set_option linter.unusedSimpArgs false
set_option linter.unusedVariables false
namespace Go.Proofs.YthfglkkjkpdkpaaDoor
open Go.RowKit

theorem cl37 : callable Tryd.prog 37 = true := by kernel_rfl
theorem hc_out {rs : List Shr} {i : Nat} {x : Shr} (hx : rs[i]? = some x) (k : Int) : othN (rs.map Shr.sh) x.sh k = (((rs.eraseIdx i).filter fun q => decide (k ∈ q.holds)).length : Int) := by
  have hq : (rs.map Shr.sh)[i]? = some x.sh := by rw [List.getElem?_map, hx]; rfl
  have h1 := filter_out (fun p : Sh => decide (k ∈ p.holds)) hq
  have h2 : (((rs.map Shr.sh).eraseIdx i).filter fun p : Sh => decide (k ∈ p.holds)).length = ((rs.eraseIdx i).filter fun q => decide (k ∈ q.holds)).length := by
    rw [← map_eraseF, List.filter_map, List.length_map]; rfl
  rw [h2] at h1
  unfold othN hcN
  rw [h1]
  unfold b01
  by_cases h : k ∈ x.sh.holds
  · rw [if_pos h, if_pos (decide_eq_true h)]; omega
  · rw [if_neg h, if_neg (by simp [h])]; omega
theorem wait_iff {rs : List Shr} {i : Nat} {x : Shr} (hx : rs[i]? = some x) (k : Int) : (¬ ∃ (k9 : Nat) (q : Shr), k9 < rs.length ∧ rs[k9]? = some q ∧ k ∈ q.holds ∧ (k9 ≠ i ∨ rs.length = 1)) ↔ (othN (rs.map Shr.sh) x.sh k = 0 ∧ (1 < rs.length ∨ k ∉ x.holds)) := by
  have hi := (List.getElem?_eq_some_iff.1 hx).1
  rw [hc_out hx]
  constructor
  · intro h
    refine ⟨?_, ?_⟩
    · have h0 : ((rs.eraseIdx i).filter fun q => decide (k ∈ q.holds)) = [] := by
        rw [List.filter_eq_nil_iff]
        intro q hq hd
        obtain ⟨k9, hne, hk9⟩ := List.mem_eraseIdx_iff_getElem?.1 hq
        exact h ⟨k9, q, (List.getElem?_eq_some_iff.1 hk9).1, hk9, of_decide_eq_true hd, .inl hne⟩
      rw [h0]; rfl
    · by_cases hk : k ∈ x.holds
      · left
        refine Decidable.byContradiction fun hn => h ⟨i, x, hi, hx, hk, .inr (by omega)⟩
      · exact .inr hk
  · rintro ⟨h1, h2⟩ ⟨k9, q, h3, h4, h5, h6⟩
    by_cases hne : k9 = i
    · subst hne
      rw [hx] at h4; cases h4
      rcases h6 with h6 | h6
      · exact h6 rfl
      · rcases h2 with h2 | h2
        · omega
        · exact h2 h5
    · have h7 : q ∈ (rs.eraseIdx i).filter fun q => decide (k ∈ q.holds) := List.mem_filter.2 ⟨List.mem_eraseIdx_iff_getElem?.2 ⟨k9, hne, h4⟩, decide_eq_true h5⟩
      have h8 : ((rs.eraseIdx i).filter fun q => decide (k ∈ q.holds)).length = 0 := by omega
      rw [List.eq_nil_of_length_eq_zero h8] at h7; cases h7
theorem pb_nxt {rs : List Shr} {m : Nat} {x : Shr} {P : Nat → Shr → Prop} {pb pb2 : Bool} (h : pb = true ↔ ∃ (k9 : Nat) (q : Shr), k9 < m ∧ rs[k9]? = some q ∧ P k9 q) (hx : rs[m]? = some x) (h2 : pb2 = true ↔ (pb = true ∨ P m x)) : pb2 = true ↔ ∃ (k9 : Nat) (q : Shr), k9 < m + 1 ∧ rs[k9]? = some q ∧ P k9 q := by
  rw [h2, h]
  constructor
  · rintro (⟨k9, q, h3, h4⟩ | h3)
    · exact ⟨k9, q, by omega, h4⟩
    · exact ⟨m, x, by omega, hx, h3⟩
  · rintro ⟨k9, q, h3, h4, h5⟩
    by_cases e : k9 = m
    · subst e; rw [hx] at h4; cases h4; exact .inr h5
    · exact .inl ⟨k9, q, by omega, h4, h5⟩
theorem IsBest.app {c : Int → Int → Int} {l : List Int} {j : Nat} {x y : Int} (h : IsBest c l l.length j x) : IsBest c (l ++ [y]) l.length j x := ⟨h.1, by rw [List.getElem?_append_left h.1]; exact h.2.1, fun k z hk hz => h.2.2 k z hk (by rwa [List.getElem?_append_left hk] at hz)⟩
/-- The best one, of the first m. -/
def NB (seed : ByteArray) (ps : List Sh) (p : Sh) (m : Nat) (a t e : Int) : Prop := (a = -1 ∧ candM p m = []) ∨ (0 ≤ a ∧ a < m ∧ t = (tcN ps a : Int) ∧ e = (hcN ps a : Int) ∧ ∃ j, IsBest (cN seed ps) (candM p m) (candM p m).length j a)
section
variable {seed : ByteArray} {ps : List Sh} {p : Sh} {m : Nat} {a t e : Int}
theorem NB.skip (h : NB seed ps p m a t e) (hq : ¬ qC p (m : Int) = true) : NB seed ps p (m + 1) a t e := by
  have e1 : candM p (m + 1) = candM p m := by rw [cand_snoc, if_neg hq, List.append_nil]
  unfold NB
  rw [e1]
  rcases h with h | ⟨h1, h2, h3⟩
  · exact .inl h
  · exact .inr ⟨h1, by omega, h3⟩
theorem NB.rng (h : NB seed ps p m a t e) (ha : ¬ a < 0) : 0 ≤ a ∧ a < m := by
  rcases h with h | h
  · omega
  · exact ⟨h.1, h.2.1⟩
theorem NB.c (h : NB seed ps p m a t e) (ha : ¬ a < 0) (y : Int) : cN seed ps y a < 0 ↔ ((tcN ps y : Int) < t ∨ ((tcN ps y : Int) = t ∧ ((hcN ps y : Int) < e ∨ ((hcN ps y : Int) = e ∧ cmpSt (rankS seed y) (rankS seed a) < 0)))) := by
  rcases h with h | ⟨_, _, h3, h4, _⟩
  · omega
  · subst h3; subst h4
    unfold cN
    split
    · omega
    · split <;> omega
theorem NB.new (h : NB seed ps p m a t e) (hq : qC p (m : Int) = true) (hc : a < 0 ∨ cN seed ps (m : Int) a < 0) : NB seed ps p (m + 1) (m : Int) (tcN ps (m : Int) : Int) (hcN ps (m : Int) : Int) := by
  have e1 : candM p (m + 1) = candM p m ++ [(m : Int)] := by rw [cand_snoc, if_pos hq]
  unfold NB
  rw [e1]
  refine .inr ⟨by omega, by omega, rfl, rfl, (candM p m).length, ?_⟩
  rw [List.length_append, List.length_singleton]
  have hy : (candM p m ++ [(m : Int)])[(candM p m).length]? = some (m : Int) := by rw [List.getElem?_append_right (Nat.le_refl _), Nat.sub_self]; rfl
  rcases h with ⟨_, h2⟩ | ⟨h1, _, _, _, j, hb⟩
  · rw [h2]; exact IsBest.first (cN_wk seed ps) rfl
  · exact hb.app.take (cN_wk seed ps) hy (hc.resolve_left (by omega))
theorem NB.old (h : NB seed ps p m a t e) (hq : qC p (m : Int) = true) (ha : ¬ a < 0) (hc : ¬ cN seed ps (m : Int) a < 0) : NB seed ps p (m + 1) a t e := by
  have e1 : candM p (m + 1) = candM p m ++ [(m : Int)] := by rw [cand_snoc, if_pos hq]
  unfold NB
  rw [e1]
  rcases h with ⟨h1, _⟩ | ⟨h1, h2, h3, h4, j, hb⟩
  · omega
  · refine .inr ⟨h1, by omega, h3, h4, j, ?_⟩
    rw [List.length_append, List.length_singleton]
    have hy : (candM p m ++ [(m : Int)])[(candM p m).length]? = some (m : Int) := by rw [List.getElem?_append_right (Nat.le_refl _), Nat.sub_self]; rfl
    exact hb.app.keep hy hc
end
theorem rm_fold2 {h : Nat} {pp : Option Addr} {kc : Nat} {seed : ByteArray} {n m : Nat} {l : List Shr} {w : World} {O O2 : Item} (hl : l.length = m) (H : S w [Ob h (.cells #[.string seed, .int .i64 (n : Int), .slice pp m kc] 52 (0, 0)), Rw 61 3 pp m kc (fl shwL l), Lst RoI l, O, O2]) : S w ([RM.I ⟨h, pp, kc, seed, n, l⟩, O] ++ [O2]) := by
  subst hl
  exact S.big (L := [_, _, _]) H
set_option maxRecDepth 20000 in
set_option maxHeartbeats 4000000 in
set_option maxRecDepth 20000 in
set_option maxHeartbeats 4000000 in
theorem nextr_s (j h : Nat) (pp : Option Addr) (kc : Nat) (seed : ByteArray) (n : Nat) (rs : List Shr) (hZ : PI j (⟨seed, n, rs.map Shr.sh⟩ : SP)) (hj : j ≤ 1000) (w9 : World) (ht : PowTab w9) (id : Int)  (w : World) (HS : S w [(RM.I ⟨h, pp, kc, seed, n, rs⟩), Old w9 no]) : Calls Tryd.prog 17 #[.pointer (some ⟨h, 0, none⟩), .int .i64 id] w fun e w' => ∃ Y : RM, Y.h = h ∧ Y.A = nextA (⟨seed, n, rs.map Shr.sh⟩ : SP) id ∧ e = .returned (.tuple #[.int .i64 (nextV (⟨seed, n, rs.map Shr.sh⟩ : SP) id), .int .i64 (nextE (⟨seed, n, rs.map Shr.sh⟩ : SP) id)]) ∧ S w' ([Y.I, Old w9 no] ++ [Old w (fps [(RM.I ⟨h, pp, kc, seed, n, rs⟩), Old w9 no])]) := by
  have H00 := HS.beginI
  have H0 : S w ([(RM.I ⟨h, pp, kc, seed, n, rs⟩), Old w9 no, Old w (fps [(RM.I ⟨h, pp, kc, seed, n, rs⟩), Old w9 no])]) := H00
  have hPI : PI j (⟨seed, n, rs.map Shr.sh⟩ : SP) := hZ
  have hps : rs.length ≤ j := by have := hPI.len; simpa using this
  have hn30 : n ≤ 30 := hPI.n30
  have hrok : ∀ (i9 : Nat) (x9 : Shr), rs[i9]? = some x9 → x9.told.length ≤ j ∧ x9.holds.length ≤ j := fun i9 x9 h9 => by have h8 := hPI.at (i := i9) (p := x9.sh) (by show (rs.map Shr.sh)[i9]? = _; rw [List.getElem?_map, h9]; rfl); exact ⟨h8.2.1, h8.2.2.1⟩
  replace H0 : S w [Ob h (.cells #[.string seed, .int .i64 ((n : Int)), .slice pp rs.length kc] 52 (0, 0)), Rw 61 3 pp rs.length kc (fl shwL rs), (Lst RoI rs), Old w9 no, Old w (fps [(RM.I ⟨h, pp, kc, seed, n, rs⟩), Old w9 no])] := S.unbig H0
  refine enter 166 Tryd.func17 rfl rfl rfl ?_
  refine g_weak [(0, .pointer (some ⟨h, 0, none⟩)), (1, .int .i64 id)] ⟨rfl, rfl, trivial⟩ ?_
  refine g_seq ?_
  refine g_region ?_
  refine l_of (s_val (v := .int .i64 0) (wt0 rfl) rfl rfl (x_assign rfl rfl) ?_)
  refine l_of (s_val (v := .int .i64 0) (wt0 rfl) rfl rfl (x_assign rfl rfl) ?_)
  refine g_nil ?_
  refine g_then ?_
  refine g_seq ?_
  refine g_seq ?_
  refine g_region ?_
  refine l_of (s_val (v := .pointer (some ⟨h, 0, none⟩)) (wt0 rfl) rfl rfl (x_move rfl rfl) ?_)
  refine l_of (s_val (v := .int .i64 id) (wt0 rfl) rfl rfl (x_move rfl rfl) ?_)
  refine l_of (s_call (wt0 rfl) (x_call' rfl rfl cl25) (askedr_s h id _) ?_)
  rintro _ wq1 ⟨rfl, H2⟩
  replace H2 : S wq1 [Ob h (.cells #[.string seed, .int .i64 ((n : Int)), .slice pp rs.length kc] 52 (0, 0)), Rw 61 3 pp rs.length kc (fl shwL rs), (Lst RoI rs), Old w9 no, Old w (fps [(RM.I ⟨h, pp, kc, seed, n, rs⟩), Old w9 no])] := H0.absorb (new := []) H2
  refine b_ret rfl rfl ?_
  refine l_of (s_val (v := .int .i64 ((ask7 id))) (wt0 rfl) rfl rfl (x_assign rfl rfl) ?_)
  refine g_nil ?_
  refine g_then ?_
  refine g_seq ?_
  refine g_region ?_
  refine l_of (s_val (v := .int .i64 ((ask7 id))) (wt0 rfl) rfl rfl (x_move rfl rfl) ?_)
  refine l_of (s_val (v := .bool (!decide (((ask7 id) : Int) = 0))) (wt0 rfl) rfl rfl (x_bin rfl rfl rfl b_neq) ?_)
  refine g_nil ?_
  refine g_then ?_
  by_cases hb3 : ((ask7 id) : Int) = 0
  · skip
    refine g_cond_f rfl (nf hb3) ?_
    refine g_skip ?_
    refine g_then ?_
    refine g_seq ?_
    refine g_region ?_
    refine l_of (s_val (v := .pointer (some ⟨h, 0, none⟩)) (wt0 rfl) rfl rfl (x_move rfl rfl) ?_)
    refine l_of (s_val (v := .int .i64 id) (wt0 rfl) rfl rfl (x_move rfl rfl) ?_)
    refine l_of (s_call (wt0 rfl) (x_call' rfl rfl cl26) (findr_s j h pp kc seed n rs hZ hj id _ (H2.takes [0, 1, 2] (by decide))) ?_)
    rintro ee6 wq4 hor7
    rcases hor7 with ⟨i, x, hx, hxi, hf, rfl, H5⟩ | ⟨hf, rfl, H5⟩
    · skip
      replace H5 : S wq4 [Ob h (.cells #[.string seed, .int .i64 ((n : Int)), .slice pp rs.length kc] 52 (0, 0)), Rw 61 3 pp rs.length kc (fl shwL rs), (Lst RoI rs), Old w9 no, Old w (fps [(RM.I ⟨h, pp, kc, seed, n, rs⟩), Old w9 no])] := H2.absorbI (new := [Ob h (.cells #[.string seed, .int .i64 ((n : Int)), .slice pp rs.length kc] 52 (0, 0)), Rw 61 3 pp rs.length kc (fl shwL rs), (Lst RoI rs)]) [0, 1, 2] H5
      have hlx := hrok i x hx
      have hil := (List.getElem?_eq_some_iff.1 hx).1
      have hqx : (rs.map Shr.sh)[i]? = some x.sh := by rw [List.getElem?_map, hx]; rfl
      have hg9 : getP (⟨seed, n, rs.map Shr.sh⟩ : SP) i = x.sh := getP_at hqx
      have hpk := hPI.at (p := x.sh) hqx
      refine b_ret rfl rfl ?_
      refine l_of (s_val (v := .int .i64 ((i : Int))) (wt0 rfl) rfl rfl (x_assign rfl rfl) ?_)
      refine g_nil ?_
      refine g_then ?_
      refine g_weak [(0, .pointer (some ⟨h, 0, none⟩)), (7, .int .i64 ((i : Int)))] ⟨rfl, rfl, trivial⟩ ?_
      refine g_seq ?_
      refine g_seq ?_
      refine g_region ?_
      refine l_of (s_val (v := .int .i64 ((i : Int))) (wt0 rfl) rfl rfl (x_move rfl rfl) ?_)
      refine l_of (s_val (v := .bool (decide (((i : Int) : Int) < 0))) (wt0 rfl) rfl rfl (x_bin rfl rfl rfl b_lss) ?_)
      refine g_nil ?_
      refine g_then ?_
      by_cases hb8 : ((i : Int) : Int) < 0
      · skip
        refine g_cond_t rfl (decide_eq_true hb8) ?_
        refine g_seq ?_
        refine g_region ?_
        refine l_of (s_val (v := .int .i64 0) (wt0 rfl) rfl rfl (x_assign rfl rfl) ?_)
        refine l_of (s_val (v := .int .i64 8) (wt0 rfl) rfl rfl (x_assign rfl rfl) ?_)
        refine g_nil ?_
        refine g_then ?_
        refine g_ret ?_
        refine g_then_ret ?_
        refine fin_ret [.tmp 4, .tmp 5] [.int .i64 0, .int .i64 8] rfl ⟨rfl, rfl, trivial⟩ ?_
        omega
      · skip
        refine g_cond_f rfl (decide_eq_false hb8) ?_
        refine g_skip ?_
        refine g_then ?_
        refine g_seq ?_
        refine g_region ?_
        refine l_of (s_val (v := .pointer (some ⟨h, 0, none⟩)) (wt0 rfl) rfl rfl (x_move rfl rfl) ?_)
        refine l_of (s_val (v := .pointer (some ⟨h, 0, none⟩)) (wt0 rfl) rfl rfl (x_nilCheck rfl rfl) ?_)
        refine l_of (s_val (v := .pointer (some ⟨h, 2, none⟩)) (wt0 rfl) rfl rfl (x_fieldAddr rfl rfl fo52_2 rfl) ?_)
        refine l_of (s_val (v := .slice pp rs.length kc) (wt0 rfl) rfl rfl (x_load1 H5 0 rfl rfl Tryd.underlying50 rfl rfl rfl) ?_)
        refine l_of (s_val (v := .int .i64 ((i : Int))) (wt0 rfl) rfl rfl (x_move rfl rfl) ?_)
        refine l_of (s_val (v := .pointer ((pp).map fun q => q.add (i * 3))) (wt0 rfl) rfl rfl (x_idxR i (H5.rwReads (k := 1) rfl) rfl rfl rfl Tryd.underlying50 sz61 (by omega)) ?_)
        refine l_of (s_val (v := .agg #[.int .i64 (x.id), .slice x.tp x.told.length x.tc, .slice x.hp x.holds.length x.hc]) (wt0 rfl) rfl rfl (x_loadRA (vs := shwL x) i (H5.rwReads (k := 1) rfl) (by omega) rfl rfl Tryd.underlying61 rfl sz61 (by rfl) (shwE.flAt hx)) ?_)
        refine l_of (s_alloc H5 (wt0 rfl) rfl rfl rfl ze61 ?_)
        intro g9 wq10 H11
        refine l_of (s_store H11 0 (wt0 rfl) rfl rfl rfl rfl rfl sz61 rfl rfl (cs' := #[.int .i64 (x.id), .slice x.tp x.told.length x.tc, .slice x.hp x.holds.length x.hc]) rfl ?_)
        intro wq12 H13
        refine g_nil ?_
        refine g_then ?_
        refine g_seq ?_
        refine g_seq ?_
        refine g_region ?_
        refine l_of (s_val (v := .pointer (some ⟨g9, 1, none⟩)) (wt0 rfl) rfl rfl (x_fieldAddr rfl rfl fo61_1 rfl) ?_)
        refine l_of (s_val (v := .slice x.tp x.told.length x.tc) (wt0 rfl) rfl rfl (x_load1 H13 0 rfl rfl Tryd.underlying35 rfl rfl rfl) ?_)
        refine l_of (s_val (v := .int .i64 ((x.told.length : Int))) (wt0 rfl) rfl rfl (x_lenl rfl rfl Tryd.underlying35) ?_)
        refine l_of (s_val (v := .bool (decide ((0 : Int) < (x.told.length : Int)))) (wt0 rfl) rfl rfl (x_bin rfl rfl rfl b_gtr) ?_)
        refine g_nil ?_
        refine g_then ?_
        refine g_weak [(0, .pointer (some ⟨h, 0, none⟩)), (7, .int .i64 ((i : Int))), (8, .pointer (some ⟨g9, 0, none⟩)), (40, .bool (decide ((0 : Int) < (x.told.length : Int))))] ⟨rfl, rfl, rfl, rfl, trivial⟩ ?_
        by_cases hb14 : (0 : Int) < (x.told.length : Int)
        · skip
          refine g_cond_t rfl (decide_eq_true hb14) ?_
          refine g_seq ?_
          refine g_region ?_
          refine l_of (s_val (v := .pointer (some ⟨g9, 1, none⟩)) (wt0 rfl) rfl rfl (x_fieldAddr rfl rfl fo61_1 rfl) ?_)
          refine l_of (s_val (v := .slice x.tp x.told.length x.tc) (wt0 rfl) rfl rfl (x_load1 H13 0 rfl rfl Tryd.underlying35 rfl rfl rfl) ?_)
          refine l_of (s_val (v := .pointer (some ⟨g9, 1, none⟩)) (wt0 rfl) rfl rfl (x_fieldAddr rfl rfl fo61_1 rfl) ?_)
          refine l_of (s_val (v := .slice x.tp x.told.length x.tc) (wt0 rfl) rfl rfl (x_load1 H13 0 rfl rfl Tryd.underlying35 rfl rfl rfl) ?_)
          refine l_of (s_val (v := .int .i64 ((x.told.length : Int))) (wt0 rfl) rfl rfl (x_lenl rfl rfl Tryd.underlying35) ?_)
          refine l_of (s_val (v := .int .i64 ((x.told.length : Int) - 1)) (wt0 rfl) rfl rfl (x_bin rfl rfl rfl (b_sub (w64 (by omega)))) ?_)
          refine l_of (s_val (v := .pointer ((x.tp).map fun q => q.add ((((x.told.length : Int) - 1).toNat) * 1))) (wt0 rfl) rfl rfl (x_idxR (((x.told.length : Int) - 1).toNat) (H13.rdT (k := 3) rfl hx) rfl rfl rfl Tryd.underlying35 sz3 (by omega)) ?_)
          have hlq := (H13.rdT (k := 3) rfl hx).lenL intE
          obtain ⟨x15, hx15⟩ := ex_at (l := x.told) (j := (((x.told.length : Int) - 1).toNat)) (by omega)
          clear hlq
          have hlst : x.sh.told.getLast? = some x15 := by rw [List.getLast?_eq_getElem?]; have h9 := hx15; rw [show ((x.told.length : Int) - 1).toNat = x.told.length - 1 from by omega] at h9; exact h9
          refine l_of (s_val (v := .int .i64 x15) (wt0 rfl) rfl rfl (x_loadR1 (((x.told.length : Int) - 1).toNat) (H13.rdT (k := 3) rfl hx) (by omega) rfl rfl Tryd.underlying3 rfl (intE.flAt1 hx15 rfl)) ?_)
          refine l_of (s_val (v := .int .i64 x15) (wt0 rfl) rfl rfl (x_assign rfl rfl) ?_)
          refine g_nil ?_
          refine g_then ?_
          refine g_seq ?_
          refine g_region ?_
          refine l_of (s_val (v := .bool false) (wt0 rfl) rfl rfl (x_assign rfl rfl) ?_)
          refine g_nil ?_
          refine g_then ?_
          refine g_seq ?_
          refine g_seq ?_
          refine g_region ?_
          refine l_of (s_val (v := .pointer (some ⟨h, 0, none⟩)) (wt0 rfl) rfl rfl (x_move rfl rfl) ?_)
          refine l_of (s_val (v := .pointer (some ⟨h, 0, none⟩)) (wt0 rfl) rfl rfl (x_nilCheck rfl rfl) ?_)
          refine l_of (s_val (v := .pointer (some ⟨h, 2, none⟩)) (wt0 rfl) rfl rfl (x_fieldAddr rfl rfl fo52_2 rfl) ?_)
          refine l_of (s_val (v := .slice pp rs.length kc) (wt0 rfl) rfl rfl (x_load1 H13 1 rfl rfl Tryd.underlying50 rfl rfl rfl) ?_)
          refine l_of (s_val (v := .int .i64 ((rs.length : Int))) (wt0 rfl) rfl rfl (x_lenl rfl rfl Tryd.underlying50) ?_)
          refine l_of (s_val (v := .int .i64 0) (wt0 rfl) rfl rfl (x_move rfl rfl) ?_)
          refine g_nil ?_
          refine g_then ?_
          refine g_weak [(0, .pointer (some ⟨h, 0, none⟩)), (7, .int .i64 ((i : Int))), (8, .pointer (some ⟨g9, 0, none⟩)), (9, .int .i64 x15), (10, .bool false), (52, .slice pp rs.length kc), (53, .int .i64 ((rs.length : Int))), (54, .int .i64 0)] ⟨rfl, rfl, rfl, rfl, rfl, rfl, rfl, rfl, trivial⟩ ?_
          refine g_block ?_
          refine g_loop (ι := Nat × Bool) (fun (m, pb) => [(0, .pointer (some ⟨h, 0, none⟩)), (7, .int .i64 ((i : Int))), (8, .pointer (some ⟨g9, 0, none⟩)), (9, .int .i64 x15), (10, .bool pb), (52, .slice pp rs.length kc), (53, .int .i64 ((rs.length : Int))), (54, .int .i64 ((m : Int)))]) (fun (m, pb) wx => (m ≤ rs.length) ∧ (pb = true ↔ ∃ (k9 : Nat) (q : Shr), k9 < m ∧ rs[k9]? = some q ∧ (x15 ∈ q.holds ∧ (k9 ≠ i ∨ rs.length = 1))) ∧ S wx [Ob g9 (.cells #[.int .i64 (x.id), .slice x.tp x.told.length x.tc, .slice x.hp x.holds.length x.hc] 61 (0, 0)), Ob h (.cells #[.string seed, .int .i64 ((n : Int)), .slice pp rs.length kc] 52 (0, 0)), Rw 61 3 pp rs.length kc (fl shwL rs), (Lst RoI rs), Old w9 no, Old w (fps [(RM.I ⟨h, pp, kc, seed, n, rs⟩), Old w9 no])]) (fun (m, pb) => rs.length - m) (0, false) ⟨rfl, rfl, rfl, rfl, rfl, rfl, rfl, rfl, trivial⟩ ⟨Nat.zero_le _, ⟨fun h => (by cases h), fun ⟨k9, q, h, _⟩ => absurd h (Nat.not_lt_zero _)⟩, (H13.takes [0, 1, 2, 3, 4, 5] (by decide))⟩ ?_
          rintro ⟨m, pb⟩ wq16 ⟨hm, hpb, H17⟩
          replace H17 : S wq16 [Ob g9 (.cells #[.int .i64 (x.id), .slice x.tp x.told.length x.tc, .slice x.hp x.holds.length x.hc] 61 (0, 0)), Ob h (.cells #[.string seed, .int .i64 ((n : Int)), .slice pp rs.length kc] 52 (0, 0)), Rw 61 3 pp rs.length kc (fl shwL rs), (Lst RoI rs), Old w9 no, Old w (fps [(RM.I ⟨h, pp, kc, seed, n, rs⟩), Old w9 no])] := H17
          refine g_weak [(0, .pointer (some ⟨h, 0, none⟩)), (7, .int .i64 ((i : Int))), (8, .pointer (some ⟨g9, 0, none⟩)), (9, .int .i64 x15), (10, .bool pb), (52, .slice pp rs.length kc), (53, .int .i64 ((rs.length : Int))), (54, .int .i64 ((m : Int)))] ⟨rfl, rfl, rfl, rfl, rfl, rfl, rfl, rfl, trivial⟩ ?_
          refine g_seq ?_
          refine g_region ?_
          refine l_of (s_val (v := .bool (decide (((m : Int) : Int) < (rs.length : Int)))) (wt0 rfl) rfl rfl (x_bin rfl rfl rfl b_lss) ?_)
          refine g_nil ?_
          refine g_then ?_
          refine g_seq ?_
          by_cases hb18 : ((m : Int) : Int) < (rs.length : Int)
          · skip
            refine g_cond_t rfl (decide_eq_true hb18) ?_
            refine g_skip ?_
            refine g_then ?_
            refine g_seq ?_
            refine g_block ?_
            refine g_seq ?_
            refine g_region ?_
            refine l_of (s_val (v := .int .i64 ((m : Int))) (wt0 rfl) rfl rfl (x_move rfl rfl) ?_)
            refine l_of (s_val (v := .pointer ((pp).map fun q => q.add (m * 3))) (wt0 rfl) rfl rfl (x_idxR m (H17.rwReads (k := 2) rfl) rfl rfl rfl Tryd.underlying50 sz61 (by omega)) ?_)
            have hlq := (H17.rwReads (k := 2) rfl).lenL shwE
            obtain ⟨x19, hx19⟩ := ex_at (l := rs) (j := m) (by omega)
            clear hlq
            have hlx19 := hrok m x19 hx19
            refine l_of (s_val (v := .agg #[.int .i64 (x19.id), .slice x19.tp x19.told.length x19.tc, .slice x19.hp x19.holds.length x19.hc]) (wt0 rfl) rfl rfl (x_loadRA (vs := shwL x19) m (H17.rwReads (k := 2) rfl) (by omega) rfl rfl Tryd.underlying61 rfl sz61 (by rfl) (shwE.flAt hx19)) ?_)
            refine l_of (s_alloc H17 (wt0 rfl) rfl rfl rfl ze61 ?_)
            intro g20 wq21 H22
            refine l_of (s_val (v := .int .i64 ((m : Int))) (wt0 rfl) rfl rfl (x_assign rfl rfl) ?_)
            refine l_of (s_store H22 0 (wt0 rfl) rfl rfl rfl rfl rfl sz61 rfl rfl (cs' := #[.int .i64 (x19.id), .slice x19.tp x19.told.length x19.tc, .slice x19.hp x19.holds.length x19.hc]) rfl ?_)
            intro wq23 H24
            refine g_nil ?_
            refine g_then ?_
            refine g_region ?_
            refine l_of (s_val (v := .bool pb) (wt0 rfl) rfl rfl (x_move rfl rfl) ?_)
            refine l_of (s_val (v := .bool pb) (wt0 rfl) rfl rfl (x_move rfl rfl) ?_)
            rcases Bool.eq_false_or_eq_true (pb) with hb25 | hb25
            · skip
              refine l_of (s_not (wn1 rfl rfl rfl rfl hb25) rfl rfl ?_)
              refine l_of (s_not (wn1 rfl rfl rfl rfl hb25) rfl rfl ?_)
              refine l_of (s_not (wn1 rfl rfl rfl rfl hb25) rfl rfl ?_)
              refine l_of (s_not (wn1 rfl rfl rfl rfl hb25) rfl rfl ?_)
              refine l_of (s_not (wn1 rfl rfl rfl rfl hb25) rfl rfl ?_)
              refine l_of (s_not (wn2 rfl rfl rfl rfl) rfl rfl ?_)
              refine l_of (s_not (wn2 rfl rfl rfl rfl) rfl rfl ?_)
              refine l_of (s_not (wn2 rfl rfl rfl rfl) rfl rfl ?_)
              refine l_of (s_not (wn2 rfl rfl rfl rfl) rfl rfl ?_)
              refine l_of (s_not (wn2 rfl rfl rfl rfl) rfl rfl ?_)
              refine l_of (s_not (wn2 rfl rfl rfl rfl) rfl rfl ?_)
              refine l_of (s_not (wn2 rfl rfl rfl rfl) rfl rfl ?_)
              refine l_of (s_not (wn2 rfl rfl rfl rfl) rfl rfl ?_)
              refine l_of (s_not (wn2 rfl rfl rfl rfl) rfl rfl ?_)
              refine l_of (s_not (wn2 rfl rfl rfl rfl) rfl rfl ?_)
              refine l_of (s_not (wn2 rfl rfl rfl rfl) rfl rfl ?_)
              refine l_of (s_not (wn1 rfl rfl rfl rfl hb25) rfl rfl ?_)
              refine l_of (s_val (v := .bool true) (wt0 rfl) rfl rfl (x_pick_t rfl rfl hb25 rfl) ?_)
              refine l_of (s_val (v := .bool true) (wt0 rfl) rfl rfl (x_assign rfl rfl) ?_)
              refine g_nil ?_
              refine g_in ?_
              refine g_then ?_
              refine g_weak [(0, .pointer (some ⟨h, 0, none⟩)), (7, .int .i64 ((i : Int))), (8, .pointer (some ⟨g9, 0, none⟩)), (9, .int .i64 x15), (10, .bool true), (52, .slice pp rs.length kc), (53, .int .i64 ((rs.length : Int))), (54, .int .i64 ((m : Int)))] ⟨rfl, rfl, rfl, rfl, rfl, rfl, rfl, rfl, trivial⟩ ?_
              refine g_region ?_
              refine l_of (s_val (v := .int .i64 (((m + 1 : Nat) : Int))) (wt0 rfl) rfl rfl (x_bin rfl rfl rfl (b_add (by rw [w64 (by omega)]; omega))) ?_)
              refine l_of (s_val (v := .int .i64 (((m + 1 : Nat) : Int))) (wt0 rfl) rfl rfl (x_move rfl rfl) ?_)
              refine g_nil ?_
              refine g_then ?_
              refine g_round (i := (m, pb)) ((m + 1), true) ?_ ?_ ?_
              · exact ⟨rfl, rfl, rfl, rfl, rfl, rfl, rfl, rfl, trivial⟩
              · exact ⟨by omega, (pb_nxt hpb hx19 (by first | (simp_all; done) | (simp_all; omega))), (H24.takes [1, 2, 3, 4, 5, 6] (by decide))⟩
              · (try dsimp only); omega
            · skip
              refine l_of (s_val (v := .pointer (some ⟨g20, 2, none⟩)) (wt1 rfl rfl rfl rfl hb25) rfl rfl (x_fieldAddr rfl rfl fo61_2 rfl) ?_)
              refine l_of (s_val (v := .slice x19.hp x19.holds.length x19.hc) (wt1 rfl rfl rfl rfl hb25) rfl rfl (x_load1 H24 0 rfl rfl Tryd.underlying35 rfl rfl rfl) ?_)
              refine l_of (s_val (v := .int .i64 x15) (wt1 rfl rfl rfl rfl hb25) rfl rfl (x_move rfl rfl) ?_)
              refine l_of (s_call (wt1 rfl rfl rfl rfl hb25) (x_call' rfl rfl cl27) (in_r x19.holds x19.hp x19.holds.length x19.hc x15 (by omega) _ (H24.rdH (k := 4) rfl hx19)) ?_)
              rintro _ wq26 ⟨rfl, H27⟩
              replace H27 : S wq26 [Ob g20 (.cells #[.int .i64 (x19.id), .slice x19.tp x19.told.length x19.tc, .slice x19.hp x19.holds.length x19.hc] 61 (0, 0)), Ob g9 (.cells #[.int .i64 (x.id), .slice x.tp x.told.length x.tc, .slice x.hp x.holds.length x.hc] 61 (0, 0)), Ob h (.cells #[.string seed, .int .i64 ((n : Int)), .slice pp rs.length kc] 52 (0, 0)), Rw 61 3 pp rs.length kc (fl shwL rs), (Lst RoI rs), Old w9 no, Old w (fps [(RM.I ⟨h, pp, kc, seed, n, rs⟩), Old w9 no])] := H24.absorb (new := []) H27
              refine b_ret rfl rfl ?_
              refine l_of (s_val (v := .bool ((decide (x15 ∈ x19.holds)))) (wt1 rfl rfl rfl rfl hb25) rfl rfl (x_move rfl rfl) ?_)
              rcases Bool.eq_false_or_eq_true ((decide (x15 ∈ x19.holds))) with hb28 | hb28
              · skip
                refine l_of (s_val (v := .int .i64 ((m : Int))) (wt1 rfl rfl rfl rfl hb28) rfl rfl (x_move rfl rfl) ?_)
                refine l_of (s_val (v := .int .i64 ((i : Int))) (wt1 rfl rfl rfl rfl hb28) rfl rfl (x_move rfl rfl) ?_)
                refine l_of (s_val (v := .bool (!decide (((m : Int) : Int) = (i : Int)))) (wt1 rfl rfl rfl rfl hb28) rfl rfl (x_bin rfl rfl rfl b_neq) ?_)
                refine l_of (s_val (v := .bool (!decide (((m : Int) : Int) = (i : Int)))) (wt1 rfl rfl rfl rfl hb28) rfl rfl (x_move rfl rfl) ?_)
                by_cases hb29 : ((m : Int) : Int) = (i : Int)
                · skip
                  refine l_of (s_val (v := .pointer (some ⟨h, 0, none⟩)) (wt1 rfl rfl rfl rfl (nf hb29)) rfl rfl (x_move rfl rfl) ?_)
                  refine l_of (s_val (v := .pointer (some ⟨h, 0, none⟩)) (wt1 rfl rfl rfl rfl (nf hb29)) rfl rfl (x_nilCheck rfl rfl) ?_)
                  refine l_of (s_val (v := .pointer (some ⟨h, 2, none⟩)) (wt1 rfl rfl rfl rfl (nf hb29)) rfl rfl (x_fieldAddr rfl rfl fo52_2 rfl) ?_)
                  refine l_of (s_val (v := .slice pp rs.length kc) (wt1 rfl rfl rfl rfl (nf hb29)) rfl rfl (x_load1 H27 2 rfl rfl Tryd.underlying50 rfl rfl rfl) ?_)
                  refine l_of (s_val (v := .int .i64 ((rs.length : Int))) (wt1 rfl rfl rfl rfl (nf hb29)) rfl rfl (x_lenl rfl rfl Tryd.underlying50) ?_)
                  refine l_of (s_val (v := .bool (decide (((rs.length : Int) : Int) = 1))) (wt1 rfl rfl rfl rfl (nf hb29)) rfl rfl (x_bin rfl rfl rfl b_eql) ?_)
                  refine l_of (s_val (v := .bool (decide (((rs.length : Int) : Int) = 1))) (wt1 rfl rfl rfl rfl hb28) rfl rfl (x_pick_f rfl rfl (nf hb29) rfl) ?_)
                  refine l_of (s_val (v := .bool (decide (((rs.length : Int) : Int) = 1))) (wt1 rfl rfl rfl rfl hb25) rfl rfl (x_pick_t rfl rfl hb28 rfl) ?_)
                  refine l_of (s_val (v := .bool (decide (((rs.length : Int) : Int) = 1))) (wt0 rfl) rfl rfl (x_pick_f rfl rfl hb25 rfl) ?_)
                  refine l_of (s_val (v := .bool (decide (((rs.length : Int) : Int) = 1))) (wt0 rfl) rfl rfl (x_assign rfl rfl) ?_)
                  refine g_nil ?_
                  refine g_in ?_
                  refine g_then ?_
                  refine g_weak [(0, .pointer (some ⟨h, 0, none⟩)), (7, .int .i64 ((i : Int))), (8, .pointer (some ⟨g9, 0, none⟩)), (9, .int .i64 x15), (10, .bool (decide (((rs.length : Int) : Int) = 1))), (52, .slice pp rs.length kc), (53, .int .i64 ((rs.length : Int))), (54, .int .i64 ((m : Int)))] ⟨rfl, rfl, rfl, rfl, rfl, rfl, rfl, rfl, trivial⟩ ?_
                  refine g_region ?_
                  refine l_of (s_val (v := .int .i64 (((m + 1 : Nat) : Int))) (wt0 rfl) rfl rfl (x_bin rfl rfl rfl (b_add (by rw [w64 (by omega)]; omega))) ?_)
                  refine l_of (s_val (v := .int .i64 (((m + 1 : Nat) : Int))) (wt0 rfl) rfl rfl (x_move rfl rfl) ?_)
                  refine g_nil ?_
                  refine g_then ?_
                  have hm9 := of_decide_eq_true hb28
                  have he9 : m = i := by omega
                  refine g_round (i := (m, pb)) ((m + 1), decide (((rs.length : Int) : Int) = 1)) ?_ ?_ ?_
                  · exact ⟨rfl, rfl, rfl, rfl, rfl, rfl, rfl, rfl, trivial⟩
                  · exact ⟨by omega, (pb_nxt hpb hx19 (by first | (simp_all; done) | (simp_all; omega))), (H27.takes [1, 2, 3, 4, 5, 6] (by decide))⟩
                  · (try dsimp only); omega
                · skip
                  refine l_of (s_not (wn1 rfl rfl rfl rfl (nt hb29)) rfl rfl ?_)
                  refine l_of (s_not (wn1 rfl rfl rfl rfl (nt hb29)) rfl rfl ?_)
                  refine l_of (s_not (wn1 rfl rfl rfl rfl (nt hb29)) rfl rfl ?_)
                  refine l_of (s_not (wn1 rfl rfl rfl rfl (nt hb29)) rfl rfl ?_)
                  refine l_of (s_not (wn1 rfl rfl rfl rfl (nt hb29)) rfl rfl ?_)
                  refine l_of (s_not (wn1 rfl rfl rfl rfl (nt hb29)) rfl rfl ?_)
                  refine l_of (s_val (v := .bool true) (wt1 rfl rfl rfl rfl hb28) rfl rfl (x_pick_t rfl rfl (nt hb29) rfl) ?_)
                  refine l_of (s_val (v := .bool true) (wt1 rfl rfl rfl rfl hb25) rfl rfl (x_pick_t rfl rfl hb28 rfl) ?_)
                  refine l_of (s_val (v := .bool true) (wt0 rfl) rfl rfl (x_pick_f rfl rfl hb25 rfl) ?_)
                  refine l_of (s_val (v := .bool true) (wt0 rfl) rfl rfl (x_assign rfl rfl) ?_)
                  refine g_nil ?_
                  refine g_in ?_
                  refine g_then ?_
                  refine g_weak [(0, .pointer (some ⟨h, 0, none⟩)), (7, .int .i64 ((i : Int))), (8, .pointer (some ⟨g9, 0, none⟩)), (9, .int .i64 x15), (10, .bool true), (52, .slice pp rs.length kc), (53, .int .i64 ((rs.length : Int))), (54, .int .i64 ((m : Int)))] ⟨rfl, rfl, rfl, rfl, rfl, rfl, rfl, rfl, trivial⟩ ?_
                  refine g_region ?_
                  refine l_of (s_val (v := .int .i64 (((m + 1 : Nat) : Int))) (wt0 rfl) rfl rfl (x_bin rfl rfl rfl (b_add (by rw [w64 (by omega)]; omega))) ?_)
                  refine l_of (s_val (v := .int .i64 (((m + 1 : Nat) : Int))) (wt0 rfl) rfl rfl (x_move rfl rfl) ?_)
                  refine g_nil ?_
                  refine g_then ?_
                  have hm9 := of_decide_eq_true hb28
                  have he9 : ¬ m = i := by omega
                  refine g_round (i := (m, pb)) ((m + 1), true) ?_ ?_ ?_
                  · exact ⟨rfl, rfl, rfl, rfl, rfl, rfl, rfl, rfl, trivial⟩
                  · exact ⟨by omega, (pb_nxt hpb hx19 (by first | (simp_all; done) | (simp_all; omega))), (H27.takes [1, 2, 3, 4, 5, 6] (by decide))⟩
                  · (try dsimp only); omega
              · skip
                refine l_of (s_not (wn1 rfl rfl rfl rfl hb28) rfl rfl ?_)
                refine l_of (s_not (wn1 rfl rfl rfl rfl hb28) rfl rfl ?_)
                refine l_of (s_not (wn1 rfl rfl rfl rfl hb28) rfl rfl ?_)
                refine l_of (s_not (wn1 rfl rfl rfl rfl hb28) rfl rfl ?_)
                refine l_of (s_not (wn2 rfl rfl rfl rfl) rfl rfl ?_)
                refine l_of (s_not (wn2 rfl rfl rfl rfl) rfl rfl ?_)
                refine l_of (s_not (wn2 rfl rfl rfl rfl) rfl rfl ?_)
                refine l_of (s_not (wn2 rfl rfl rfl rfl) rfl rfl ?_)
                refine l_of (s_not (wn2 rfl rfl rfl rfl) rfl rfl ?_)
                refine l_of (s_not (wn2 rfl rfl rfl rfl) rfl rfl ?_)
                refine l_of (s_not (wn1 rfl rfl rfl rfl hb28) rfl rfl ?_)
                refine l_of (s_val (v := .bool false) (wt1 rfl rfl rfl rfl hb25) rfl rfl (x_pick_f rfl rfl hb28 rfl) ?_)
                refine l_of (s_val (v := .bool false) (wt0 rfl) rfl rfl (x_pick_f rfl rfl hb25 rfl) ?_)
                refine l_of (s_val (v := .bool false) (wt0 rfl) rfl rfl (x_assign rfl rfl) ?_)
                refine g_nil ?_
                refine g_in ?_
                refine g_then ?_
                refine g_weak [(0, .pointer (some ⟨h, 0, none⟩)), (7, .int .i64 ((i : Int))), (8, .pointer (some ⟨g9, 0, none⟩)), (9, .int .i64 x15), (10, .bool false), (52, .slice pp rs.length kc), (53, .int .i64 ((rs.length : Int))), (54, .int .i64 ((m : Int)))] ⟨rfl, rfl, rfl, rfl, rfl, rfl, rfl, rfl, trivial⟩ ?_
                refine g_region ?_
                refine l_of (s_val (v := .int .i64 (((m + 1 : Nat) : Int))) (wt0 rfl) rfl rfl (x_bin rfl rfl rfl (b_add (by rw [w64 (by omega)]; omega))) ?_)
                refine l_of (s_val (v := .int .i64 (((m + 1 : Nat) : Int))) (wt0 rfl) rfl rfl (x_move rfl rfl) ?_)
                refine g_nil ?_
                refine g_then ?_
                have hm9 := of_decide_eq_false hb28
                refine g_round (i := (m, pb)) ((m + 1), false) ?_ ?_ ?_
                · exact ⟨rfl, rfl, rfl, rfl, rfl, rfl, rfl, rfl, trivial⟩
                · exact ⟨by omega, (pb_nxt hpb hx19 (by first | (simp_all; done) | (simp_all; omega))), (H27.takes [1, 2, 3, 4, 5, 6] (by decide))⟩
                · (try dsimp only); omega
          · skip
            refine g_cond_f rfl (decide_eq_false hb18) ?_
            refine g_exit ?_
            rw [show (m : Nat) = rs.length from by omega] at hpb
            refine g_then_exit ?_
            refine g_then_exit ?_
            refine g_in_hit ?_
            refine g_then ?_
            refine g_seq ?_
            refine g_region ?_
            refine l_of (s_val (v := .bool pb) (wt0 rfl) rfl rfl (x_move rfl rfl) ?_)
            refine l_of (s_val (v := .bool (!pb)) (wt0 rfl) rfl rfl (x_not (b := pb) rfl rfl) ?_)
            refine g_nil ?_
            refine g_then ?_
            rcases Bool.eq_false_or_eq_true (pb) with hb30 | hb30
            · skip
              refine g_cond_f rfl (neg_of hb30) ?_
              refine g_skip ?_
              refine g_then ?_
              refine g_seq ?_
              refine g_region ?_
              have hpt : pb = true := hb30
              refine l_of (s_val (v := .int .i64 (-1)) (wt0 rfl) rfl rfl (x_assign rfl rfl) ?_)
              refine l_of (s_val (v := .int .i64 0) (wt0 rfl) rfl rfl (x_assign rfl rfl) ?_)
              refine l_of (s_val (v := .int .i64 0) (wt0 rfl) rfl rfl (x_assign rfl rfl) ?_)
              refine g_nil ?_
              refine g_then ?_
              refine g_seq ?_
              refine g_seq ?_
              refine g_region ?_
              refine l_of (s_val (v := .pointer (some ⟨h, 0, none⟩)) (wt0 rfl) rfl rfl (x_move rfl rfl) ?_)
              refine l_of (s_val (v := .pointer (some ⟨h, 0, none⟩)) (wt0 rfl) rfl rfl (x_nilCheck rfl rfl) ?_)
              refine l_of (s_val (v := .pointer (some ⟨h, 1, none⟩)) (wt0 rfl) rfl rfl (x_fieldAddr rfl rfl fo52_1 rfl) ?_)
              refine l_of (s_val (v := .int .i64 ((n : Int))) (wt0 rfl) rfl rfl (x_load1 H17 1 rfl rfl Tryd.underlying3 rfl rfl rfl) ?_)
              refine l_of (s_val (v := .int .i64 0) (wt0 rfl) rfl rfl (x_move rfl rfl) ?_)
              refine g_nil ?_
              refine g_then ?_
              refine g_block ?_
              have hwf : waitB (⟨seed, n, rs.map Shr.sh⟩ : SP) x.sh = false := by unfold waitB; rw [hlst]; show decide (othN (rs.map Shr.sh) x.sh x15 = 0 ∧ (1 < (rs.map Shr.sh).length ∨ x15 ∉ x.holds)) = false; rw [decide_eq_false_iff_not, List.length_map, ← wait_iff hx]; exact fun h9 => h9 (hpb.1 hpt)
              refine g_loop (ι := Nat × Int × Int × Int) (fun (m2, at9, to9, he9) => [(0, .pointer (some ⟨h, 0, none⟩)), (7, .int .i64 ((i : Int))), (8, .pointer (some ⟨g9, 0, none⟩)), (13, .int .i64 at9), (14, .int .i64 to9), (15, .int .i64 he9), (85, .int .i64 ((n : Int))), (86, .int .i64 ((m2 : Int)))]) (fun (m2, at9, to9, he9) wx => (m2 ≤ n) ∧ (NB seed (rs.map Shr.sh) x.sh m2 at9 to9 he9) ∧ S wx [Ob g9 (.cells #[.int .i64 (x.id), .slice x.tp x.told.length x.tc, .slice x.hp x.holds.length x.hc] 61 (0, 0)), Ob h (.cells #[.string seed, .int .i64 ((n : Int)), .slice pp rs.length kc] 52 (0, 0)), Rw 61 3 pp rs.length kc (fl shwL rs), (Lst RoI rs), Old w9 no, Old w (fps [(RM.I ⟨h, pp, kc, seed, n, rs⟩), Old w9 no])]) (fun (m2, at9, to9, he9) => n - m2) (0, (-1), 0, 0) ⟨rfl, rfl, rfl, rfl, rfl, rfl, rfl, rfl, trivial⟩ ⟨Nat.zero_le _, (.inl ⟨rfl, rfl⟩), (H17.takes [0, 1, 2, 3, 4, 5] (by decide))⟩ ?_
              rintro ⟨m2, at9, to9, he9⟩ wq31 ⟨hm2, hat, H32⟩
              replace H32 : S wq31 [Ob g9 (.cells #[.int .i64 (x.id), .slice x.tp x.told.length x.tc, .slice x.hp x.holds.length x.hc] 61 (0, 0)), Ob h (.cells #[.string seed, .int .i64 ((n : Int)), .slice pp rs.length kc] 52 (0, 0)), Rw 61 3 pp rs.length kc (fl shwL rs), (Lst RoI rs), Old w9 no, Old w (fps [(RM.I ⟨h, pp, kc, seed, n, rs⟩), Old w9 no])] := H32
              refine g_weak [(0, .pointer (some ⟨h, 0, none⟩)), (7, .int .i64 ((i : Int))), (8, .pointer (some ⟨g9, 0, none⟩)), (13, .int .i64 at9), (14, .int .i64 to9), (15, .int .i64 he9), (85, .int .i64 ((n : Int))), (86, .int .i64 ((m2 : Int)))] ⟨rfl, rfl, rfl, rfl, rfl, rfl, rfl, rfl, trivial⟩ ?_
              refine g_seq ?_
              refine g_region ?_
              refine l_of (s_val (v := .bool (decide (((m2 : Int) : Int) < (n : Int)))) (wt0 rfl) rfl rfl (x_bin rfl rfl rfl b_lss) ?_)
              refine g_nil ?_
              refine g_then ?_
              refine g_seq ?_
              by_cases hb33 : ((m2 : Int) : Int) < (n : Int)
              · skip
                refine g_cond_t rfl (decide_eq_true hb33) ?_
                refine g_skip ?_
                refine g_then ?_
                refine g_seq ?_
                refine g_block ?_
                refine g_seq ?_
                refine g_region ?_
                refine l_of (s_val (v := .int .i64 ((m2 : Int))) (wt0 rfl) rfl rfl (x_move rfl rfl) ?_)
                refine l_of (s_val (v := .int .i64 ((m2 : Int))) (wt0 rfl) rfl rfl (x_assign rfl rfl) ?_)
                refine g_nil ?_
                refine g_then ?_
                refine g_seq ?_
                refine g_seq ?_
                refine g_region ?_
                refine l_of (s_val (v := .pointer (some ⟨g9, 2, none⟩)) (wt0 rfl) rfl rfl (x_fieldAddr rfl rfl fo61_2 rfl) ?_)
                refine l_of (s_val (v := .slice x.hp x.holds.length x.hc) (wt0 rfl) rfl rfl (x_load1 H32 0 rfl rfl Tryd.underlying35 rfl rfl rfl) ?_)
                refine l_of (s_val (v := .int .i64 ((m2 : Int))) (wt0 rfl) rfl rfl (x_move rfl rfl) ?_)
                refine l_of (s_call (wt0 rfl) (x_call' rfl rfl cl27) (in_r x.holds x.hp x.holds.length x.hc (m2 : Int) (by omega) _ (H32.rdH (k := 3) rfl hx)) ?_)
                rintro _ wq34 ⟨rfl, H35⟩
                replace H35 : S wq34 [Ob g9 (.cells #[.int .i64 (x.id), .slice x.tp x.told.length x.tc, .slice x.hp x.holds.length x.hc] 61 (0, 0)), Ob h (.cells #[.string seed, .int .i64 ((n : Int)), .slice pp rs.length kc] 52 (0, 0)), Rw 61 3 pp rs.length kc (fl shwL rs), (Lst RoI rs), Old w9 no, Old w (fps [(RM.I ⟨h, pp, kc, seed, n, rs⟩), Old w9 no])] := H32.absorb (new := []) H35
                refine b_ret rfl rfl ?_
                refine l_of (s_val (v := .bool ((decide ((m2 : Int) ∈ x.holds)))) (wt0 rfl) rfl rfl (x_move rfl rfl) ?_)
                rcases Bool.eq_false_or_eq_true ((decide ((m2 : Int) ∈ x.holds))) with hb36 | hb36
                · skip
                  refine l_of (s_not (wn1 rfl rfl rfl rfl hb36) rfl rfl ?_)
                  refine l_of (s_not (wn1 rfl rfl rfl rfl hb36) rfl rfl ?_)
                  refine l_of (s_not (wn1 rfl rfl rfl rfl hb36) rfl rfl ?_)
                  refine l_of (s_not (wn1 rfl rfl rfl rfl hb36) rfl rfl ?_)
                  refine l_of (s_val (v := .bool true) (wt0 rfl) rfl rfl (x_pick_t rfl rfl hb36 rfl) ?_)
                  refine g_nil ?_
                  refine g_then ?_
                  refine g_cond_t rfl rfl ?_
                  refine g_exit ?_
                  refine g_then_exit ?_
                  refine g_in_hit ?_
                  refine g_then ?_
                  refine g_weak [(0, .pointer (some ⟨h, 0, none⟩)), (7, .int .i64 ((i : Int))), (8, .pointer (some ⟨g9, 0, none⟩)), (13, .int .i64 at9), (14, .int .i64 to9), (15, .int .i64 he9), (85, .int .i64 ((n : Int))), (86, .int .i64 ((m2 : Int)))] ⟨rfl, rfl, rfl, rfl, rfl, rfl, rfl, rfl, trivial⟩ ?_
                  refine g_region ?_
                  refine l_of (s_val (v := .int .i64 (((m2 + 1 : Nat) : Int))) (wt0 rfl) rfl rfl (x_bin rfl rfl rfl (b_add (by rw [w64 (by omega)]; omega))) ?_)
                  refine l_of (s_val (v := .int .i64 (((m2 + 1 : Nat) : Int))) (wt0 rfl) rfl rfl (x_move rfl rfl) ?_)
                  refine g_nil ?_
                  refine g_then ?_
                  refine g_round (i := (m2, at9, to9, he9)) ((m2 + 1), at9, to9, he9) ?_ ?_ ?_
                  · exact ⟨rfl, rfl, rfl, rfl, rfl, rfl, rfl, rfl, trivial⟩
                  · exact ⟨(by omega), (hat.skip (by unfold qC; simp [show x.sh.holds = x.holds from rfl, show x.sh.told = x.told from rfl, hb36])), (H35.takes [0, 1, 2, 3, 4, 5] (by decide))⟩
                  · (try dsimp only); omega
                · skip
                  refine l_of (s_val (v := .pointer (some ⟨g9, 1, none⟩)) (wt1 rfl rfl rfl rfl hb36) rfl rfl (x_fieldAddr rfl rfl fo61_1 rfl) ?_)
                  refine l_of (s_val (v := .slice x.tp x.told.length x.tc) (wt1 rfl rfl rfl rfl hb36) rfl rfl (x_load1 H35 0 rfl rfl Tryd.underlying35 rfl rfl rfl) ?_)
                  refine l_of (s_val (v := .int .i64 ((m2 : Int))) (wt1 rfl rfl rfl rfl hb36) rfl rfl (x_move rfl rfl) ?_)
                  refine l_of (s_call (wt1 rfl rfl rfl rfl hb36) (x_call' rfl rfl cl27) (in_r x.told x.tp x.told.length x.tc (m2 : Int) (by omega) _ (H35.rdT (k := 3) rfl hx)) ?_)
                  rintro _ wq37 ⟨rfl, H38⟩
                  replace H38 : S wq37 [Ob g9 (.cells #[.int .i64 (x.id), .slice x.tp x.told.length x.tc, .slice x.hp x.holds.length x.hc] 61 (0, 0)), Ob h (.cells #[.string seed, .int .i64 ((n : Int)), .slice pp rs.length kc] 52 (0, 0)), Rw 61 3 pp rs.length kc (fl shwL rs), (Lst RoI rs), Old w9 no, Old w (fps [(RM.I ⟨h, pp, kc, seed, n, rs⟩), Old w9 no])] := H35.absorb (new := []) H38
                  refine b_ret rfl rfl ?_
                  refine l_of (s_val (v := .bool ((decide ((m2 : Int) ∈ x.told)))) (wt0 rfl) rfl rfl (x_pick_f rfl rfl hb36 rfl) ?_)
                  refine g_nil ?_
                  refine g_then ?_
                  rcases Bool.eq_false_or_eq_true ((decide ((m2 : Int) ∈ x.told))) with hb39 | hb39
                  · skip
                    refine g_cond_t rfl hb39 ?_
                    refine g_exit ?_
                    refine g_then_exit ?_
                    refine g_in_hit ?_
                    refine g_then ?_
                    refine g_weak [(0, .pointer (some ⟨h, 0, none⟩)), (7, .int .i64 ((i : Int))), (8, .pointer (some ⟨g9, 0, none⟩)), (13, .int .i64 at9), (14, .int .i64 to9), (15, .int .i64 he9), (85, .int .i64 ((n : Int))), (86, .int .i64 ((m2 : Int)))] ⟨rfl, rfl, rfl, rfl, rfl, rfl, rfl, rfl, trivial⟩ ?_
                    refine g_region ?_
                    refine l_of (s_val (v := .int .i64 (((m2 + 1 : Nat) : Int))) (wt0 rfl) rfl rfl (x_bin rfl rfl rfl (b_add (by rw [w64 (by omega)]; omega))) ?_)
                    refine l_of (s_val (v := .int .i64 (((m2 + 1 : Nat) : Int))) (wt0 rfl) rfl rfl (x_move rfl rfl) ?_)
                    refine g_nil ?_
                    refine g_then ?_
                    refine g_round (i := (m2, at9, to9, he9)) ((m2 + 1), at9, to9, he9) ?_ ?_ ?_
                    · exact ⟨rfl, rfl, rfl, rfl, rfl, rfl, rfl, rfl, trivial⟩
                    · exact ⟨(by omega), (hat.skip (by unfold qC; simp [show x.sh.holds = x.holds from rfl, show x.sh.told = x.told from rfl, hb39])), (H38.takes [0, 1, 2, 3, 4, 5] (by decide))⟩
                    · (try dsimp only); omega
                  · skip
                    refine g_cond_f rfl hb39 ?_
                    refine g_skip ?_
                    refine g_then ?_
                    refine g_weak [(0, .pointer (some ⟨h, 0, none⟩)), (7, .int .i64 ((i : Int))), (8, .pointer (some ⟨g9, 0, none⟩)), (13, .int .i64 at9), (14, .int .i64 to9), (15, .int .i64 he9), (16, .int .i64 ((m2 : Int))), (85, .int .i64 ((n : Int))), (86, .int .i64 ((m2 : Int)))] ⟨rfl, rfl, rfl, rfl, rfl, rfl, rfl, rfl, rfl, trivial⟩ ?_
                    refine g_seq ?_
                    refine g_region ?_
                    refine l_of (s_val (v := .pointer (some ⟨h, 0, none⟩)) (wt0 rfl) rfl rfl (x_move rfl rfl) ?_)
                    refine l_of (s_val (v := .int .i64 ((m2 : Int))) (wt0 rfl) rfl rfl (x_move rfl rfl) ?_)
                    refine l_of (s_call (wt0 rfl) (x_call' rfl rfl cl28) (countsr_s j h pp kc seed n rs hZ hj (m2 : Int) _ (H38.takes [1, 2, 3] (by decide))) ?_)
                    rintro _ wq40 ⟨rfl, H41⟩
                    replace H41 : S wq40 [Ob h (.cells #[.string seed, .int .i64 ((n : Int)), .slice pp rs.length kc] 52 (0, 0)), Rw 61 3 pp rs.length kc (fl shwL rs), (Lst RoI rs), Ob g9 (.cells #[.int .i64 (x.id), .slice x.tp x.told.length x.tc, .slice x.hp x.holds.length x.hc] 61 (0, 0)), Old w9 no, Old w (fps [(RM.I ⟨h, pp, kc, seed, n, rs⟩), Old w9 no])] := H38.absorbI (new := [Ob h (.cells #[.string seed, .int .i64 ((n : Int)), .slice pp rs.length kc] 52 (0, 0)), Rw 61 3 pp rs.length kc (fl shwL rs), (Lst RoI rs)]) [1, 2, 3] H41
                    refine b_ret rfl rfl ?_
                    refine l_of (s_val (v := .tuple #[.int .i64 ((tcN (rs.map Shr.sh) (m2 : Int) : Int)), .int .i64 ((hcN (rs.map Shr.sh) (m2 : Int) : Int))]) (wt0 rfl) rfl rfl (x_move rfl rfl) ?_)
                    refine l_of (s_val (v := .int .i64 ((tcN (rs.map Shr.sh) (m2 : Int) : Int))) (wt0 rfl) rfl rfl (x_extract rfl rfl rfl) ?_)
                    refine l_of (s_val (v := .int .i64 ((hcN (rs.map Shr.sh) (m2 : Int) : Int))) (wt0 rfl) rfl rfl (x_extract rfl rfl rfl) ?_)
                    refine l_of (s_val (v := .int .i64 ((tcN (rs.map Shr.sh) (m2 : Int) : Int))) (wt0 rfl) rfl rfl (x_assign rfl rfl) ?_)
                    refine l_of (s_val (v := .int .i64 ((hcN (rs.map Shr.sh) (m2 : Int) : Int))) (wt0 rfl) rfl rfl (x_assign rfl rfl) ?_)
                    refine g_nil ?_
                    refine g_then ?_
                    refine g_seq ?_
                    refine g_region ?_
                    refine l_of (s_val (v := .int .i64 at9) (wt0 rfl) rfl rfl (x_move rfl rfl) ?_)
                    refine l_of (s_val (v := .bool (decide ((at9 : Int) < 0))) (wt0 rfl) rfl rfl (x_bin rfl rfl rfl b_lss) ?_)
                    refine l_of (s_val (v := .bool (decide ((at9 : Int) < 0))) (wt0 rfl) rfl rfl (x_move rfl rfl) ?_)
                    by_cases hb42 : (at9 : Int) < 0
                    · skip
                      refine l_of (s_not (wn1 rfl rfl rfl rfl (decide_eq_true hb42)) rfl rfl ?_)
                      refine l_of (s_not (wn1 rfl rfl rfl rfl (decide_eq_true hb42)) rfl rfl ?_)
                      refine l_of (s_not (wn1 rfl rfl rfl rfl (decide_eq_true hb42)) rfl rfl ?_)
                      refine l_of (s_val (v := .bool true) (wt0 rfl) rfl rfl (x_pick_t rfl rfl (decide_eq_true hb42) rfl) ?_)
                      refine l_of (s_val (v := .bool true) (wt0 rfl) rfl rfl (x_move rfl rfl) ?_)
                      refine l_of (s_not (wn1 rfl rfl rfl rfl rfl) rfl rfl ?_)
                      refine l_of (s_not (wn1 rfl rfl rfl rfl rfl) rfl rfl ?_)
                      refine l_of (s_not (wn1 rfl rfl rfl rfl rfl) rfl rfl ?_)
                      refine l_of (s_not (wn1 rfl rfl rfl rfl rfl) rfl rfl ?_)
                      refine l_of (s_not (wn2 rfl rfl rfl rfl) rfl rfl ?_)
                      refine l_of (s_not (wn2 rfl rfl rfl rfl) rfl rfl ?_)
                      refine l_of (s_not (wn2 rfl rfl rfl rfl) rfl rfl ?_)
                      refine l_of (s_not (wn1 rfl rfl rfl rfl rfl) rfl rfl ?_)
                      refine l_of (s_val (v := .bool true) (wt0 rfl) rfl rfl (x_pick_t rfl rfl rfl rfl) ?_)
                      refine l_of (s_val (v := .bool true) (wt0 rfl) rfl rfl (x_move rfl rfl) ?_)
                      refine l_of (s_not (wn1 rfl rfl rfl rfl rfl) rfl rfl ?_)
                      refine l_of (s_not (wn1 rfl rfl rfl rfl rfl) rfl rfl ?_)
                      refine l_of (s_not (wn1 rfl rfl rfl rfl rfl) rfl rfl ?_)
                      refine l_of (s_not (wn1 rfl rfl rfl rfl rfl) rfl rfl ?_)
                      refine l_of (s_not (wn2 rfl rfl rfl rfl) rfl rfl ?_)
                      refine l_of (s_not (wn2 rfl rfl rfl rfl) rfl rfl ?_)
                      refine l_of (s_not (wn2 rfl rfl rfl rfl) rfl rfl ?_)
                      refine l_of (s_not (wn1 rfl rfl rfl rfl rfl) rfl rfl ?_)
                      refine l_of (s_not (wn1 rfl rfl rfl rfl rfl) rfl rfl ?_)
                      refine l_of (s_not (wn2 rfl rfl rfl rfl) rfl rfl ?_)
                      refine l_of (s_not (wn2 rfl rfl rfl rfl) rfl rfl ?_)
                      refine l_of (s_not (wn2 rfl rfl rfl rfl) rfl rfl ?_)
                      refine l_of (s_not (wn2 rfl rfl rfl rfl) rfl rfl ?_)
                      refine l_of (s_not (wn2 rfl rfl rfl rfl) rfl rfl ?_)
                      refine l_of (s_not (wn2 rfl rfl rfl rfl) rfl rfl ?_)
                      refine l_of (s_not (wn2 rfl rfl rfl rfl) rfl rfl ?_)
                      refine l_of (s_not (wn1 rfl rfl rfl rfl rfl) rfl rfl ?_)
                      refine l_of (s_val (v := .bool true) (wt0 rfl) rfl rfl (x_pick_t rfl rfl rfl rfl) ?_)
                      refine g_nil ?_
                      refine g_then ?_
                      refine g_weak [(0, .pointer (some ⟨h, 0, none⟩)), (7, .int .i64 ((i : Int))), (8, .pointer (some ⟨g9, 0, none⟩)), (13, .int .i64 at9), (14, .int .i64 to9), (15, .int .i64 he9), (16, .int .i64 ((m2 : Int))), (17, .int .i64 ((tcN (rs.map Shr.sh) (m2 : Int) : Int))), (18, .int .i64 ((hcN (rs.map Shr.sh) (m2 : Int) : Int))), (85, .int .i64 ((n : Int))), (86, .int .i64 ((m2 : Int))), (140, .bool true)] ⟨rfl, rfl, rfl, rfl, rfl, rfl, rfl, rfl, rfl, rfl, rfl, rfl, trivial⟩ ?_
                      refine g_cond_t rfl rfl ?_
                      refine g_region ?_
                      refine l_of (s_val (v := .int .i64 ((m2 : Int))) (wt0 rfl) rfl rfl (x_move rfl rfl) ?_)
                      refine l_of (s_val (v := .int .i64 ((tcN (rs.map Shr.sh) (m2 : Int) : Int))) (wt0 rfl) rfl rfl (x_move rfl rfl) ?_)
                      refine l_of (s_val (v := .int .i64 ((hcN (rs.map Shr.sh) (m2 : Int) : Int))) (wt0 rfl) rfl rfl (x_move rfl rfl) ?_)
                      have hpt : pb = true := hb30
                      refine l_of (s_val (v := .int .i64 ((m2 : Int))) (wt0 rfl) rfl rfl (x_assign rfl rfl) ?_)
                      refine l_of (s_val (v := .int .i64 ((tcN (rs.map Shr.sh) (m2 : Int) : Int))) (wt0 rfl) rfl rfl (x_assign rfl rfl) ?_)
                      refine l_of (s_val (v := .int .i64 ((hcN (rs.map Shr.sh) (m2 : Int) : Int))) (wt0 rfl) rfl rfl (x_assign rfl rfl) ?_)
                      refine g_nil ?_
                      refine g_in ?_
                      refine g_then ?_
                      refine g_region ?_
                      refine l_of (s_val (v := .int .i64 (((m2 + 1 : Nat) : Int))) (wt0 rfl) rfl rfl (x_bin rfl rfl rfl (b_add (by rw [w64 (by omega)]; omega))) ?_)
                      refine l_of (s_val (v := .int .i64 (((m2 + 1 : Nat) : Int))) (wt0 rfl) rfl rfl (x_move rfl rfl) ?_)
                      refine g_nil ?_
                      refine g_then ?_
                      refine g_round (i := (m2, at9, to9, he9)) ((m2 + 1), (m2 : Int), (tcN (rs.map Shr.sh) (m2 : Int) : Int), (hcN (rs.map Shr.sh) (m2 : Int) : Int)) ?_ ?_ ?_
                      · exact ⟨rfl, rfl, rfl, rfl, rfl, rfl, rfl, rfl, trivial⟩
                      · exact ⟨(by omega), (hat.new (by unfold qC; simp [show x.sh.holds = x.holds from rfl, show x.sh.told = x.told from rfl, hb36, hb39]) (by by_cases h9 : at9 < 0; exact .inl h9; exact .inr ((hat.c h9 _).2 (by generalize cmpSt (rankS seed (m2 : Int)) (rankS seed at9) = cz; omega)))), (H41.takes [3, 0, 1, 2, 4, 5] (by decide))⟩
                      · (try dsimp only); omega
                    · skip
                      refine l_of (s_val (v := .int .i64 ((tcN (rs.map Shr.sh) (m2 : Int) : Int))) (wt1 rfl rfl rfl rfl (decide_eq_false hb42)) rfl rfl (x_move rfl rfl) ?_)
                      refine l_of (s_val (v := .int .i64 to9) (wt1 rfl rfl rfl rfl (decide_eq_false hb42)) rfl rfl (x_move rfl rfl) ?_)
                      refine l_of (s_val (v := .bool (decide (((tcN (rs.map Shr.sh) (m2 : Int) : Int) : Int) < to9))) (wt1 rfl rfl rfl rfl (decide_eq_false hb42)) rfl rfl (x_bin rfl rfl rfl b_lss) ?_)
                      refine l_of (s_val (v := .bool (decide (((tcN (rs.map Shr.sh) (m2 : Int) : Int) : Int) < to9))) (wt0 rfl) rfl rfl (x_pick_f rfl rfl (decide_eq_false hb42) rfl) ?_)
                      refine l_of (s_val (v := .bool (decide (((tcN (rs.map Shr.sh) (m2 : Int) : Int) : Int) < to9))) (wt0 rfl) rfl rfl (x_move rfl rfl) ?_)
                      by_cases hb43 : ((tcN (rs.map Shr.sh) (m2 : Int) : Int) : Int) < to9
                      · skip
                        refine l_of (s_not (wn1 rfl rfl rfl rfl (decide_eq_true hb43)) rfl rfl ?_)
                        refine l_of (s_not (wn1 rfl rfl rfl rfl (decide_eq_true hb43)) rfl rfl ?_)
                        refine l_of (s_not (wn1 rfl rfl rfl rfl (decide_eq_true hb43)) rfl rfl ?_)
                        refine l_of (s_not (wn1 rfl rfl rfl rfl (decide_eq_true hb43)) rfl rfl ?_)
                        refine l_of (s_not (wn2 rfl rfl rfl rfl) rfl rfl ?_)
                        refine l_of (s_not (wn2 rfl rfl rfl rfl) rfl rfl ?_)
                        refine l_of (s_not (wn2 rfl rfl rfl rfl) rfl rfl ?_)
                        refine l_of (s_not (wn1 rfl rfl rfl rfl (decide_eq_true hb43)) rfl rfl ?_)
                        refine l_of (s_val (v := .bool true) (wt0 rfl) rfl rfl (x_pick_t rfl rfl (decide_eq_true hb43) rfl) ?_)
                        refine l_of (s_val (v := .bool true) (wt0 rfl) rfl rfl (x_move rfl rfl) ?_)
                        refine l_of (s_not (wn1 rfl rfl rfl rfl rfl) rfl rfl ?_)
                        refine l_of (s_not (wn1 rfl rfl rfl rfl rfl) rfl rfl ?_)
                        refine l_of (s_not (wn1 rfl rfl rfl rfl rfl) rfl rfl ?_)
                        refine l_of (s_not (wn1 rfl rfl rfl rfl rfl) rfl rfl ?_)
                        refine l_of (s_not (wn2 rfl rfl rfl rfl) rfl rfl ?_)
                        refine l_of (s_not (wn2 rfl rfl rfl rfl) rfl rfl ?_)
                        refine l_of (s_not (wn2 rfl rfl rfl rfl) rfl rfl ?_)
                        refine l_of (s_not (wn1 rfl rfl rfl rfl rfl) rfl rfl ?_)
                        refine l_of (s_not (wn1 rfl rfl rfl rfl rfl) rfl rfl ?_)
                        refine l_of (s_not (wn2 rfl rfl rfl rfl) rfl rfl ?_)
                        refine l_of (s_not (wn2 rfl rfl rfl rfl) rfl rfl ?_)
                        refine l_of (s_not (wn2 rfl rfl rfl rfl) rfl rfl ?_)
                        refine l_of (s_not (wn2 rfl rfl rfl rfl) rfl rfl ?_)
                        refine l_of (s_not (wn2 rfl rfl rfl rfl) rfl rfl ?_)
                        refine l_of (s_not (wn2 rfl rfl rfl rfl) rfl rfl ?_)
                        refine l_of (s_not (wn2 rfl rfl rfl rfl) rfl rfl ?_)
                        refine l_of (s_not (wn1 rfl rfl rfl rfl rfl) rfl rfl ?_)
                        refine l_of (s_val (v := .bool true) (wt0 rfl) rfl rfl (x_pick_t rfl rfl rfl rfl) ?_)
                        refine g_nil ?_
                        refine g_then ?_
                        refine g_weak [(0, .pointer (some ⟨h, 0, none⟩)), (7, .int .i64 ((i : Int))), (8, .pointer (some ⟨g9, 0, none⟩)), (13, .int .i64 at9), (14, .int .i64 to9), (15, .int .i64 he9), (16, .int .i64 ((m2 : Int))), (17, .int .i64 ((tcN (rs.map Shr.sh) (m2 : Int) : Int))), (18, .int .i64 ((hcN (rs.map Shr.sh) (m2 : Int) : Int))), (85, .int .i64 ((n : Int))), (86, .int .i64 ((m2 : Int))), (140, .bool true)] ⟨rfl, rfl, rfl, rfl, rfl, rfl, rfl, rfl, rfl, rfl, rfl, rfl, trivial⟩ ?_
                        refine g_cond_t rfl rfl ?_
                        refine g_region ?_
                        refine l_of (s_val (v := .int .i64 ((m2 : Int))) (wt0 rfl) rfl rfl (x_move rfl rfl) ?_)
                        refine l_of (s_val (v := .int .i64 ((tcN (rs.map Shr.sh) (m2 : Int) : Int))) (wt0 rfl) rfl rfl (x_move rfl rfl) ?_)
                        refine l_of (s_val (v := .int .i64 ((hcN (rs.map Shr.sh) (m2 : Int) : Int))) (wt0 rfl) rfl rfl (x_move rfl rfl) ?_)
                        have hpt : pb = true := hb30
                        refine l_of (s_val (v := .int .i64 ((m2 : Int))) (wt0 rfl) rfl rfl (x_assign rfl rfl) ?_)
                        refine l_of (s_val (v := .int .i64 ((tcN (rs.map Shr.sh) (m2 : Int) : Int))) (wt0 rfl) rfl rfl (x_assign rfl rfl) ?_)
                        refine l_of (s_val (v := .int .i64 ((hcN (rs.map Shr.sh) (m2 : Int) : Int))) (wt0 rfl) rfl rfl (x_assign rfl rfl) ?_)
                        refine g_nil ?_
                        refine g_in ?_
                        refine g_then ?_
                        refine g_region ?_
                        refine l_of (s_val (v := .int .i64 (((m2 + 1 : Nat) : Int))) (wt0 rfl) rfl rfl (x_bin rfl rfl rfl (b_add (by rw [w64 (by omega)]; omega))) ?_)
                        refine l_of (s_val (v := .int .i64 (((m2 + 1 : Nat) : Int))) (wt0 rfl) rfl rfl (x_move rfl rfl) ?_)
                        refine g_nil ?_
                        refine g_then ?_
                        refine g_round (i := (m2, at9, to9, he9)) ((m2 + 1), (m2 : Int), (tcN (rs.map Shr.sh) (m2 : Int) : Int), (hcN (rs.map Shr.sh) (m2 : Int) : Int)) ?_ ?_ ?_
                        · exact ⟨rfl, rfl, rfl, rfl, rfl, rfl, rfl, rfl, trivial⟩
                        · exact ⟨(by omega), (hat.new (by unfold qC; simp [show x.sh.holds = x.holds from rfl, show x.sh.told = x.told from rfl, hb36, hb39]) (by by_cases h9 : at9 < 0; exact .inl h9; exact .inr ((hat.c h9 _).2 (by generalize cmpSt (rankS seed (m2 : Int)) (rankS seed at9) = cz; omega)))), (H41.takes [3, 0, 1, 2, 4, 5] (by decide))⟩
                        · (try dsimp only); omega
                      · skip
                        refine l_of (s_val (v := .int .i64 ((tcN (rs.map Shr.sh) (m2 : Int) : Int))) (wt1 rfl rfl rfl rfl (decide_eq_false hb43)) rfl rfl (x_move rfl rfl) ?_)
                        refine l_of (s_val (v := .int .i64 to9) (wt1 rfl rfl rfl rfl (decide_eq_false hb43)) rfl rfl (x_move rfl rfl) ?_)
                        refine l_of (s_val (v := .bool (decide (((tcN (rs.map Shr.sh) (m2 : Int) : Int) : Int) = to9))) (wt1 rfl rfl rfl rfl (decide_eq_false hb43)) rfl rfl (x_bin rfl rfl rfl b_eql) ?_)
                        refine l_of (s_val (v := .bool (decide (((tcN (rs.map Shr.sh) (m2 : Int) : Int) : Int) = to9))) (wt1 rfl rfl rfl rfl (decide_eq_false hb43)) rfl rfl (x_move rfl rfl) ?_)
                        by_cases hb44 : ((tcN (rs.map Shr.sh) (m2 : Int) : Int) : Int) = to9
                        · skip
                          refine l_of (s_val (v := .int .i64 ((hcN (rs.map Shr.sh) (m2 : Int) : Int))) (wt1 rfl rfl rfl rfl (decide_eq_true hb44)) rfl rfl (x_move rfl rfl) ?_)
                          refine l_of (s_val (v := .int .i64 he9) (wt1 rfl rfl rfl rfl (decide_eq_true hb44)) rfl rfl (x_move rfl rfl) ?_)
                          refine l_of (s_val (v := .bool (decide (((hcN (rs.map Shr.sh) (m2 : Int) : Int) : Int) < he9))) (wt1 rfl rfl rfl rfl (decide_eq_true hb44)) rfl rfl (x_bin rfl rfl rfl b_lss) ?_)
                          refine l_of (s_val (v := .bool (decide (((hcN (rs.map Shr.sh) (m2 : Int) : Int) : Int) < he9))) (wt1 rfl rfl rfl rfl (decide_eq_false hb43)) rfl rfl (x_pick_t rfl rfl (decide_eq_true hb44) rfl) ?_)
                          refine l_of (s_val (v := .bool (decide (((hcN (rs.map Shr.sh) (m2 : Int) : Int) : Int) < he9))) (wt0 rfl) rfl rfl (x_pick_f rfl rfl (decide_eq_false hb43) rfl) ?_)
                          refine l_of (s_val (v := .bool (decide (((hcN (rs.map Shr.sh) (m2 : Int) : Int) : Int) < he9))) (wt0 rfl) rfl rfl (x_move rfl rfl) ?_)
                          by_cases hb45 : ((hcN (rs.map Shr.sh) (m2 : Int) : Int) : Int) < he9
                          · skip
                            refine l_of (s_not (wn1 rfl rfl rfl rfl (decide_eq_true hb45)) rfl rfl ?_)
                            refine l_of (s_not (wn1 rfl rfl rfl rfl (decide_eq_true hb45)) rfl rfl ?_)
                            refine l_of (s_not (wn1 rfl rfl rfl rfl (decide_eq_true hb45)) rfl rfl ?_)
                            refine l_of (s_not (wn1 rfl rfl rfl rfl (decide_eq_true hb45)) rfl rfl ?_)
                            refine l_of (s_not (wn2 rfl rfl rfl rfl) rfl rfl ?_)
                            refine l_of (s_not (wn2 rfl rfl rfl rfl) rfl rfl ?_)
                            refine l_of (s_not (wn2 rfl rfl rfl rfl) rfl rfl ?_)
                            refine l_of (s_not (wn1 rfl rfl rfl rfl (decide_eq_true hb45)) rfl rfl ?_)
                            refine l_of (s_not (wn1 rfl rfl rfl rfl (decide_eq_true hb45)) rfl rfl ?_)
                            refine l_of (s_not (wn2 rfl rfl rfl rfl) rfl rfl ?_)
                            refine l_of (s_not (wn2 rfl rfl rfl rfl) rfl rfl ?_)
                            refine l_of (s_not (wn2 rfl rfl rfl rfl) rfl rfl ?_)
                            refine l_of (s_not (wn2 rfl rfl rfl rfl) rfl rfl ?_)
                            refine l_of (s_not (wn2 rfl rfl rfl rfl) rfl rfl ?_)
                            refine l_of (s_not (wn2 rfl rfl rfl rfl) rfl rfl ?_)
                            refine l_of (s_not (wn2 rfl rfl rfl rfl) rfl rfl ?_)
                            refine l_of (s_not (wn1 rfl rfl rfl rfl (decide_eq_true hb45)) rfl rfl ?_)
                            refine l_of (s_val (v := .bool true) (wt0 rfl) rfl rfl (x_pick_t rfl rfl (decide_eq_true hb45) rfl) ?_)
                            refine g_nil ?_
                            refine g_then ?_
                            refine g_weak [(0, .pointer (some ⟨h, 0, none⟩)), (7, .int .i64 ((i : Int))), (8, .pointer (some ⟨g9, 0, none⟩)), (13, .int .i64 at9), (14, .int .i64 to9), (15, .int .i64 he9), (16, .int .i64 ((m2 : Int))), (17, .int .i64 ((tcN (rs.map Shr.sh) (m2 : Int) : Int))), (18, .int .i64 ((hcN (rs.map Shr.sh) (m2 : Int) : Int))), (85, .int .i64 ((n : Int))), (86, .int .i64 ((m2 : Int))), (140, .bool true)] ⟨rfl, rfl, rfl, rfl, rfl, rfl, rfl, rfl, rfl, rfl, rfl, rfl, trivial⟩ ?_
                            refine g_cond_t rfl rfl ?_
                            refine g_region ?_
                            refine l_of (s_val (v := .int .i64 ((m2 : Int))) (wt0 rfl) rfl rfl (x_move rfl rfl) ?_)
                            refine l_of (s_val (v := .int .i64 ((tcN (rs.map Shr.sh) (m2 : Int) : Int))) (wt0 rfl) rfl rfl (x_move rfl rfl) ?_)
                            refine l_of (s_val (v := .int .i64 ((hcN (rs.map Shr.sh) (m2 : Int) : Int))) (wt0 rfl) rfl rfl (x_move rfl rfl) ?_)
                            have hpt : pb = true := hb30
                            refine l_of (s_val (v := .int .i64 ((m2 : Int))) (wt0 rfl) rfl rfl (x_assign rfl rfl) ?_)
                            refine l_of (s_val (v := .int .i64 ((tcN (rs.map Shr.sh) (m2 : Int) : Int))) (wt0 rfl) rfl rfl (x_assign rfl rfl) ?_)
                            refine l_of (s_val (v := .int .i64 ((hcN (rs.map Shr.sh) (m2 : Int) : Int))) (wt0 rfl) rfl rfl (x_assign rfl rfl) ?_)
                            refine g_nil ?_
                            refine g_in ?_
                            refine g_then ?_
                            refine g_region ?_
                            refine l_of (s_val (v := .int .i64 (((m2 + 1 : Nat) : Int))) (wt0 rfl) rfl rfl (x_bin rfl rfl rfl (b_add (by rw [w64 (by omega)]; omega))) ?_)
                            refine l_of (s_val (v := .int .i64 (((m2 + 1 : Nat) : Int))) (wt0 rfl) rfl rfl (x_move rfl rfl) ?_)
                            refine g_nil ?_
                            refine g_then ?_
                            refine g_round (i := (m2, at9, to9, he9)) ((m2 + 1), (m2 : Int), (tcN (rs.map Shr.sh) (m2 : Int) : Int), (hcN (rs.map Shr.sh) (m2 : Int) : Int)) ?_ ?_ ?_
                            · exact ⟨rfl, rfl, rfl, rfl, rfl, rfl, rfl, rfl, trivial⟩
                            · exact ⟨(by omega), (hat.new (by unfold qC; simp [show x.sh.holds = x.holds from rfl, show x.sh.told = x.told from rfl, hb36, hb39]) (by by_cases h9 : at9 < 0; exact .inl h9; exact .inr ((hat.c h9 _).2 (by generalize cmpSt (rankS seed (m2 : Int)) (rankS seed at9) = cz; omega)))), (H41.takes [3, 0, 1, 2, 4, 5] (by decide))⟩
                            · (try dsimp only); omega
                          · skip
                            refine l_of (s_val (v := .int .i64 ((tcN (rs.map Shr.sh) (m2 : Int) : Int))) (wt1 rfl rfl rfl rfl (decide_eq_false hb45)) rfl rfl (x_move rfl rfl) ?_)
                            refine l_of (s_val (v := .int .i64 to9) (wt1 rfl rfl rfl rfl (decide_eq_false hb45)) rfl rfl (x_move rfl rfl) ?_)
                            refine l_of (s_val (v := .bool (decide (((tcN (rs.map Shr.sh) (m2 : Int) : Int) : Int) = to9))) (wt1 rfl rfl rfl rfl (decide_eq_false hb45)) rfl rfl (x_bin rfl rfl rfl b_eql) ?_)
                            refine l_of (s_val (v := .bool (decide (((tcN (rs.map Shr.sh) (m2 : Int) : Int) : Int) = to9))) (wt1 rfl rfl rfl rfl (decide_eq_false hb45)) rfl rfl (x_move rfl rfl) ?_)
                            refine l_of (s_val (v := .int .i64 ((hcN (rs.map Shr.sh) (m2 : Int) : Int))) (wt1 rfl rfl rfl rfl (decide_eq_true hb44)) rfl rfl (x_move rfl rfl) ?_)
                            refine l_of (s_val (v := .int .i64 he9) (wt1 rfl rfl rfl rfl (decide_eq_true hb44)) rfl rfl (x_move rfl rfl) ?_)
                            refine l_of (s_val (v := .bool (decide (((hcN (rs.map Shr.sh) (m2 : Int) : Int) : Int) = he9))) (wt1 rfl rfl rfl rfl (decide_eq_true hb44)) rfl rfl (x_bin rfl rfl rfl b_eql) ?_)
                            refine l_of (s_val (v := .bool (decide (((hcN (rs.map Shr.sh) (m2 : Int) : Int) : Int) = he9))) (wt1 rfl rfl rfl rfl (decide_eq_false hb45)) rfl rfl (x_pick_t rfl rfl (decide_eq_true hb44) rfl) ?_)
                            refine l_of (s_val (v := .bool (decide (((hcN (rs.map Shr.sh) (m2 : Int) : Int) : Int) = he9))) (wt1 rfl rfl rfl rfl (decide_eq_false hb45)) rfl rfl (x_move rfl rfl) ?_)
                            by_cases hb46 : ((hcN (rs.map Shr.sh) (m2 : Int) : Int) : Int) = he9
                            · skip
                              refine l_of (s_val (v := .pointer (some ⟨h, 0, none⟩)) (wt1 rfl rfl rfl rfl (decide_eq_true hb46)) rfl rfl (x_move rfl rfl) ?_)
                              refine l_of (s_val (v := .int .i64 ((m2 : Int))) (wt1 rfl rfl rfl rfl (decide_eq_true hb46)) rfl rfl (x_move rfl rfl) ?_)
                              refine l_of (s_call (wt1 rfl rfl rfl rfl (decide_eq_true hb46)) (x_call' rfl rfl cl37) (rankr_s h pp kc seed n rs hPI.sd (m2 : Int) ⟨by omega, by omega⟩ w9 ht _ (H41.takes [0, 4] (by decide))) ?_)
                              rintro _ wq47 ⟨rfl, H48⟩
                              replace H48 : S wq47 [Ob h (.cells #[.string seed, .int .i64 ((n : Int)), .slice pp rs.length kc] 52 (0, 0)), Old w9 no, Rw 61 3 pp rs.length kc (fl shwL rs), (Lst RoI rs), Ob g9 (.cells #[.int .i64 (x.id), .slice x.tp x.told.length x.tc, .slice x.hp x.holds.length x.hc] 61 (0, 0)), Old w (fps [(RM.I ⟨h, pp, kc, seed, n, rs⟩), Old w9 no])] := H41.absorbI (new := [Ob h (.cells #[.string seed, .int .i64 ((n : Int)), .slice pp rs.length kc] 52 (0, 0)), Old w9 no]) [0, 4] H48
                              refine b_ret rfl rfl ?_
                              refine l_of (s_val (v := .pointer (some ⟨h, 0, none⟩)) (wt1 rfl rfl rfl rfl (decide_eq_true hb46)) rfl rfl (x_move rfl rfl) ?_)
                              refine l_of (s_val (v := .int .i64 at9) (wt1 rfl rfl rfl rfl (decide_eq_true hb46)) rfl rfl (x_move rfl rfl) ?_)
                              refine l_of (s_call (wt1 rfl rfl rfl rfl (decide_eq_true hb46)) (x_call' rfl rfl cl37) (rankr_s h pp kc seed n rs hPI.sd at9 (by have := hat.rng (by omega); omega) w9 ht _ (H48.takes [0, 1] (by decide))) ?_)
                              rintro _ wq49 ⟨rfl, H50⟩
                              replace H50 : S wq49 [Ob h (.cells #[.string seed, .int .i64 ((n : Int)), .slice pp rs.length kc] 52 (0, 0)), Old w9 no, Rw 61 3 pp rs.length kc (fl shwL rs), (Lst RoI rs), Ob g9 (.cells #[.int .i64 (x.id), .slice x.tp x.told.length x.tc, .slice x.hp x.holds.length x.hc] 61 (0, 0)), Old w (fps [(RM.I ⟨h, pp, kc, seed, n, rs⟩), Old w9 no])] := H48.absorbI (new := [Ob h (.cells #[.string seed, .int .i64 ((n : Int)), .slice pp rs.length kc] 52 (0, 0)), Old w9 no]) [0, 1] H50
                              refine b_ret rfl rfl ?_
                              obtain ⟨cz, hcz⟩ : ∃ cz : Int, cmpSt (rankS seed (m2 : Int)) (rankS seed at9) = cz := ⟨_, rfl⟩
                              refine l_of (s_val (v := .bool (decide (cz < 0))) (wt1 rfl rfl rfl rfl (decide_eq_true hb46)) rfl rfl (ex_cast (x_bin rfl rfl rfl b_lsS) (by rw [hcz])) ?_)
                              refine l_of (s_val (v := .bool (decide (cz < 0))) (wt1 rfl rfl rfl rfl (decide_eq_false hb45)) rfl rfl (x_pick_t rfl rfl (decide_eq_true hb46) rfl) ?_)
                              refine l_of (s_val (v := .bool (decide (cz < 0))) (wt0 rfl) rfl rfl (x_pick_f rfl rfl (decide_eq_false hb45) rfl) ?_)
                              refine g_nil ?_
                              refine g_then ?_
                              refine g_weak [(0, .pointer (some ⟨h, 0, none⟩)), (7, .int .i64 ((i : Int))), (8, .pointer (some ⟨g9, 0, none⟩)), (13, .int .i64 at9), (14, .int .i64 to9), (15, .int .i64 he9), (16, .int .i64 ((m2 : Int))), (17, .int .i64 ((tcN (rs.map Shr.sh) (m2 : Int) : Int))), (18, .int .i64 ((hcN (rs.map Shr.sh) (m2 : Int) : Int))), (85, .int .i64 ((n : Int))), (86, .int .i64 ((m2 : Int))), (140, .bool (decide (cz < 0)))] ⟨rfl, rfl, rfl, rfl, rfl, rfl, rfl, rfl, rfl, rfl, rfl, rfl, trivial⟩ ?_
                              by_cases hb51 : cz < 0
                              · skip
                                refine g_cond_t rfl (decide_eq_true hb51) ?_
                                refine g_region ?_
                                refine l_of (s_val (v := .int .i64 ((m2 : Int))) (wt0 rfl) rfl rfl (x_move rfl rfl) ?_)
                                refine l_of (s_val (v := .int .i64 ((tcN (rs.map Shr.sh) (m2 : Int) : Int))) (wt0 rfl) rfl rfl (x_move rfl rfl) ?_)
                                refine l_of (s_val (v := .int .i64 ((hcN (rs.map Shr.sh) (m2 : Int) : Int))) (wt0 rfl) rfl rfl (x_move rfl rfl) ?_)
                                have hpt : pb = true := hb30
                                refine l_of (s_val (v := .int .i64 ((m2 : Int))) (wt0 rfl) rfl rfl (x_assign rfl rfl) ?_)
                                refine l_of (s_val (v := .int .i64 ((tcN (rs.map Shr.sh) (m2 : Int) : Int))) (wt0 rfl) rfl rfl (x_assign rfl rfl) ?_)
                                refine l_of (s_val (v := .int .i64 ((hcN (rs.map Shr.sh) (m2 : Int) : Int))) (wt0 rfl) rfl rfl (x_assign rfl rfl) ?_)
                                refine g_nil ?_
                                refine g_in ?_
                                refine g_then ?_
                                refine g_region ?_
                                refine l_of (s_val (v := .int .i64 (((m2 + 1 : Nat) : Int))) (wt0 rfl) rfl rfl (x_bin rfl rfl rfl (b_add (by rw [w64 (by omega)]; omega))) ?_)
                                refine l_of (s_val (v := .int .i64 (((m2 + 1 : Nat) : Int))) (wt0 rfl) rfl rfl (x_move rfl rfl) ?_)
                                refine g_nil ?_
                                refine g_then ?_
                                refine g_round (i := (m2, at9, to9, he9)) ((m2 + 1), (m2 : Int), (tcN (rs.map Shr.sh) (m2 : Int) : Int), (hcN (rs.map Shr.sh) (m2 : Int) : Int)) ?_ ?_ ?_
                                · exact ⟨rfl, rfl, rfl, rfl, rfl, rfl, rfl, rfl, trivial⟩
                                · exact ⟨(by omega), (hat.new (by unfold qC; simp [show x.sh.holds = x.holds from rfl, show x.sh.told = x.told from rfl, hb36, hb39]) (by by_cases h9 : at9 < 0; exact .inl h9; exact .inr ((hat.c h9 _).2 (by rw [hcz]; omega)))), (H50.takes [4, 0, 2, 3, 1, 5] (by decide))⟩
                                · (try dsimp only); omega
                              · skip
                                refine g_cond_f rfl (decide_eq_false hb51) ?_
                                refine g_skip ?_
                                refine g_in ?_
                                refine g_then ?_
                                refine g_region ?_
                                refine l_of (s_val (v := .int .i64 (((m2 + 1 : Nat) : Int))) (wt0 rfl) rfl rfl (x_bin rfl rfl rfl (b_add (by rw [w64 (by omega)]; omega))) ?_)
                                refine l_of (s_val (v := .int .i64 (((m2 + 1 : Nat) : Int))) (wt0 rfl) rfl rfl (x_move rfl rfl) ?_)
                                refine g_nil ?_
                                refine g_then ?_
                                refine g_round (i := (m2, at9, to9, he9)) ((m2 + 1), at9, to9, he9) ?_ ?_ ?_
                                · exact ⟨rfl, rfl, rfl, rfl, rfl, rfl, rfl, rfl, trivial⟩
                                · exact ⟨(by omega), (hat.old (by unfold qC; simp [show x.sh.holds = x.holds from rfl, show x.sh.told = x.told from rfl, hb36, hb39]) (by omega) (fun h9 => by have h8 := (hat.c (by omega) _).1 h9; rw [hcz] at h8; omega)), (H50.takes [4, 0, 2, 3, 1, 5] (by decide))⟩
                                · (try dsimp only); omega
                            · skip
                              refine l_of (s_not (wn1 rfl rfl rfl rfl (decide_eq_false hb46)) rfl rfl ?_)
                              refine l_of (s_not (wn1 rfl rfl rfl rfl (decide_eq_false hb46)) rfl rfl ?_)
                              refine l_of (s_not (wn1 rfl rfl rfl rfl (decide_eq_false hb46)) rfl rfl ?_)
                              refine l_of (s_not (wn1 rfl rfl rfl rfl (decide_eq_false hb46)) rfl rfl ?_)
                              refine l_of (s_not (wn1 rfl rfl rfl rfl (decide_eq_false hb46)) rfl rfl ?_)
                              refine l_of (s_not (wn1 rfl rfl rfl rfl (decide_eq_false hb46)) rfl rfl ?_)
                              refine l_of (s_not (wn1 rfl rfl rfl rfl (decide_eq_false hb46)) rfl rfl ?_)
                              refine l_of (s_val (v := .bool false) (wt1 rfl rfl rfl rfl (decide_eq_false hb45)) rfl rfl (x_pick_f rfl rfl (decide_eq_false hb46) rfl) ?_)
                              refine l_of (s_val (v := .bool false) (wt0 rfl) rfl rfl (x_pick_f rfl rfl (decide_eq_false hb45) rfl) ?_)
                              refine g_nil ?_
                              refine g_then ?_
                              refine g_weak [(0, .pointer (some ⟨h, 0, none⟩)), (7, .int .i64 ((i : Int))), (8, .pointer (some ⟨g9, 0, none⟩)), (13, .int .i64 at9), (14, .int .i64 to9), (15, .int .i64 he9), (16, .int .i64 ((m2 : Int))), (17, .int .i64 ((tcN (rs.map Shr.sh) (m2 : Int) : Int))), (18, .int .i64 ((hcN (rs.map Shr.sh) (m2 : Int) : Int))), (85, .int .i64 ((n : Int))), (86, .int .i64 ((m2 : Int))), (140, .bool false)] ⟨rfl, rfl, rfl, rfl, rfl, rfl, rfl, rfl, rfl, rfl, rfl, rfl, trivial⟩ ?_
                              refine g_cond_f rfl rfl ?_
                              refine g_skip ?_
                              refine g_in ?_
                              refine g_then ?_
                              refine g_region ?_
                              refine l_of (s_val (v := .int .i64 (((m2 + 1 : Nat) : Int))) (wt0 rfl) rfl rfl (x_bin rfl rfl rfl (b_add (by rw [w64 (by omega)]; omega))) ?_)
                              refine l_of (s_val (v := .int .i64 (((m2 + 1 : Nat) : Int))) (wt0 rfl) rfl rfl (x_move rfl rfl) ?_)
                              refine g_nil ?_
                              refine g_then ?_
                              refine g_round (i := (m2, at9, to9, he9)) ((m2 + 1), at9, to9, he9) ?_ ?_ ?_
                              · exact ⟨rfl, rfl, rfl, rfl, rfl, rfl, rfl, rfl, trivial⟩
                              · exact ⟨(by omega), (hat.old (by unfold qC; simp [show x.sh.holds = x.holds from rfl, show x.sh.told = x.told from rfl, hb36, hb39]) (by omega) (fun h9 => by have h8 := (hat.c (by omega) _).1 h9; generalize cmpSt (rankS seed (m2 : Int)) (rankS seed at9) = cz at h8; omega)), (H41.takes [3, 0, 1, 2, 4, 5] (by decide))⟩
                              · (try dsimp only); omega
                        · skip
                          refine l_of (s_not (wn1 rfl rfl rfl rfl (decide_eq_false hb44)) rfl rfl ?_)
                          refine l_of (s_not (wn1 rfl rfl rfl rfl (decide_eq_false hb44)) rfl rfl ?_)
                          refine l_of (s_not (wn1 rfl rfl rfl rfl (decide_eq_false hb44)) rfl rfl ?_)
                          refine l_of (s_val (v := .bool false) (wt1 rfl rfl rfl rfl (decide_eq_false hb43)) rfl rfl (x_pick_f rfl rfl (decide_eq_false hb44) rfl) ?_)
                          refine l_of (s_val (v := .bool false) (wt0 rfl) rfl rfl (x_pick_f rfl rfl (decide_eq_false hb43) rfl) ?_)
                          refine l_of (s_val (v := .bool false) (wt0 rfl) rfl rfl (x_move rfl rfl) ?_)
                          refine l_of (s_val (v := .int .i64 ((tcN (rs.map Shr.sh) (m2 : Int) : Int))) (wt1 rfl rfl rfl rfl rfl) rfl rfl (x_move rfl rfl) ?_)
                          refine l_of (s_val (v := .int .i64 to9) (wt1 rfl rfl rfl rfl rfl) rfl rfl (x_move rfl rfl) ?_)
                          refine l_of (s_val (v := .bool (decide (((tcN (rs.map Shr.sh) (m2 : Int) : Int) : Int) = to9))) (wt1 rfl rfl rfl rfl rfl) rfl rfl (x_bin rfl rfl rfl b_eql) ?_)
                          refine l_of (s_val (v := .bool (decide (((tcN (rs.map Shr.sh) (m2 : Int) : Int) : Int) = to9))) (wt1 rfl rfl rfl rfl rfl) rfl rfl (x_move rfl rfl) ?_)
                          refine l_of (s_not (wn1 rfl rfl rfl rfl (decide_eq_false hb44)) rfl rfl ?_)
                          refine l_of (s_not (wn1 rfl rfl rfl rfl (decide_eq_false hb44)) rfl rfl ?_)
                          refine l_of (s_not (wn1 rfl rfl rfl rfl (decide_eq_false hb44)) rfl rfl ?_)
                          refine l_of (s_val (v := .bool false) (wt1 rfl rfl rfl rfl rfl) rfl rfl (x_pick_f rfl rfl (decide_eq_false hb44) rfl) ?_)
                          refine l_of (s_val (v := .bool false) (wt1 rfl rfl rfl rfl rfl) rfl rfl (x_move rfl rfl) ?_)
                          refine l_of (s_not (wn1 rfl rfl rfl rfl rfl) rfl rfl ?_)
                          refine l_of (s_not (wn1 rfl rfl rfl rfl rfl) rfl rfl ?_)
                          refine l_of (s_not (wn1 rfl rfl rfl rfl rfl) rfl rfl ?_)
                          refine l_of (s_not (wn1 rfl rfl rfl rfl rfl) rfl rfl ?_)
                          refine l_of (s_not (wn1 rfl rfl rfl rfl rfl) rfl rfl ?_)
                          refine l_of (s_not (wn1 rfl rfl rfl rfl rfl) rfl rfl ?_)
                          refine l_of (s_not (wn1 rfl rfl rfl rfl rfl) rfl rfl ?_)
                          refine l_of (s_val (v := .bool false) (wt1 rfl rfl rfl rfl rfl) rfl rfl (x_pick_f rfl rfl rfl rfl) ?_)
                          refine l_of (s_val (v := .bool false) (wt0 rfl) rfl rfl (x_pick_f rfl rfl rfl rfl) ?_)
                          refine g_nil ?_
                          refine g_then ?_
                          refine g_weak [(0, .pointer (some ⟨h, 0, none⟩)), (7, .int .i64 ((i : Int))), (8, .pointer (some ⟨g9, 0, none⟩)), (13, .int .i64 at9), (14, .int .i64 to9), (15, .int .i64 he9), (16, .int .i64 ((m2 : Int))), (17, .int .i64 ((tcN (rs.map Shr.sh) (m2 : Int) : Int))), (18, .int .i64 ((hcN (rs.map Shr.sh) (m2 : Int) : Int))), (85, .int .i64 ((n : Int))), (86, .int .i64 ((m2 : Int))), (140, .bool false)] ⟨rfl, rfl, rfl, rfl, rfl, rfl, rfl, rfl, rfl, rfl, rfl, rfl, trivial⟩ ?_
                          refine g_cond_f rfl rfl ?_
                          refine g_skip ?_
                          refine g_in ?_
                          refine g_then ?_
                          refine g_region ?_
                          refine l_of (s_val (v := .int .i64 (((m2 + 1 : Nat) : Int))) (wt0 rfl) rfl rfl (x_bin rfl rfl rfl (b_add (by rw [w64 (by omega)]; omega))) ?_)
                          refine l_of (s_val (v := .int .i64 (((m2 + 1 : Nat) : Int))) (wt0 rfl) rfl rfl (x_move rfl rfl) ?_)
                          refine g_nil ?_
                          refine g_then ?_
                          refine g_round (i := (m2, at9, to9, he9)) ((m2 + 1), at9, to9, he9) ?_ ?_ ?_
                          · exact ⟨rfl, rfl, rfl, rfl, rfl, rfl, rfl, rfl, trivial⟩
                          · exact ⟨(by omega), (hat.old (by unfold qC; simp [show x.sh.holds = x.holds from rfl, show x.sh.told = x.told from rfl, hb36, hb39]) (by omega) (fun h9 => by have h8 := (hat.c (by omega) _).1 h9; generalize cmpSt (rankS seed (m2 : Int)) (rankS seed at9) = cz at h8; omega)), (H41.takes [3, 0, 1, 2, 4, 5] (by decide))⟩
                          · (try dsimp only); omega
              · skip
                refine g_cond_f rfl (decide_eq_false hb33) ?_
                refine g_exit ?_
                refine g_then_exit ?_
                refine g_then_exit ?_
                refine g_in_hit ?_
                refine g_then ?_
                refine g_seq ?_
                refine g_seq ?_
                refine g_region ?_
                refine l_of (s_val (v := .int .i64 at9) (wt0 rfl) rfl rfl (x_move rfl rfl) ?_)
                refine l_of (s_val (v := .bool (decide ((at9 : Int) < 0))) (wt0 rfl) rfl rfl (x_bin rfl rfl rfl b_lss) ?_)
                refine g_nil ?_
                refine g_then ?_
                by_cases hb52 : (at9 : Int) < 0
                · skip
                  refine g_cond_t rfl (decide_eq_true hb52) ?_
                  refine g_seq ?_
                  refine g_region ?_
                  refine l_of (s_val (v := .int .i64 0) (wt0 rfl) rfl rfl (x_assign rfl rfl) ?_)
                  refine l_of (s_val (v := .int .i64 9) (wt0 rfl) rfl rfl (x_assign rfl rfl) ?_)
                  refine g_nil ?_
                  refine g_then ?_
                  refine g_ret ?_
                  refine g_then_ret ?_
                  refine fin_ret [.tmp 4, .tmp 5] [.int .i64 0, .int .i64 9] rfl ⟨rfl, rfl, trivial⟩ ?_
                  have hnE : nextE (⟨seed, n, rs.map Shr.sh⟩ : SP) id = if waitB (⟨seed, n, rs.map Shr.sh⟩ : SP) x.sh = true then 9 else if candM x.sh n = [] then 9 else 0 := by unfold nextE; rw [show fnd (SP.ps (⟨seed, n, rs.map Shr.sh⟩ : SP)) id = some i from hf]; show (if waitB (⟨seed, n, rs.map Shr.sh⟩ : SP) (getP (⟨seed, n, rs.map Shr.sh⟩ : SP) i) = true then (9 : Int) else if candM (getP (⟨seed, n, rs.map Shr.sh⟩ : SP) i) n = [] then 9 else 0) = _; rw [hg9]
                  rw [show (m2 : Nat) = n from by omega] at hat
                  have hce : candM x.sh n = [] := by rcases hat with h9 | h9; exact h9.2; omega
                  have hv : nextE (⟨seed, n, rs.map Shr.sh⟩ : SP) id = 9 := by rw [hnE, if_neg (by rw [hwf]; decide)]; exact if_pos hce
                  have hE : nextE (⟨seed, n, rs.map Shr.sh⟩ : SP) id = 9 := by exact hv
                  have hA : nextA (⟨seed, n, rs.map Shr.sh⟩ : SP) id = (⟨seed, n, rs.map Shr.sh⟩ : SP) := by unfold nextA; rw [hE]; exact if_neg (by decide)
                  have hV : nextV (⟨seed, n, rs.map Shr.sh⟩ : SP) id = 0 := by unfold nextV; rw [show fnd (SP.ps (⟨seed, n, rs.map Shr.sh⟩ : SP)) id = some i from hf]; show (if nextE (⟨seed, n, rs.map Shr.sh⟩ : SP) id = 0 then _ else (0 : Int)) = 0; rw [hE]; exact if_neg (by decide)
                  rw [hE, hV]
                  exact ⟨⟨h, pp, kc, seed, n, rs⟩, rfl, hA.symm, rfl, (S.big (L := [_, _, _]) (H32.takes [1, 2, 3, 4, 5] (by decide)))⟩
                · skip
                  refine g_cond_f rfl (decide_eq_false hb52) ?_
                  refine g_skip ?_
                  refine g_then ?_
                  refine g_seq ?_
                  have H53 : S wq31 [Rw 3 1 x.tp x.told.length x.tc (fl intL x.told), Rw 3 1 x.hp x.holds.length x.hc (fl intL x.holds), (Lst RoI (rs.eraseIdx i)), Ob g9 (.cells #[.int .i64 (x.id), .slice x.tp x.told.length x.tc, .slice x.hp x.holds.length x.hc] 61 (0, 0)), Ob h (.cells #[.string seed, .int .i64 ((n : Int)), .slice pp rs.length kc] 52 (0, 0)), Rw 61 3 pp rs.length kc (fl shwL rs), Old w9 no, Old w (fps [(RM.I ⟨h, pp, kc, seed, n, rs⟩), Old w9 no])] := S.unbig (L := [_, _]) (S.lstOut (F := RoI) (H32.takes [3, 0, 1, 2, 4, 5] (by decide)) hx)
                  refine g_anyY [] (fun wx => S wx [Ob h (.cells #[.string seed, .int .i64 ((n : Int)), .slice pp rs.length kc] 52 (0, 0)), Rw 61 3 pp rs.length kc (fl shwL rs)]) (fun wx => S wx []) [18] (by kernel_rfl) H53 (fun wq54 H55 => ?_)
                  refine y_pure (v := .pointer (some ⟨h, 0, none⟩)) 0 rfl (wt0 rfl) rfl rfl rfl (by kernel_rfl) (by kernel_rfl) (by kernel_rfl) (by kernel_rfl) (fun wx => x_move rfl rfl) ?_
                  refine y_pure (v := .pointer (some ⟨h, 0, none⟩)) 1 rfl (wt0 rfl) rfl rfl rfl (by kernel_rfl) (by kernel_rfl) (by kernel_rfl) (by kernel_rfl) (fun wx => x_nilCheck rfl rfl) ?_
                  refine y_pure (v := .pointer (some ⟨h, 2, none⟩)) 2 rfl (wt0 rfl) rfl rfl rfl (by kernel_rfl) (by kernel_rfl) (by kernel_rfl) (by kernel_rfl) (fun wx => x_fieldAddr rfl rfl fo52_2 rfl) ?_
                  refine y_take (v := .slice pp rs.length kc) 3 rfl (wt0 rfl) rfl rfl rfl (by kernel_rfl) (by kernel_rfl) (by kernel_rfl) (by kernel_rfl) (by kernel_rfl) (H55.mask [false, false, false, false, true, true, false, false]) (fun wx H => x_load1 H 0 rfl rfl Tryd.underlying50 rfl rfl rfl) ?_
                  refine y_pure (v := .int .i64 ((i : Int))) 4 rfl (wt0 rfl) rfl rfl rfl (by kernel_rfl) (by kernel_rfl) (by kernel_rfl) (by kernel_rfl) (fun wx => x_move rfl rfl) ?_
                  refine y_pure (v := .pointer (some ⟨h, 0, none⟩)) 5 rfl (wt0 rfl) rfl rfl rfl (by kernel_rfl) (by kernel_rfl) (by kernel_rfl) (by kernel_rfl) (fun wx => x_move rfl rfl) ?_
                  refine y_pure (v := .pointer (some ⟨h, 0, none⟩)) 6 rfl (wt0 rfl) rfl rfl rfl (by kernel_rfl) (by kernel_rfl) (by kernel_rfl) (by kernel_rfl) (fun wx => x_nilCheck rfl rfl) ?_
                  refine y_pure (v := .pointer (some ⟨h, 2, none⟩)) 7 rfl (wt0 rfl) rfl rfl rfl (by kernel_rfl) (by kernel_rfl) (by kernel_rfl) (by kernel_rfl) (fun wx => x_fieldAddr rfl rfl fo52_2 rfl) ?_
                  refine y_take (v := .slice pp rs.length kc) 8 rfl (wt0 rfl) rfl rfl rfl (by kernel_rfl) (by kernel_rfl) (by kernel_rfl) (by kernel_rfl) (by kernel_rfl) (H55.mask [false, false, false, false, true, true, false, false]) (fun wx H => x_load1 H 0 rfl rfl Tryd.underlying50 rfl rfl rfl) ?_
                  refine y_pure (v := .int .i64 ((i : Int))) 9 rfl (wt0 rfl) rfl rfl rfl (by kernel_rfl) (by kernel_rfl) (by kernel_rfl) (by kernel_rfl) (fun wx => x_move rfl rfl) ?_
                  refine y_pure (v := .pointer ((pp).map fun q => q.add (i * 3))) 10 rfl (wt0 rfl) rfl rfl rfl (by kernel_rfl) (by kernel_rfl) (by kernel_rfl) (by kernel_rfl) (fun wx => x_idxP i ((H55.rwReads (k := 5) rfl).some (by omega)) rfl rfl rfl Tryd.underlying50 sz61 (by omega)) ?_
                  refine y_pure (v := .pointer ((pp).map fun q => q.add (i * 3 + 1))) 11 rfl (wt0 rfl) rfl rfl rfl (by kernel_rfl) (by kernel_rfl) (by kernel_rfl) (by kernel_rfl) (fun wx => ex_cast (x_fieldAddrG (m := i * 3) ((H55.rwReads (k := 5) rfl).some (by omega)) rfl rfl fo61_1) rfl) ?_
                  refine y_take (v := .slice x.tp x.told.length x.tc) 12 rfl (wt0 rfl) rfl rfl rfl (by kernel_rfl) (by kernel_rfl) (by kernel_rfl) (by kernel_rfl) (by kernel_rfl) (H55.mask [false, false, false, false, true, true, false, false]) (fun wx H => x_loadF1 (i := 1) (j := i) shwE (H.rwReads (k := 1) rfl) hx rfl rfl Tryd.underlying35 rfl rfl) ?_
                  refine y_pure (v := .int .i64 at9) 13 rfl (wt0 rfl) rfl rfl rfl (by kernel_rfl) (by kernel_rfl) (by kernel_rfl) (by kernel_rfl) (fun wx => x_move rfl rfl) ?_
                  refine y_one (i := 14) (by kernel_rfl) rfl ?_
                  refine s_buildSlice H55 (wt0 rfl) rfl rfl rfl (vs := [.int .i64 at9]) rfl Tryd.underlying35 sz3 ze3 rfl rfl (cells := #[.int .i64 at9]) (by kernel_rfl) ?_
                  intro g56 wq57 H58
                  refine y_k (H58.mask [false, false, false, false, false, true, true, false, false]) (H58.mask [false, false, false, false, false, false, false, false, false]) ?_
                  refine y_one (i := 15) (by kernel_rfl) rfl ?_
                  have hln63a := (H58.rwReads (k := 1) rfl).lenL intE
                  have hln63 : (x.told ++ [at9]).length = x.told.length + 1 := by simp only [List.length_append, List.length_cons, List.length_nil] <;> omega
                  refine s_appBn (m := 1) (l := x.told) (l2 := [at9]) intE H58 1 (j0 := 0) rfl rfl ⟨rfl, Nat.le_refl _⟩ (wt0 rfl) rfl rfl rfl rfl rfl rfl Tryd.underlying35 inf3 rfl (by decide) (by omega) ?_
                  intro p59 c60 wq61 H62
                  replace H62 : S wq61 [Ob g56 (.cells #[.int .i64 at9] 3 (0, 0)), Rw 3 1 p59 ((x.told ++ [at9]).length) c60 (fl intL (x.told ++ [at9])), Rw 3 1 x.hp x.holds.length x.hc (fl intL x.holds), (Lst RoI (rs.eraseIdx i)), Ob g9 (.cells #[.int .i64 (x.id), .slice x.tp x.told.length x.tc, .slice x.hp x.holds.length x.hc] 61 (0, 0)), Ob h (.cells #[.string seed, .int .i64 ((n : Int)), .slice pp rs.length kc] 52 (0, 0)), Rw 61 3 pp rs.length kc (fl shwL rs), Old w9 no, Old w (fps [(RM.I ⟨h, pp, kc, seed, n, rs⟩), Old w9 no])] := H62
                  refine y_k (H62.mask [false, false, false, false, false, true, true, false, false]) (H62.mask [false, false, false, false, false, false, false, false, false]) ?_
                  refine y_pure (v := .pointer ((pp).map fun q => q.add (i * 3))) 16 rfl (wt0 rfl) rfl rfl rfl (by kernel_rfl) (by kernel_rfl) (by kernel_rfl) (by kernel_rfl) (fun wx => x_idxP i ((H62.rwReads (k := 6) rfl).some (by omega)) rfl rfl rfl Tryd.underlying50 sz61 (by omega)) ?_
                  refine y_pure (v := .pointer ((pp).map fun q => q.add (i * 3 + 1))) 17 rfl (wt0 rfl) rfl rfl rfl (by kernel_rfl) (by kernel_rfl) (by kernel_rfl) (by kernel_rfl) (fun wx => ex_cast (x_fieldAddrG (m := i * 3) ((H62.rwReads (k := 6) rfl).some (by omega)) rfl rfl fo61_1) rfl) ?_
                  refine y_one (i := 18) (by kernel_rfl) rfl ?_
                  refine s_fldL (i := 1) (j := i) shwE ({ x with tp := p59, tc := c60, told := (x.told ++ [at9]) } : Shr) H62 6 (wt0 rfl) rfl rfl rfl rfl rfl hx rfl (by decide) sz35 rfl rfl ?_
                  intro wq64 H65
                  replace H65 : S wq64 [Ob g56 (.cells #[.int .i64 at9] 3 (0, 0)), Rw 3 1 p59 ((x.told ++ [at9]).length) c60 (fl intL (x.told ++ [at9])), Rw 3 1 x.hp x.holds.length x.hc (fl intL x.holds), (Lst RoI (rs.eraseIdx i)), Ob g9 (.cells #[.int .i64 (x.id), .slice x.tp x.told.length x.tc, .slice x.hp x.holds.length x.hc] 61 (0, 0)), Ob h (.cells #[.string seed, .int .i64 ((n : Int)), .slice pp rs.length kc] 52 (0, 0)), Rw 61 3 pp rs.length kc (fl shwL (rs.set i ({ x with tp := p59, tc := c60, told := (x.told ++ [at9]) } : Shr))), Old w9 no, Old w (fps [(RM.I ⟨h, pp, kc, seed, n, rs⟩), Old w9 no])] := H65
                  refine y_kt rfl (H65.mask [false, false, false, false, false, false, false, false, false]) ?_
                  refine y_done (by kernel_rfl) ?_
                  refine g_then ?_
                  refine g_weak [(13, .int .i64 at9)] ⟨rfl, trivial⟩ ?_
                  refine g_seq ?_
                  refine g_region ?_
                  refine l_of (s_val (v := .int .i64 at9) (wt0 rfl) rfl rfl (x_move rfl rfl) ?_)
                  refine l_of (s_val (v := .int .i64 at9) (wt0 rfl) rfl rfl (x_assign rfl rfl) ?_)
                  refine l_of (s_val (v := .int .i64 0) (wt0 rfl) rfl rfl (x_assign rfl rfl) ?_)
                  refine g_nil ?_
                  refine g_then ?_
                  refine g_ret ?_
                  refine fin_ret [.tmp 4, .tmp 5] [.int .i64 at9, .int .i64 0] rfl ⟨rfl, rfl, trivial⟩ ?_
                  have hnE : nextE (⟨seed, n, rs.map Shr.sh⟩ : SP) id = if waitB (⟨seed, n, rs.map Shr.sh⟩ : SP) x.sh = true then 9 else if candM x.sh n = [] then 9 else 0 := by unfold nextE; rw [show fnd (SP.ps (⟨seed, n, rs.map Shr.sh⟩ : SP)) id = some i from hf]; show (if waitB (⟨seed, n, rs.map Shr.sh⟩ : SP) (getP (⟨seed, n, rs.map Shr.sh⟩ : SP) i) = true then (9 : Int) else if candM (getP (⟨seed, n, rs.map Shr.sh⟩ : SP) i) n = [] then 9 else 0) = _; rw [hg9]
                  rw [show (m2 : Nat) = n from by omega] at hat
                  have hrg := hat.rng (by omega)
                  obtain ⟨j9, hB9⟩ := (hat.resolve_left (fun h9 => by omega)).2.2.2.2
                  have hv : nextE (⟨seed, n, rs.map Shr.sh⟩ : SP) id = 0 := by rw [hnE, if_neg (by rw [hwf]; decide)]; exact if_neg (fun h => by rw [h] at hB9; exact absurd hB9.1 (by simp))
                  have hV : nextV (⟨seed, n, rs.map Shr.sh⟩ : SP) id = at9 := by unfold nextV; rw [show fnd (SP.ps (⟨seed, n, rs.map Shr.sh⟩ : SP)) id = some i from hf]; show (if nextE (⟨seed, n, rs.map Shr.sh⟩ : SP) id = 0 then bestI seed (rs.map Shr.sh) (candM (getP (⟨seed, n, rs.map Shr.sh⟩ : SP) i) n) else 0) = at9; rw [if_pos hv, hg9]; exact bestI_is (by have := cand_len x.sh n; omega) hB9
                  have hA : nextA (⟨seed, n, rs.map Shr.sh⟩ : SP) id = ⟨seed, n, (rs.set i ({ x with tp := p59, tc := c60, told := (x.told ++ [at9]) } : Shr)).map Shr.sh⟩ := by unfold nextA; rw [if_pos hv, show fnd (SP.ps (⟨seed, n, rs.map Shr.sh⟩ : SP)) id = some i from hf, List.map_set]; show (⟨seed, n, (rs.map Shr.sh).set i { getP (⟨seed, n, rs.map Shr.sh⟩ : SP) i with told := (getP (⟨seed, n, rs.map Shr.sh⟩ : SP) i).told ++ [nextV (⟨seed, n, rs.map Shr.sh⟩ : SP) id] }⟩ : SP) = _; rw [hg9, hV]; rfl
                  rw [hv, hV]
                  have hln : (rs.set i ({ x with tp := p59, tc := c60, told := (x.told ++ [at9]) } : Shr)).length = rs.length := List.length_set
                  have h9 := (S.lstIn (F := RoI) (x := ({ x with tp := p59, tc := c60, told := (x.told ++ [at9]) } : Shr)) (S.big (L := [_, _]) (H65.takes [1, 2, 3, 5, 6, 7, 8] (by decide))) hil)
                  exact ⟨⟨h, pp, kc, seed, n, (rs.set i ({ x with tp := p59, tc := c60, told := (x.told ++ [at9]) } : Shr))⟩, rfl, hA.symm, rfl, rm_fold2 hln (h9.takes [1, 2, 0, 3, 4] (by decide))⟩
            · skip
              refine g_cond_t rfl (neg_of hb30) ?_
              refine g_seq ?_
              refine g_region ?_
              refine l_of (s_val (v := .int .i64 0) (wt0 rfl) rfl rfl (x_assign rfl rfl) ?_)
              refine l_of (s_val (v := .int .i64 9) (wt0 rfl) rfl rfl (x_assign rfl rfl) ?_)
              refine g_nil ?_
              refine g_then ?_
              refine g_ret ?_
              refine g_then_ret ?_
              refine fin_ret [.tmp 4, .tmp 5] [.int .i64 0, .int .i64 9] rfl ⟨rfl, rfl, trivial⟩ ?_
              have hnE : nextE (⟨seed, n, rs.map Shr.sh⟩ : SP) id = if waitB (⟨seed, n, rs.map Shr.sh⟩ : SP) x.sh = true then 9 else if candM x.sh n = [] then 9 else 0 := by unfold nextE; rw [show fnd (SP.ps (⟨seed, n, rs.map Shr.sh⟩ : SP)) id = some i from hf]; show (if waitB (⟨seed, n, rs.map Shr.sh⟩ : SP) (getP (⟨seed, n, rs.map Shr.sh⟩ : SP) i) = true then (9 : Int) else if candM (getP (⟨seed, n, rs.map Shr.sh⟩ : SP) i) n = [] then 9 else 0) = _; rw [hg9]
              have hwt : waitB (⟨seed, n, rs.map Shr.sh⟩ : SP) x.sh = true := by unfold waitB; rw [hlst]; show decide (othN (rs.map Shr.sh) x.sh x15 = 0 ∧ (1 < (rs.map Shr.sh).length ∨ x15 ∉ x.holds)) = true; rw [decide_eq_true_iff, List.length_map, ← wait_iff hx]; exact fun h9 => by have := hpb.2 h9; rw [hb30] at this; cases this
              have hv : nextE (⟨seed, n, rs.map Shr.sh⟩ : SP) id = 9 := by rw [hnE]; exact if_pos hwt
              have hE : nextE (⟨seed, n, rs.map Shr.sh⟩ : SP) id = 9 := by exact hv
              have hA : nextA (⟨seed, n, rs.map Shr.sh⟩ : SP) id = (⟨seed, n, rs.map Shr.sh⟩ : SP) := by unfold nextA; rw [hE]; exact if_neg (by decide)
              have hV : nextV (⟨seed, n, rs.map Shr.sh⟩ : SP) id = 0 := by unfold nextV; rw [show fnd (SP.ps (⟨seed, n, rs.map Shr.sh⟩ : SP)) id = some i from hf]; show (if nextE (⟨seed, n, rs.map Shr.sh⟩ : SP) id = 0 then _ else (0 : Int)) = 0; rw [hE]; exact if_neg (by decide)
              rw [hE, hV]
              exact ⟨⟨h, pp, kc, seed, n, rs⟩, rfl, hA.symm, rfl, (S.big (L := [_, _, _]) (H17.takes [1, 2, 3, 4, 5] (by decide)))⟩
        · skip
          refine g_cond_f rfl (decide_eq_false hb14) ?_
          refine g_skip ?_
          refine g_then ?_
          refine g_seq ?_
          refine g_region ?_
          refine l_of (s_val (v := .int .i64 (-1)) (wt0 rfl) rfl rfl (x_assign rfl rfl) ?_)
          refine l_of (s_val (v := .int .i64 0) (wt0 rfl) rfl rfl (x_assign rfl rfl) ?_)
          refine l_of (s_val (v := .int .i64 0) (wt0 rfl) rfl rfl (x_assign rfl rfl) ?_)
          refine g_nil ?_
          refine g_then ?_
          refine g_seq ?_
          refine g_seq ?_
          refine g_region ?_
          refine l_of (s_val (v := .pointer (some ⟨h, 0, none⟩)) (wt0 rfl) rfl rfl (x_move rfl rfl) ?_)
          refine l_of (s_val (v := .pointer (some ⟨h, 0, none⟩)) (wt0 rfl) rfl rfl (x_nilCheck rfl rfl) ?_)
          refine l_of (s_val (v := .pointer (some ⟨h, 1, none⟩)) (wt0 rfl) rfl rfl (x_fieldAddr rfl rfl fo52_1 rfl) ?_)
          refine l_of (s_val (v := .int .i64 ((n : Int))) (wt0 rfl) rfl rfl (x_load1 H13 1 rfl rfl Tryd.underlying3 rfl rfl rfl) ?_)
          refine l_of (s_val (v := .int .i64 0) (wt0 rfl) rfl rfl (x_move rfl rfl) ?_)
          refine g_nil ?_
          refine g_then ?_
          refine g_block ?_
          have hwf : waitB (⟨seed, n, rs.map Shr.sh⟩ : SP) x.sh = false := by unfold waitB; rw [show x.sh.told.getLast? = none from by rw [List.getLast?_eq_none_iff]; exact List.eq_nil_of_length_eq_zero (by show x.told.length = 0; omega)]
          refine g_loop (ι := Nat × Int × Int × Int) (fun (m2, at9, to9, he9) => [(0, .pointer (some ⟨h, 0, none⟩)), (7, .int .i64 ((i : Int))), (8, .pointer (some ⟨g9, 0, none⟩)), (13, .int .i64 at9), (14, .int .i64 to9), (15, .int .i64 he9), (85, .int .i64 ((n : Int))), (86, .int .i64 ((m2 : Int)))]) (fun (m2, at9, to9, he9) wx => (m2 ≤ n) ∧ (NB seed (rs.map Shr.sh) x.sh m2 at9 to9 he9) ∧ S wx [Ob g9 (.cells #[.int .i64 (x.id), .slice x.tp x.told.length x.tc, .slice x.hp x.holds.length x.hc] 61 (0, 0)), Ob h (.cells #[.string seed, .int .i64 ((n : Int)), .slice pp rs.length kc] 52 (0, 0)), Rw 61 3 pp rs.length kc (fl shwL rs), (Lst RoI rs), Old w9 no, Old w (fps [(RM.I ⟨h, pp, kc, seed, n, rs⟩), Old w9 no])]) (fun (m2, at9, to9, he9) => n - m2) (0, (-1), 0, 0) ⟨rfl, rfl, rfl, rfl, rfl, rfl, rfl, rfl, trivial⟩ ⟨Nat.zero_le _, (.inl ⟨rfl, rfl⟩), (H13.takes [0, 1, 2, 3, 4, 5] (by decide))⟩ ?_
          rintro ⟨m2, at9, to9, he9⟩ wq66 ⟨hm2, hat, H67⟩
          replace H67 : S wq66 [Ob g9 (.cells #[.int .i64 (x.id), .slice x.tp x.told.length x.tc, .slice x.hp x.holds.length x.hc] 61 (0, 0)), Ob h (.cells #[.string seed, .int .i64 ((n : Int)), .slice pp rs.length kc] 52 (0, 0)), Rw 61 3 pp rs.length kc (fl shwL rs), (Lst RoI rs), Old w9 no, Old w (fps [(RM.I ⟨h, pp, kc, seed, n, rs⟩), Old w9 no])] := H67
          refine g_weak [(0, .pointer (some ⟨h, 0, none⟩)), (7, .int .i64 ((i : Int))), (8, .pointer (some ⟨g9, 0, none⟩)), (13, .int .i64 at9), (14, .int .i64 to9), (15, .int .i64 he9), (85, .int .i64 ((n : Int))), (86, .int .i64 ((m2 : Int)))] ⟨rfl, rfl, rfl, rfl, rfl, rfl, rfl, rfl, trivial⟩ ?_
          refine g_seq ?_
          refine g_region ?_
          refine l_of (s_val (v := .bool (decide (((m2 : Int) : Int) < (n : Int)))) (wt0 rfl) rfl rfl (x_bin rfl rfl rfl b_lss) ?_)
          refine g_nil ?_
          refine g_then ?_
          refine g_seq ?_
          by_cases hb68 : ((m2 : Int) : Int) < (n : Int)
          · skip
            refine g_cond_t rfl (decide_eq_true hb68) ?_
            refine g_skip ?_
            refine g_then ?_
            refine g_seq ?_
            refine g_block ?_
            refine g_seq ?_
            refine g_region ?_
            refine l_of (s_val (v := .int .i64 ((m2 : Int))) (wt0 rfl) rfl rfl (x_move rfl rfl) ?_)
            refine l_of (s_val (v := .int .i64 ((m2 : Int))) (wt0 rfl) rfl rfl (x_assign rfl rfl) ?_)
            refine g_nil ?_
            refine g_then ?_
            refine g_seq ?_
            refine g_seq ?_
            refine g_region ?_
            refine l_of (s_val (v := .pointer (some ⟨g9, 2, none⟩)) (wt0 rfl) rfl rfl (x_fieldAddr rfl rfl fo61_2 rfl) ?_)
            refine l_of (s_val (v := .slice x.hp x.holds.length x.hc) (wt0 rfl) rfl rfl (x_load1 H67 0 rfl rfl Tryd.underlying35 rfl rfl rfl) ?_)
            refine l_of (s_val (v := .int .i64 ((m2 : Int))) (wt0 rfl) rfl rfl (x_move rfl rfl) ?_)
            refine l_of (s_call (wt0 rfl) (x_call' rfl rfl cl27) (in_r x.holds x.hp x.holds.length x.hc (m2 : Int) (by omega) _ (H67.rdH (k := 3) rfl hx)) ?_)
            rintro _ wq69 ⟨rfl, H70⟩
            replace H70 : S wq69 [Ob g9 (.cells #[.int .i64 (x.id), .slice x.tp x.told.length x.tc, .slice x.hp x.holds.length x.hc] 61 (0, 0)), Ob h (.cells #[.string seed, .int .i64 ((n : Int)), .slice pp rs.length kc] 52 (0, 0)), Rw 61 3 pp rs.length kc (fl shwL rs), (Lst RoI rs), Old w9 no, Old w (fps [(RM.I ⟨h, pp, kc, seed, n, rs⟩), Old w9 no])] := H67.absorb (new := []) H70
            refine b_ret rfl rfl ?_
            refine l_of (s_val (v := .bool ((decide ((m2 : Int) ∈ x.holds)))) (wt0 rfl) rfl rfl (x_move rfl rfl) ?_)
            rcases Bool.eq_false_or_eq_true ((decide ((m2 : Int) ∈ x.holds))) with hb71 | hb71
            · skip
              refine l_of (s_not (wn1 rfl rfl rfl rfl hb71) rfl rfl ?_)
              refine l_of (s_not (wn1 rfl rfl rfl rfl hb71) rfl rfl ?_)
              refine l_of (s_not (wn1 rfl rfl rfl rfl hb71) rfl rfl ?_)
              refine l_of (s_not (wn1 rfl rfl rfl rfl hb71) rfl rfl ?_)
              refine l_of (s_val (v := .bool true) (wt0 rfl) rfl rfl (x_pick_t rfl rfl hb71 rfl) ?_)
              refine g_nil ?_
              refine g_then ?_
              refine g_cond_t rfl rfl ?_
              refine g_exit ?_
              refine g_then_exit ?_
              refine g_in_hit ?_
              refine g_then ?_
              refine g_weak [(0, .pointer (some ⟨h, 0, none⟩)), (7, .int .i64 ((i : Int))), (8, .pointer (some ⟨g9, 0, none⟩)), (13, .int .i64 at9), (14, .int .i64 to9), (15, .int .i64 he9), (85, .int .i64 ((n : Int))), (86, .int .i64 ((m2 : Int)))] ⟨rfl, rfl, rfl, rfl, rfl, rfl, rfl, rfl, trivial⟩ ?_
              refine g_region ?_
              refine l_of (s_val (v := .int .i64 (((m2 + 1 : Nat) : Int))) (wt0 rfl) rfl rfl (x_bin rfl rfl rfl (b_add (by rw [w64 (by omega)]; omega))) ?_)
              refine l_of (s_val (v := .int .i64 (((m2 + 1 : Nat) : Int))) (wt0 rfl) rfl rfl (x_move rfl rfl) ?_)
              refine g_nil ?_
              refine g_then ?_
              refine g_round (i := (m2, at9, to9, he9)) ((m2 + 1), at9, to9, he9) ?_ ?_ ?_
              · exact ⟨rfl, rfl, rfl, rfl, rfl, rfl, rfl, rfl, trivial⟩
              · exact ⟨(by omega), (hat.skip (by unfold qC; simp [show x.sh.holds = x.holds from rfl, show x.sh.told = x.told from rfl, hb71])), (H70.takes [0, 1, 2, 3, 4, 5] (by decide))⟩
              · (try dsimp only); omega
            · skip
              refine l_of (s_val (v := .pointer (some ⟨g9, 1, none⟩)) (wt1 rfl rfl rfl rfl hb71) rfl rfl (x_fieldAddr rfl rfl fo61_1 rfl) ?_)
              refine l_of (s_val (v := .slice x.tp x.told.length x.tc) (wt1 rfl rfl rfl rfl hb71) rfl rfl (x_load1 H70 0 rfl rfl Tryd.underlying35 rfl rfl rfl) ?_)
              refine l_of (s_val (v := .int .i64 ((m2 : Int))) (wt1 rfl rfl rfl rfl hb71) rfl rfl (x_move rfl rfl) ?_)
              refine l_of (s_call (wt1 rfl rfl rfl rfl hb71) (x_call' rfl rfl cl27) (in_r x.told x.tp x.told.length x.tc (m2 : Int) (by omega) _ (H70.rdT (k := 3) rfl hx)) ?_)
              rintro _ wq72 ⟨rfl, H73⟩
              replace H73 : S wq72 [Ob g9 (.cells #[.int .i64 (x.id), .slice x.tp x.told.length x.tc, .slice x.hp x.holds.length x.hc] 61 (0, 0)), Ob h (.cells #[.string seed, .int .i64 ((n : Int)), .slice pp rs.length kc] 52 (0, 0)), Rw 61 3 pp rs.length kc (fl shwL rs), (Lst RoI rs), Old w9 no, Old w (fps [(RM.I ⟨h, pp, kc, seed, n, rs⟩), Old w9 no])] := H70.absorb (new := []) H73
              refine b_ret rfl rfl ?_
              refine l_of (s_val (v := .bool ((decide ((m2 : Int) ∈ x.told)))) (wt0 rfl) rfl rfl (x_pick_f rfl rfl hb71 rfl) ?_)
              refine g_nil ?_
              refine g_then ?_
              rcases Bool.eq_false_or_eq_true ((decide ((m2 : Int) ∈ x.told))) with hb74 | hb74
              · skip
                refine g_cond_t rfl hb74 ?_
                refine g_exit ?_
                refine g_then_exit ?_
                refine g_in_hit ?_
                refine g_then ?_
                refine g_weak [(0, .pointer (some ⟨h, 0, none⟩)), (7, .int .i64 ((i : Int))), (8, .pointer (some ⟨g9, 0, none⟩)), (13, .int .i64 at9), (14, .int .i64 to9), (15, .int .i64 he9), (85, .int .i64 ((n : Int))), (86, .int .i64 ((m2 : Int)))] ⟨rfl, rfl, rfl, rfl, rfl, rfl, rfl, rfl, trivial⟩ ?_
                refine g_region ?_
                refine l_of (s_val (v := .int .i64 (((m2 + 1 : Nat) : Int))) (wt0 rfl) rfl rfl (x_bin rfl rfl rfl (b_add (by rw [w64 (by omega)]; omega))) ?_)
                refine l_of (s_val (v := .int .i64 (((m2 + 1 : Nat) : Int))) (wt0 rfl) rfl rfl (x_move rfl rfl) ?_)
                refine g_nil ?_
                refine g_then ?_
                refine g_round (i := (m2, at9, to9, he9)) ((m2 + 1), at9, to9, he9) ?_ ?_ ?_
                · exact ⟨rfl, rfl, rfl, rfl, rfl, rfl, rfl, rfl, trivial⟩
                · exact ⟨(by omega), (hat.skip (by unfold qC; simp [show x.sh.holds = x.holds from rfl, show x.sh.told = x.told from rfl, hb74])), (H73.takes [0, 1, 2, 3, 4, 5] (by decide))⟩
                · (try dsimp only); omega
              · skip
                refine g_cond_f rfl hb74 ?_
                refine g_skip ?_
                refine g_then ?_
                refine g_weak [(0, .pointer (some ⟨h, 0, none⟩)), (7, .int .i64 ((i : Int))), (8, .pointer (some ⟨g9, 0, none⟩)), (13, .int .i64 at9), (14, .int .i64 to9), (15, .int .i64 he9), (16, .int .i64 ((m2 : Int))), (85, .int .i64 ((n : Int))), (86, .int .i64 ((m2 : Int)))] ⟨rfl, rfl, rfl, rfl, rfl, rfl, rfl, rfl, rfl, trivial⟩ ?_
                refine g_seq ?_
                refine g_region ?_
                refine l_of (s_val (v := .pointer (some ⟨h, 0, none⟩)) (wt0 rfl) rfl rfl (x_move rfl rfl) ?_)
                refine l_of (s_val (v := .int .i64 ((m2 : Int))) (wt0 rfl) rfl rfl (x_move rfl rfl) ?_)
                refine l_of (s_call (wt0 rfl) (x_call' rfl rfl cl28) (countsr_s j h pp kc seed n rs hZ hj (m2 : Int) _ (H73.takes [1, 2, 3] (by decide))) ?_)
                rintro _ wq75 ⟨rfl, H76⟩
                replace H76 : S wq75 [Ob h (.cells #[.string seed, .int .i64 ((n : Int)), .slice pp rs.length kc] 52 (0, 0)), Rw 61 3 pp rs.length kc (fl shwL rs), (Lst RoI rs), Ob g9 (.cells #[.int .i64 (x.id), .slice x.tp x.told.length x.tc, .slice x.hp x.holds.length x.hc] 61 (0, 0)), Old w9 no, Old w (fps [(RM.I ⟨h, pp, kc, seed, n, rs⟩), Old w9 no])] := H73.absorbI (new := [Ob h (.cells #[.string seed, .int .i64 ((n : Int)), .slice pp rs.length kc] 52 (0, 0)), Rw 61 3 pp rs.length kc (fl shwL rs), (Lst RoI rs)]) [1, 2, 3] H76
                refine b_ret rfl rfl ?_
                refine l_of (s_val (v := .tuple #[.int .i64 ((tcN (rs.map Shr.sh) (m2 : Int) : Int)), .int .i64 ((hcN (rs.map Shr.sh) (m2 : Int) : Int))]) (wt0 rfl) rfl rfl (x_move rfl rfl) ?_)
                refine l_of (s_val (v := .int .i64 ((tcN (rs.map Shr.sh) (m2 : Int) : Int))) (wt0 rfl) rfl rfl (x_extract rfl rfl rfl) ?_)
                refine l_of (s_val (v := .int .i64 ((hcN (rs.map Shr.sh) (m2 : Int) : Int))) (wt0 rfl) rfl rfl (x_extract rfl rfl rfl) ?_)
                refine l_of (s_val (v := .int .i64 ((tcN (rs.map Shr.sh) (m2 : Int) : Int))) (wt0 rfl) rfl rfl (x_assign rfl rfl) ?_)
                refine l_of (s_val (v := .int .i64 ((hcN (rs.map Shr.sh) (m2 : Int) : Int))) (wt0 rfl) rfl rfl (x_assign rfl rfl) ?_)
                refine g_nil ?_
                refine g_then ?_
                refine g_seq ?_
                refine g_region ?_
                refine l_of (s_val (v := .int .i64 at9) (wt0 rfl) rfl rfl (x_move rfl rfl) ?_)
                refine l_of (s_val (v := .bool (decide ((at9 : Int) < 0))) (wt0 rfl) rfl rfl (x_bin rfl rfl rfl b_lss) ?_)
                refine l_of (s_val (v := .bool (decide ((at9 : Int) < 0))) (wt0 rfl) rfl rfl (x_move rfl rfl) ?_)
                by_cases hb77 : (at9 : Int) < 0
                · skip
                  refine l_of (s_not (wn1 rfl rfl rfl rfl (decide_eq_true hb77)) rfl rfl ?_)
                  refine l_of (s_not (wn1 rfl rfl rfl rfl (decide_eq_true hb77)) rfl rfl ?_)
                  refine l_of (s_not (wn1 rfl rfl rfl rfl (decide_eq_true hb77)) rfl rfl ?_)
                  refine l_of (s_val (v := .bool true) (wt0 rfl) rfl rfl (x_pick_t rfl rfl (decide_eq_true hb77) rfl) ?_)
                  refine l_of (s_val (v := .bool true) (wt0 rfl) rfl rfl (x_move rfl rfl) ?_)
                  refine l_of (s_not (wn1 rfl rfl rfl rfl rfl) rfl rfl ?_)
                  refine l_of (s_not (wn1 rfl rfl rfl rfl rfl) rfl rfl ?_)
                  refine l_of (s_not (wn1 rfl rfl rfl rfl rfl) rfl rfl ?_)
                  refine l_of (s_not (wn1 rfl rfl rfl rfl rfl) rfl rfl ?_)
                  refine l_of (s_not (wn2 rfl rfl rfl rfl) rfl rfl ?_)
                  refine l_of (s_not (wn2 rfl rfl rfl rfl) rfl rfl ?_)
                  refine l_of (s_not (wn2 rfl rfl rfl rfl) rfl rfl ?_)
                  refine l_of (s_not (wn1 rfl rfl rfl rfl rfl) rfl rfl ?_)
                  refine l_of (s_val (v := .bool true) (wt0 rfl) rfl rfl (x_pick_t rfl rfl rfl rfl) ?_)
                  refine l_of (s_val (v := .bool true) (wt0 rfl) rfl rfl (x_move rfl rfl) ?_)
                  refine l_of (s_not (wn1 rfl rfl rfl rfl rfl) rfl rfl ?_)
                  refine l_of (s_not (wn1 rfl rfl rfl rfl rfl) rfl rfl ?_)
                  refine l_of (s_not (wn1 rfl rfl rfl rfl rfl) rfl rfl ?_)
                  refine l_of (s_not (wn1 rfl rfl rfl rfl rfl) rfl rfl ?_)
                  refine l_of (s_not (wn2 rfl rfl rfl rfl) rfl rfl ?_)
                  refine l_of (s_not (wn2 rfl rfl rfl rfl) rfl rfl ?_)
                  refine l_of (s_not (wn2 rfl rfl rfl rfl) rfl rfl ?_)
                  refine l_of (s_not (wn1 rfl rfl rfl rfl rfl) rfl rfl ?_)
                  refine l_of (s_not (wn1 rfl rfl rfl rfl rfl) rfl rfl ?_)
                  refine l_of (s_not (wn2 rfl rfl rfl rfl) rfl rfl ?_)
                  refine l_of (s_not (wn2 rfl rfl rfl rfl) rfl rfl ?_)
                  refine l_of (s_not (wn2 rfl rfl rfl rfl) rfl rfl ?_)
                  refine l_of (s_not (wn2 rfl rfl rfl rfl) rfl rfl ?_)
                  refine l_of (s_not (wn2 rfl rfl rfl rfl) rfl rfl ?_)
                  refine l_of (s_not (wn2 rfl rfl rfl rfl) rfl rfl ?_)
                  refine l_of (s_not (wn2 rfl rfl rfl rfl) rfl rfl ?_)
                  refine l_of (s_not (wn1 rfl rfl rfl rfl rfl) rfl rfl ?_)
                  refine l_of (s_val (v := .bool true) (wt0 rfl) rfl rfl (x_pick_t rfl rfl rfl rfl) ?_)
                  refine g_nil ?_
                  refine g_then ?_
                  refine g_weak [(0, .pointer (some ⟨h, 0, none⟩)), (7, .int .i64 ((i : Int))), (8, .pointer (some ⟨g9, 0, none⟩)), (13, .int .i64 at9), (14, .int .i64 to9), (15, .int .i64 he9), (16, .int .i64 ((m2 : Int))), (17, .int .i64 ((tcN (rs.map Shr.sh) (m2 : Int) : Int))), (18, .int .i64 ((hcN (rs.map Shr.sh) (m2 : Int) : Int))), (85, .int .i64 ((n : Int))), (86, .int .i64 ((m2 : Int))), (140, .bool true)] ⟨rfl, rfl, rfl, rfl, rfl, rfl, rfl, rfl, rfl, rfl, rfl, rfl, trivial⟩ ?_
                  refine g_cond_t rfl rfl ?_
                  refine g_region ?_
                  refine l_of (s_val (v := .int .i64 ((m2 : Int))) (wt0 rfl) rfl rfl (x_move rfl rfl) ?_)
                  refine l_of (s_val (v := .int .i64 ((tcN (rs.map Shr.sh) (m2 : Int) : Int))) (wt0 rfl) rfl rfl (x_move rfl rfl) ?_)
                  refine l_of (s_val (v := .int .i64 ((hcN (rs.map Shr.sh) (m2 : Int) : Int))) (wt0 rfl) rfl rfl (x_move rfl rfl) ?_)
                  refine l_of (s_val (v := .int .i64 ((m2 : Int))) (wt0 rfl) rfl rfl (x_assign rfl rfl) ?_)
                  refine l_of (s_val (v := .int .i64 ((tcN (rs.map Shr.sh) (m2 : Int) : Int))) (wt0 rfl) rfl rfl (x_assign rfl rfl) ?_)
                  refine l_of (s_val (v := .int .i64 ((hcN (rs.map Shr.sh) (m2 : Int) : Int))) (wt0 rfl) rfl rfl (x_assign rfl rfl) ?_)
                  refine g_nil ?_
                  refine g_in ?_
                  refine g_then ?_
                  refine g_region ?_
                  refine l_of (s_val (v := .int .i64 (((m2 + 1 : Nat) : Int))) (wt0 rfl) rfl rfl (x_bin rfl rfl rfl (b_add (by rw [w64 (by omega)]; omega))) ?_)
                  refine l_of (s_val (v := .int .i64 (((m2 + 1 : Nat) : Int))) (wt0 rfl) rfl rfl (x_move rfl rfl) ?_)
                  refine g_nil ?_
                  refine g_then ?_
                  refine g_round (i := (m2, at9, to9, he9)) ((m2 + 1), (m2 : Int), (tcN (rs.map Shr.sh) (m2 : Int) : Int), (hcN (rs.map Shr.sh) (m2 : Int) : Int)) ?_ ?_ ?_
                  · exact ⟨rfl, rfl, rfl, rfl, rfl, rfl, rfl, rfl, trivial⟩
                  · exact ⟨(by omega), (hat.new (by unfold qC; simp [show x.sh.holds = x.holds from rfl, show x.sh.told = x.told from rfl, hb71, hb74]) (by by_cases h9 : at9 < 0; exact .inl h9; exact .inr ((hat.c h9 _).2 (by generalize cmpSt (rankS seed (m2 : Int)) (rankS seed at9) = cz; omega)))), (H76.takes [3, 0, 1, 2, 4, 5] (by decide))⟩
                  · (try dsimp only); omega
                · skip
                  refine l_of (s_val (v := .int .i64 ((tcN (rs.map Shr.sh) (m2 : Int) : Int))) (wt1 rfl rfl rfl rfl (decide_eq_false hb77)) rfl rfl (x_move rfl rfl) ?_)
                  refine l_of (s_val (v := .int .i64 to9) (wt1 rfl rfl rfl rfl (decide_eq_false hb77)) rfl rfl (x_move rfl rfl) ?_)
                  refine l_of (s_val (v := .bool (decide (((tcN (rs.map Shr.sh) (m2 : Int) : Int) : Int) < to9))) (wt1 rfl rfl rfl rfl (decide_eq_false hb77)) rfl rfl (x_bin rfl rfl rfl b_lss) ?_)
                  refine l_of (s_val (v := .bool (decide (((tcN (rs.map Shr.sh) (m2 : Int) : Int) : Int) < to9))) (wt0 rfl) rfl rfl (x_pick_f rfl rfl (decide_eq_false hb77) rfl) ?_)
                  refine l_of (s_val (v := .bool (decide (((tcN (rs.map Shr.sh) (m2 : Int) : Int) : Int) < to9))) (wt0 rfl) rfl rfl (x_move rfl rfl) ?_)
                  by_cases hb78 : ((tcN (rs.map Shr.sh) (m2 : Int) : Int) : Int) < to9
                  · skip
                    refine l_of (s_not (wn1 rfl rfl rfl rfl (decide_eq_true hb78)) rfl rfl ?_)
                    refine l_of (s_not (wn1 rfl rfl rfl rfl (decide_eq_true hb78)) rfl rfl ?_)
                    refine l_of (s_not (wn1 rfl rfl rfl rfl (decide_eq_true hb78)) rfl rfl ?_)
                    refine l_of (s_not (wn1 rfl rfl rfl rfl (decide_eq_true hb78)) rfl rfl ?_)
                    refine l_of (s_not (wn2 rfl rfl rfl rfl) rfl rfl ?_)
                    refine l_of (s_not (wn2 rfl rfl rfl rfl) rfl rfl ?_)
                    refine l_of (s_not (wn2 rfl rfl rfl rfl) rfl rfl ?_)
                    refine l_of (s_not (wn1 rfl rfl rfl rfl (decide_eq_true hb78)) rfl rfl ?_)
                    refine l_of (s_val (v := .bool true) (wt0 rfl) rfl rfl (x_pick_t rfl rfl (decide_eq_true hb78) rfl) ?_)
                    refine l_of (s_val (v := .bool true) (wt0 rfl) rfl rfl (x_move rfl rfl) ?_)
                    refine l_of (s_not (wn1 rfl rfl rfl rfl rfl) rfl rfl ?_)
                    refine l_of (s_not (wn1 rfl rfl rfl rfl rfl) rfl rfl ?_)
                    refine l_of (s_not (wn1 rfl rfl rfl rfl rfl) rfl rfl ?_)
                    refine l_of (s_not (wn1 rfl rfl rfl rfl rfl) rfl rfl ?_)
                    refine l_of (s_not (wn2 rfl rfl rfl rfl) rfl rfl ?_)
                    refine l_of (s_not (wn2 rfl rfl rfl rfl) rfl rfl ?_)
                    refine l_of (s_not (wn2 rfl rfl rfl rfl) rfl rfl ?_)
                    refine l_of (s_not (wn1 rfl rfl rfl rfl rfl) rfl rfl ?_)
                    refine l_of (s_not (wn1 rfl rfl rfl rfl rfl) rfl rfl ?_)
                    refine l_of (s_not (wn2 rfl rfl rfl rfl) rfl rfl ?_)
                    refine l_of (s_not (wn2 rfl rfl rfl rfl) rfl rfl ?_)
                    refine l_of (s_not (wn2 rfl rfl rfl rfl) rfl rfl ?_)
                    refine l_of (s_not (wn2 rfl rfl rfl rfl) rfl rfl ?_)
                    refine l_of (s_not (wn2 rfl rfl rfl rfl) rfl rfl ?_)
                    refine l_of (s_not (wn2 rfl rfl rfl rfl) rfl rfl ?_)
                    refine l_of (s_not (wn2 rfl rfl rfl rfl) rfl rfl ?_)
                    refine l_of (s_not (wn1 rfl rfl rfl rfl rfl) rfl rfl ?_)
                    refine l_of (s_val (v := .bool true) (wt0 rfl) rfl rfl (x_pick_t rfl rfl rfl rfl) ?_)
                    refine g_nil ?_
                    refine g_then ?_
                    refine g_weak [(0, .pointer (some ⟨h, 0, none⟩)), (7, .int .i64 ((i : Int))), (8, .pointer (some ⟨g9, 0, none⟩)), (13, .int .i64 at9), (14, .int .i64 to9), (15, .int .i64 he9), (16, .int .i64 ((m2 : Int))), (17, .int .i64 ((tcN (rs.map Shr.sh) (m2 : Int) : Int))), (18, .int .i64 ((hcN (rs.map Shr.sh) (m2 : Int) : Int))), (85, .int .i64 ((n : Int))), (86, .int .i64 ((m2 : Int))), (140, .bool true)] ⟨rfl, rfl, rfl, rfl, rfl, rfl, rfl, rfl, rfl, rfl, rfl, rfl, trivial⟩ ?_
                    refine g_cond_t rfl rfl ?_
                    refine g_region ?_
                    refine l_of (s_val (v := .int .i64 ((m2 : Int))) (wt0 rfl) rfl rfl (x_move rfl rfl) ?_)
                    refine l_of (s_val (v := .int .i64 ((tcN (rs.map Shr.sh) (m2 : Int) : Int))) (wt0 rfl) rfl rfl (x_move rfl rfl) ?_)
                    refine l_of (s_val (v := .int .i64 ((hcN (rs.map Shr.sh) (m2 : Int) : Int))) (wt0 rfl) rfl rfl (x_move rfl rfl) ?_)
                    refine l_of (s_val (v := .int .i64 ((m2 : Int))) (wt0 rfl) rfl rfl (x_assign rfl rfl) ?_)
                    refine l_of (s_val (v := .int .i64 ((tcN (rs.map Shr.sh) (m2 : Int) : Int))) (wt0 rfl) rfl rfl (x_assign rfl rfl) ?_)
                    refine l_of (s_val (v := .int .i64 ((hcN (rs.map Shr.sh) (m2 : Int) : Int))) (wt0 rfl) rfl rfl (x_assign rfl rfl) ?_)
                    refine g_nil ?_
                    refine g_in ?_
                    refine g_then ?_
                    refine g_region ?_
                    refine l_of (s_val (v := .int .i64 (((m2 + 1 : Nat) : Int))) (wt0 rfl) rfl rfl (x_bin rfl rfl rfl (b_add (by rw [w64 (by omega)]; omega))) ?_)
                    refine l_of (s_val (v := .int .i64 (((m2 + 1 : Nat) : Int))) (wt0 rfl) rfl rfl (x_move rfl rfl) ?_)
                    refine g_nil ?_
                    refine g_then ?_
                    refine g_round (i := (m2, at9, to9, he9)) ((m2 + 1), (m2 : Int), (tcN (rs.map Shr.sh) (m2 : Int) : Int), (hcN (rs.map Shr.sh) (m2 : Int) : Int)) ?_ ?_ ?_
                    · exact ⟨rfl, rfl, rfl, rfl, rfl, rfl, rfl, rfl, trivial⟩
                    · exact ⟨(by omega), (hat.new (by unfold qC; simp [show x.sh.holds = x.holds from rfl, show x.sh.told = x.told from rfl, hb71, hb74]) (by by_cases h9 : at9 < 0; exact .inl h9; exact .inr ((hat.c h9 _).2 (by generalize cmpSt (rankS seed (m2 : Int)) (rankS seed at9) = cz; omega)))), (H76.takes [3, 0, 1, 2, 4, 5] (by decide))⟩
                    · (try dsimp only); omega
                  · skip
                    refine l_of (s_val (v := .int .i64 ((tcN (rs.map Shr.sh) (m2 : Int) : Int))) (wt1 rfl rfl rfl rfl (decide_eq_false hb78)) rfl rfl (x_move rfl rfl) ?_)
                    refine l_of (s_val (v := .int .i64 to9) (wt1 rfl rfl rfl rfl (decide_eq_false hb78)) rfl rfl (x_move rfl rfl) ?_)
                    refine l_of (s_val (v := .bool (decide (((tcN (rs.map Shr.sh) (m2 : Int) : Int) : Int) = to9))) (wt1 rfl rfl rfl rfl (decide_eq_false hb78)) rfl rfl (x_bin rfl rfl rfl b_eql) ?_)
                    refine l_of (s_val (v := .bool (decide (((tcN (rs.map Shr.sh) (m2 : Int) : Int) : Int) = to9))) (wt1 rfl rfl rfl rfl (decide_eq_false hb78)) rfl rfl (x_move rfl rfl) ?_)
                    by_cases hb79 : ((tcN (rs.map Shr.sh) (m2 : Int) : Int) : Int) = to9
                    · skip
                      refine l_of (s_val (v := .int .i64 ((hcN (rs.map Shr.sh) (m2 : Int) : Int))) (wt1 rfl rfl rfl rfl (decide_eq_true hb79)) rfl rfl (x_move rfl rfl) ?_)
                      refine l_of (s_val (v := .int .i64 he9) (wt1 rfl rfl rfl rfl (decide_eq_true hb79)) rfl rfl (x_move rfl rfl) ?_)
                      refine l_of (s_val (v := .bool (decide (((hcN (rs.map Shr.sh) (m2 : Int) : Int) : Int) < he9))) (wt1 rfl rfl rfl rfl (decide_eq_true hb79)) rfl rfl (x_bin rfl rfl rfl b_lss) ?_)
                      refine l_of (s_val (v := .bool (decide (((hcN (rs.map Shr.sh) (m2 : Int) : Int) : Int) < he9))) (wt1 rfl rfl rfl rfl (decide_eq_false hb78)) rfl rfl (x_pick_t rfl rfl (decide_eq_true hb79) rfl) ?_)
                      refine l_of (s_val (v := .bool (decide (((hcN (rs.map Shr.sh) (m2 : Int) : Int) : Int) < he9))) (wt0 rfl) rfl rfl (x_pick_f rfl rfl (decide_eq_false hb78) rfl) ?_)
                      refine l_of (s_val (v := .bool (decide (((hcN (rs.map Shr.sh) (m2 : Int) : Int) : Int) < he9))) (wt0 rfl) rfl rfl (x_move rfl rfl) ?_)
                      by_cases hb80 : ((hcN (rs.map Shr.sh) (m2 : Int) : Int) : Int) < he9
                      · skip
                        refine l_of (s_not (wn1 rfl rfl rfl rfl (decide_eq_true hb80)) rfl rfl ?_)
                        refine l_of (s_not (wn1 rfl rfl rfl rfl (decide_eq_true hb80)) rfl rfl ?_)
                        refine l_of (s_not (wn1 rfl rfl rfl rfl (decide_eq_true hb80)) rfl rfl ?_)
                        refine l_of (s_not (wn1 rfl rfl rfl rfl (decide_eq_true hb80)) rfl rfl ?_)
                        refine l_of (s_not (wn2 rfl rfl rfl rfl) rfl rfl ?_)
                        refine l_of (s_not (wn2 rfl rfl rfl rfl) rfl rfl ?_)
                        refine l_of (s_not (wn2 rfl rfl rfl rfl) rfl rfl ?_)
                        refine l_of (s_not (wn1 rfl rfl rfl rfl (decide_eq_true hb80)) rfl rfl ?_)
                        refine l_of (s_not (wn1 rfl rfl rfl rfl (decide_eq_true hb80)) rfl rfl ?_)
                        refine l_of (s_not (wn2 rfl rfl rfl rfl) rfl rfl ?_)
                        refine l_of (s_not (wn2 rfl rfl rfl rfl) rfl rfl ?_)
                        refine l_of (s_not (wn2 rfl rfl rfl rfl) rfl rfl ?_)
                        refine l_of (s_not (wn2 rfl rfl rfl rfl) rfl rfl ?_)
                        refine l_of (s_not (wn2 rfl rfl rfl rfl) rfl rfl ?_)
                        refine l_of (s_not (wn2 rfl rfl rfl rfl) rfl rfl ?_)
                        refine l_of (s_not (wn2 rfl rfl rfl rfl) rfl rfl ?_)
                        refine l_of (s_not (wn1 rfl rfl rfl rfl (decide_eq_true hb80)) rfl rfl ?_)
                        refine l_of (s_val (v := .bool true) (wt0 rfl) rfl rfl (x_pick_t rfl rfl (decide_eq_true hb80) rfl) ?_)
                        refine g_nil ?_
                        refine g_then ?_
                        refine g_weak [(0, .pointer (some ⟨h, 0, none⟩)), (7, .int .i64 ((i : Int))), (8, .pointer (some ⟨g9, 0, none⟩)), (13, .int .i64 at9), (14, .int .i64 to9), (15, .int .i64 he9), (16, .int .i64 ((m2 : Int))), (17, .int .i64 ((tcN (rs.map Shr.sh) (m2 : Int) : Int))), (18, .int .i64 ((hcN (rs.map Shr.sh) (m2 : Int) : Int))), (85, .int .i64 ((n : Int))), (86, .int .i64 ((m2 : Int))), (140, .bool true)] ⟨rfl, rfl, rfl, rfl, rfl, rfl, rfl, rfl, rfl, rfl, rfl, rfl, trivial⟩ ?_
                        refine g_cond_t rfl rfl ?_
                        refine g_region ?_
                        refine l_of (s_val (v := .int .i64 ((m2 : Int))) (wt0 rfl) rfl rfl (x_move rfl rfl) ?_)
                        refine l_of (s_val (v := .int .i64 ((tcN (rs.map Shr.sh) (m2 : Int) : Int))) (wt0 rfl) rfl rfl (x_move rfl rfl) ?_)
                        refine l_of (s_val (v := .int .i64 ((hcN (rs.map Shr.sh) (m2 : Int) : Int))) (wt0 rfl) rfl rfl (x_move rfl rfl) ?_)
                        refine l_of (s_val (v := .int .i64 ((m2 : Int))) (wt0 rfl) rfl rfl (x_assign rfl rfl) ?_)
                        refine l_of (s_val (v := .int .i64 ((tcN (rs.map Shr.sh) (m2 : Int) : Int))) (wt0 rfl) rfl rfl (x_assign rfl rfl) ?_)
                        refine l_of (s_val (v := .int .i64 ((hcN (rs.map Shr.sh) (m2 : Int) : Int))) (wt0 rfl) rfl rfl (x_assign rfl rfl) ?_)
                        refine g_nil ?_
                        refine g_in ?_
                        refine g_then ?_
                        refine g_region ?_
                        refine l_of (s_val (v := .int .i64 (((m2 + 1 : Nat) : Int))) (wt0 rfl) rfl rfl (x_bin rfl rfl rfl (b_add (by rw [w64 (by omega)]; omega))) ?_)
                        refine l_of (s_val (v := .int .i64 (((m2 + 1 : Nat) : Int))) (wt0 rfl) rfl rfl (x_move rfl rfl) ?_)
                        refine g_nil ?_
                        refine g_then ?_
                        refine g_round (i := (m2, at9, to9, he9)) ((m2 + 1), (m2 : Int), (tcN (rs.map Shr.sh) (m2 : Int) : Int), (hcN (rs.map Shr.sh) (m2 : Int) : Int)) ?_ ?_ ?_
                        · exact ⟨rfl, rfl, rfl, rfl, rfl, rfl, rfl, rfl, trivial⟩
                        · exact ⟨(by omega), (hat.new (by unfold qC; simp [show x.sh.holds = x.holds from rfl, show x.sh.told = x.told from rfl, hb71, hb74]) (by by_cases h9 : at9 < 0; exact .inl h9; exact .inr ((hat.c h9 _).2 (by generalize cmpSt (rankS seed (m2 : Int)) (rankS seed at9) = cz; omega)))), (H76.takes [3, 0, 1, 2, 4, 5] (by decide))⟩
                        · (try dsimp only); omega
                      · skip
                        refine l_of (s_val (v := .int .i64 ((tcN (rs.map Shr.sh) (m2 : Int) : Int))) (wt1 rfl rfl rfl rfl (decide_eq_false hb80)) rfl rfl (x_move rfl rfl) ?_)
                        refine l_of (s_val (v := .int .i64 to9) (wt1 rfl rfl rfl rfl (decide_eq_false hb80)) rfl rfl (x_move rfl rfl) ?_)
                        refine l_of (s_val (v := .bool (decide (((tcN (rs.map Shr.sh) (m2 : Int) : Int) : Int) = to9))) (wt1 rfl rfl rfl rfl (decide_eq_false hb80)) rfl rfl (x_bin rfl rfl rfl b_eql) ?_)
                        refine l_of (s_val (v := .bool (decide (((tcN (rs.map Shr.sh) (m2 : Int) : Int) : Int) = to9))) (wt1 rfl rfl rfl rfl (decide_eq_false hb80)) rfl rfl (x_move rfl rfl) ?_)
                        refine l_of (s_val (v := .int .i64 ((hcN (rs.map Shr.sh) (m2 : Int) : Int))) (wt1 rfl rfl rfl rfl (decide_eq_true hb79)) rfl rfl (x_move rfl rfl) ?_)
                        refine l_of (s_val (v := .int .i64 he9) (wt1 rfl rfl rfl rfl (decide_eq_true hb79)) rfl rfl (x_move rfl rfl) ?_)
                        refine l_of (s_val (v := .bool (decide (((hcN (rs.map Shr.sh) (m2 : Int) : Int) : Int) = he9))) (wt1 rfl rfl rfl rfl (decide_eq_true hb79)) rfl rfl (x_bin rfl rfl rfl b_eql) ?_)
                        refine l_of (s_val (v := .bool (decide (((hcN (rs.map Shr.sh) (m2 : Int) : Int) : Int) = he9))) (wt1 rfl rfl rfl rfl (decide_eq_false hb80)) rfl rfl (x_pick_t rfl rfl (decide_eq_true hb79) rfl) ?_)
                        refine l_of (s_val (v := .bool (decide (((hcN (rs.map Shr.sh) (m2 : Int) : Int) : Int) = he9))) (wt1 rfl rfl rfl rfl (decide_eq_false hb80)) rfl rfl (x_move rfl rfl) ?_)
                        by_cases hb81 : ((hcN (rs.map Shr.sh) (m2 : Int) : Int) : Int) = he9
                        · skip
                          refine l_of (s_val (v := .pointer (some ⟨h, 0, none⟩)) (wt1 rfl rfl rfl rfl (decide_eq_true hb81)) rfl rfl (x_move rfl rfl) ?_)
                          refine l_of (s_val (v := .int .i64 ((m2 : Int))) (wt1 rfl rfl rfl rfl (decide_eq_true hb81)) rfl rfl (x_move rfl rfl) ?_)
                          refine l_of (s_call (wt1 rfl rfl rfl rfl (decide_eq_true hb81)) (x_call' rfl rfl cl37) (rankr_s h pp kc seed n rs hPI.sd (m2 : Int) ⟨by omega, by omega⟩ w9 ht _ (H76.takes [0, 4] (by decide))) ?_)
                          rintro _ wq82 ⟨rfl, H83⟩
                          replace H83 : S wq82 [Ob h (.cells #[.string seed, .int .i64 ((n : Int)), .slice pp rs.length kc] 52 (0, 0)), Old w9 no, Rw 61 3 pp rs.length kc (fl shwL rs), (Lst RoI rs), Ob g9 (.cells #[.int .i64 (x.id), .slice x.tp x.told.length x.tc, .slice x.hp x.holds.length x.hc] 61 (0, 0)), Old w (fps [(RM.I ⟨h, pp, kc, seed, n, rs⟩), Old w9 no])] := H76.absorbI (new := [Ob h (.cells #[.string seed, .int .i64 ((n : Int)), .slice pp rs.length kc] 52 (0, 0)), Old w9 no]) [0, 4] H83
                          refine b_ret rfl rfl ?_
                          refine l_of (s_val (v := .pointer (some ⟨h, 0, none⟩)) (wt1 rfl rfl rfl rfl (decide_eq_true hb81)) rfl rfl (x_move rfl rfl) ?_)
                          refine l_of (s_val (v := .int .i64 at9) (wt1 rfl rfl rfl rfl (decide_eq_true hb81)) rfl rfl (x_move rfl rfl) ?_)
                          refine l_of (s_call (wt1 rfl rfl rfl rfl (decide_eq_true hb81)) (x_call' rfl rfl cl37) (rankr_s h pp kc seed n rs hPI.sd at9 (by have := hat.rng (by omega); omega) w9 ht _ (H83.takes [0, 1] (by decide))) ?_)
                          rintro _ wq84 ⟨rfl, H85⟩
                          replace H85 : S wq84 [Ob h (.cells #[.string seed, .int .i64 ((n : Int)), .slice pp rs.length kc] 52 (0, 0)), Old w9 no, Rw 61 3 pp rs.length kc (fl shwL rs), (Lst RoI rs), Ob g9 (.cells #[.int .i64 (x.id), .slice x.tp x.told.length x.tc, .slice x.hp x.holds.length x.hc] 61 (0, 0)), Old w (fps [(RM.I ⟨h, pp, kc, seed, n, rs⟩), Old w9 no])] := H83.absorbI (new := [Ob h (.cells #[.string seed, .int .i64 ((n : Int)), .slice pp rs.length kc] 52 (0, 0)), Old w9 no]) [0, 1] H85
                          refine b_ret rfl rfl ?_
                          obtain ⟨cz, hcz⟩ : ∃ cz : Int, cmpSt (rankS seed (m2 : Int)) (rankS seed at9) = cz := ⟨_, rfl⟩
                          refine l_of (s_val (v := .bool (decide (cz < 0))) (wt1 rfl rfl rfl rfl (decide_eq_true hb81)) rfl rfl (ex_cast (x_bin rfl rfl rfl b_lsS) (by rw [hcz])) ?_)
                          refine l_of (s_val (v := .bool (decide (cz < 0))) (wt1 rfl rfl rfl rfl (decide_eq_false hb80)) rfl rfl (x_pick_t rfl rfl (decide_eq_true hb81) rfl) ?_)
                          refine l_of (s_val (v := .bool (decide (cz < 0))) (wt0 rfl) rfl rfl (x_pick_f rfl rfl (decide_eq_false hb80) rfl) ?_)
                          refine g_nil ?_
                          refine g_then ?_
                          refine g_weak [(0, .pointer (some ⟨h, 0, none⟩)), (7, .int .i64 ((i : Int))), (8, .pointer (some ⟨g9, 0, none⟩)), (13, .int .i64 at9), (14, .int .i64 to9), (15, .int .i64 he9), (16, .int .i64 ((m2 : Int))), (17, .int .i64 ((tcN (rs.map Shr.sh) (m2 : Int) : Int))), (18, .int .i64 ((hcN (rs.map Shr.sh) (m2 : Int) : Int))), (85, .int .i64 ((n : Int))), (86, .int .i64 ((m2 : Int))), (140, .bool (decide (cz < 0)))] ⟨rfl, rfl, rfl, rfl, rfl, rfl, rfl, rfl, rfl, rfl, rfl, rfl, trivial⟩ ?_
                          by_cases hb86 : cz < 0
                          · skip
                            refine g_cond_t rfl (decide_eq_true hb86) ?_
                            refine g_region ?_
                            refine l_of (s_val (v := .int .i64 ((m2 : Int))) (wt0 rfl) rfl rfl (x_move rfl rfl) ?_)
                            refine l_of (s_val (v := .int .i64 ((tcN (rs.map Shr.sh) (m2 : Int) : Int))) (wt0 rfl) rfl rfl (x_move rfl rfl) ?_)
                            refine l_of (s_val (v := .int .i64 ((hcN (rs.map Shr.sh) (m2 : Int) : Int))) (wt0 rfl) rfl rfl (x_move rfl rfl) ?_)
                            refine l_of (s_val (v := .int .i64 ((m2 : Int))) (wt0 rfl) rfl rfl (x_assign rfl rfl) ?_)
                            refine l_of (s_val (v := .int .i64 ((tcN (rs.map Shr.sh) (m2 : Int) : Int))) (wt0 rfl) rfl rfl (x_assign rfl rfl) ?_)
                            refine l_of (s_val (v := .int .i64 ((hcN (rs.map Shr.sh) (m2 : Int) : Int))) (wt0 rfl) rfl rfl (x_assign rfl rfl) ?_)
                            refine g_nil ?_
                            refine g_in ?_
                            refine g_then ?_
                            refine g_region ?_
                            refine l_of (s_val (v := .int .i64 (((m2 + 1 : Nat) : Int))) (wt0 rfl) rfl rfl (x_bin rfl rfl rfl (b_add (by rw [w64 (by omega)]; omega))) ?_)
                            refine l_of (s_val (v := .int .i64 (((m2 + 1 : Nat) : Int))) (wt0 rfl) rfl rfl (x_move rfl rfl) ?_)
                            refine g_nil ?_
                            refine g_then ?_
                            refine g_round (i := (m2, at9, to9, he9)) ((m2 + 1), (m2 : Int), (tcN (rs.map Shr.sh) (m2 : Int) : Int), (hcN (rs.map Shr.sh) (m2 : Int) : Int)) ?_ ?_ ?_
                            · exact ⟨rfl, rfl, rfl, rfl, rfl, rfl, rfl, rfl, trivial⟩
                            · exact ⟨(by omega), (hat.new (by unfold qC; simp [show x.sh.holds = x.holds from rfl, show x.sh.told = x.told from rfl, hb71, hb74]) (by by_cases h9 : at9 < 0; exact .inl h9; exact .inr ((hat.c h9 _).2 (by rw [hcz]; omega)))), (H85.takes [4, 0, 2, 3, 1, 5] (by decide))⟩
                            · (try dsimp only); omega
                          · skip
                            refine g_cond_f rfl (decide_eq_false hb86) ?_
                            refine g_skip ?_
                            refine g_in ?_
                            refine g_then ?_
                            refine g_region ?_
                            refine l_of (s_val (v := .int .i64 (((m2 + 1 : Nat) : Int))) (wt0 rfl) rfl rfl (x_bin rfl rfl rfl (b_add (by rw [w64 (by omega)]; omega))) ?_)
                            refine l_of (s_val (v := .int .i64 (((m2 + 1 : Nat) : Int))) (wt0 rfl) rfl rfl (x_move rfl rfl) ?_)
                            refine g_nil ?_
                            refine g_then ?_
                            refine g_round (i := (m2, at9, to9, he9)) ((m2 + 1), at9, to9, he9) ?_ ?_ ?_
                            · exact ⟨rfl, rfl, rfl, rfl, rfl, rfl, rfl, rfl, trivial⟩
                            · exact ⟨(by omega), (hat.old (by unfold qC; simp [show x.sh.holds = x.holds from rfl, show x.sh.told = x.told from rfl, hb71, hb74]) (by omega) (fun h9 => by have h8 := (hat.c (by omega) _).1 h9; rw [hcz] at h8; omega)), (H85.takes [4, 0, 2, 3, 1, 5] (by decide))⟩
                            · (try dsimp only); omega
                        · skip
                          refine l_of (s_not (wn1 rfl rfl rfl rfl (decide_eq_false hb81)) rfl rfl ?_)
                          refine l_of (s_not (wn1 rfl rfl rfl rfl (decide_eq_false hb81)) rfl rfl ?_)
                          refine l_of (s_not (wn1 rfl rfl rfl rfl (decide_eq_false hb81)) rfl rfl ?_)
                          refine l_of (s_not (wn1 rfl rfl rfl rfl (decide_eq_false hb81)) rfl rfl ?_)
                          refine l_of (s_not (wn1 rfl rfl rfl rfl (decide_eq_false hb81)) rfl rfl ?_)
                          refine l_of (s_not (wn1 rfl rfl rfl rfl (decide_eq_false hb81)) rfl rfl ?_)
                          refine l_of (s_not (wn1 rfl rfl rfl rfl (decide_eq_false hb81)) rfl rfl ?_)
                          refine l_of (s_val (v := .bool false) (wt1 rfl rfl rfl rfl (decide_eq_false hb80)) rfl rfl (x_pick_f rfl rfl (decide_eq_false hb81) rfl) ?_)
                          refine l_of (s_val (v := .bool false) (wt0 rfl) rfl rfl (x_pick_f rfl rfl (decide_eq_false hb80) rfl) ?_)
                          refine g_nil ?_
                          refine g_then ?_
                          refine g_weak [(0, .pointer (some ⟨h, 0, none⟩)), (7, .int .i64 ((i : Int))), (8, .pointer (some ⟨g9, 0, none⟩)), (13, .int .i64 at9), (14, .int .i64 to9), (15, .int .i64 he9), (16, .int .i64 ((m2 : Int))), (17, .int .i64 ((tcN (rs.map Shr.sh) (m2 : Int) : Int))), (18, .int .i64 ((hcN (rs.map Shr.sh) (m2 : Int) : Int))), (85, .int .i64 ((n : Int))), (86, .int .i64 ((m2 : Int))), (140, .bool false)] ⟨rfl, rfl, rfl, rfl, rfl, rfl, rfl, rfl, rfl, rfl, rfl, rfl, trivial⟩ ?_
                          refine g_cond_f rfl rfl ?_
                          refine g_skip ?_
                          refine g_in ?_
                          refine g_then ?_
                          refine g_region ?_
                          refine l_of (s_val (v := .int .i64 (((m2 + 1 : Nat) : Int))) (wt0 rfl) rfl rfl (x_bin rfl rfl rfl (b_add (by rw [w64 (by omega)]; omega))) ?_)
                          refine l_of (s_val (v := .int .i64 (((m2 + 1 : Nat) : Int))) (wt0 rfl) rfl rfl (x_move rfl rfl) ?_)
                          refine g_nil ?_
                          refine g_then ?_
                          refine g_round (i := (m2, at9, to9, he9)) ((m2 + 1), at9, to9, he9) ?_ ?_ ?_
                          · exact ⟨rfl, rfl, rfl, rfl, rfl, rfl, rfl, rfl, trivial⟩
                          · exact ⟨(by omega), (hat.old (by unfold qC; simp [show x.sh.holds = x.holds from rfl, show x.sh.told = x.told from rfl, hb71, hb74]) (by omega) (fun h9 => by have h8 := (hat.c (by omega) _).1 h9; generalize cmpSt (rankS seed (m2 : Int)) (rankS seed at9) = cz at h8; omega)), (H76.takes [3, 0, 1, 2, 4, 5] (by decide))⟩
                          · (try dsimp only); omega
                    · skip
                      refine l_of (s_not (wn1 rfl rfl rfl rfl (decide_eq_false hb79)) rfl rfl ?_)
                      refine l_of (s_not (wn1 rfl rfl rfl rfl (decide_eq_false hb79)) rfl rfl ?_)
                      refine l_of (s_not (wn1 rfl rfl rfl rfl (decide_eq_false hb79)) rfl rfl ?_)
                      refine l_of (s_val (v := .bool false) (wt1 rfl rfl rfl rfl (decide_eq_false hb78)) rfl rfl (x_pick_f rfl rfl (decide_eq_false hb79) rfl) ?_)
                      refine l_of (s_val (v := .bool false) (wt0 rfl) rfl rfl (x_pick_f rfl rfl (decide_eq_false hb78) rfl) ?_)
                      refine l_of (s_val (v := .bool false) (wt0 rfl) rfl rfl (x_move rfl rfl) ?_)
                      refine l_of (s_val (v := .int .i64 ((tcN (rs.map Shr.sh) (m2 : Int) : Int))) (wt1 rfl rfl rfl rfl rfl) rfl rfl (x_move rfl rfl) ?_)
                      refine l_of (s_val (v := .int .i64 to9) (wt1 rfl rfl rfl rfl rfl) rfl rfl (x_move rfl rfl) ?_)
                      refine l_of (s_val (v := .bool (decide (((tcN (rs.map Shr.sh) (m2 : Int) : Int) : Int) = to9))) (wt1 rfl rfl rfl rfl rfl) rfl rfl (x_bin rfl rfl rfl b_eql) ?_)
                      refine l_of (s_val (v := .bool (decide (((tcN (rs.map Shr.sh) (m2 : Int) : Int) : Int) = to9))) (wt1 rfl rfl rfl rfl rfl) rfl rfl (x_move rfl rfl) ?_)
                      refine l_of (s_not (wn1 rfl rfl rfl rfl (decide_eq_false hb79)) rfl rfl ?_)
                      refine l_of (s_not (wn1 rfl rfl rfl rfl (decide_eq_false hb79)) rfl rfl ?_)
                      refine l_of (s_not (wn1 rfl rfl rfl rfl (decide_eq_false hb79)) rfl rfl ?_)
                      refine l_of (s_val (v := .bool false) (wt1 rfl rfl rfl rfl rfl) rfl rfl (x_pick_f rfl rfl (decide_eq_false hb79) rfl) ?_)
                      refine l_of (s_val (v := .bool false) (wt1 rfl rfl rfl rfl rfl) rfl rfl (x_move rfl rfl) ?_)
                      refine l_of (s_not (wn1 rfl rfl rfl rfl rfl) rfl rfl ?_)
                      refine l_of (s_not (wn1 rfl rfl rfl rfl rfl) rfl rfl ?_)
                      refine l_of (s_not (wn1 rfl rfl rfl rfl rfl) rfl rfl ?_)
                      refine l_of (s_not (wn1 rfl rfl rfl rfl rfl) rfl rfl ?_)
                      refine l_of (s_not (wn1 rfl rfl rfl rfl rfl) rfl rfl ?_)
                      refine l_of (s_not (wn1 rfl rfl rfl rfl rfl) rfl rfl ?_)
                      refine l_of (s_not (wn1 rfl rfl rfl rfl rfl) rfl rfl ?_)
                      refine l_of (s_val (v := .bool false) (wt1 rfl rfl rfl rfl rfl) rfl rfl (x_pick_f rfl rfl rfl rfl) ?_)
                      refine l_of (s_val (v := .bool false) (wt0 rfl) rfl rfl (x_pick_f rfl rfl rfl rfl) ?_)
                      refine g_nil ?_
                      refine g_then ?_
                      refine g_weak [(0, .pointer (some ⟨h, 0, none⟩)), (7, .int .i64 ((i : Int))), (8, .pointer (some ⟨g9, 0, none⟩)), (13, .int .i64 at9), (14, .int .i64 to9), (15, .int .i64 he9), (16, .int .i64 ((m2 : Int))), (17, .int .i64 ((tcN (rs.map Shr.sh) (m2 : Int) : Int))), (18, .int .i64 ((hcN (rs.map Shr.sh) (m2 : Int) : Int))), (85, .int .i64 ((n : Int))), (86, .int .i64 ((m2 : Int))), (140, .bool false)] ⟨rfl, rfl, rfl, rfl, rfl, rfl, rfl, rfl, rfl, rfl, rfl, rfl, trivial⟩ ?_
                      refine g_cond_f rfl rfl ?_
                      refine g_skip ?_
                      refine g_in ?_
                      refine g_then ?_
                      refine g_region ?_
                      refine l_of (s_val (v := .int .i64 (((m2 + 1 : Nat) : Int))) (wt0 rfl) rfl rfl (x_bin rfl rfl rfl (b_add (by rw [w64 (by omega)]; omega))) ?_)
                      refine l_of (s_val (v := .int .i64 (((m2 + 1 : Nat) : Int))) (wt0 rfl) rfl rfl (x_move rfl rfl) ?_)
                      refine g_nil ?_
                      refine g_then ?_
                      refine g_round (i := (m2, at9, to9, he9)) ((m2 + 1), at9, to9, he9) ?_ ?_ ?_
                      · exact ⟨rfl, rfl, rfl, rfl, rfl, rfl, rfl, rfl, trivial⟩
                      · exact ⟨(by omega), (hat.old (by unfold qC; simp [show x.sh.holds = x.holds from rfl, show x.sh.told = x.told from rfl, hb71, hb74]) (by omega) (fun h9 => by have h8 := (hat.c (by omega) _).1 h9; generalize cmpSt (rankS seed (m2 : Int)) (rankS seed at9) = cz at h8; omega)), (H76.takes [3, 0, 1, 2, 4, 5] (by decide))⟩
                      · (try dsimp only); omega
          · skip
            refine g_cond_f rfl (decide_eq_false hb68) ?_
            refine g_exit ?_
            refine g_then_exit ?_
            refine g_then_exit ?_
            refine g_in_hit ?_
            refine g_then ?_
            refine g_seq ?_
            refine g_seq ?_
            refine g_region ?_
            refine l_of (s_val (v := .int .i64 at9) (wt0 rfl) rfl rfl (x_move rfl rfl) ?_)
            refine l_of (s_val (v := .bool (decide ((at9 : Int) < 0))) (wt0 rfl) rfl rfl (x_bin rfl rfl rfl b_lss) ?_)
            refine g_nil ?_
            refine g_then ?_
            by_cases hb87 : (at9 : Int) < 0
            · skip
              refine g_cond_t rfl (decide_eq_true hb87) ?_
              refine g_seq ?_
              refine g_region ?_
              refine l_of (s_val (v := .int .i64 0) (wt0 rfl) rfl rfl (x_assign rfl rfl) ?_)
              refine l_of (s_val (v := .int .i64 9) (wt0 rfl) rfl rfl (x_assign rfl rfl) ?_)
              refine g_nil ?_
              refine g_then ?_
              refine g_ret ?_
              refine g_then_ret ?_
              refine fin_ret [.tmp 4, .tmp 5] [.int .i64 0, .int .i64 9] rfl ⟨rfl, rfl, trivial⟩ ?_
              have hnE : nextE (⟨seed, n, rs.map Shr.sh⟩ : SP) id = if waitB (⟨seed, n, rs.map Shr.sh⟩ : SP) x.sh = true then 9 else if candM x.sh n = [] then 9 else 0 := by unfold nextE; rw [show fnd (SP.ps (⟨seed, n, rs.map Shr.sh⟩ : SP)) id = some i from hf]; show (if waitB (⟨seed, n, rs.map Shr.sh⟩ : SP) (getP (⟨seed, n, rs.map Shr.sh⟩ : SP) i) = true then (9 : Int) else if candM (getP (⟨seed, n, rs.map Shr.sh⟩ : SP) i) n = [] then 9 else 0) = _; rw [hg9]
              rw [show (m2 : Nat) = n from by omega] at hat
              have hce : candM x.sh n = [] := by rcases hat with h9 | h9; exact h9.2; omega
              have hv : nextE (⟨seed, n, rs.map Shr.sh⟩ : SP) id = 9 := by rw [hnE, if_neg (by rw [hwf]; decide)]; exact if_pos hce
              have hE : nextE (⟨seed, n, rs.map Shr.sh⟩ : SP) id = 9 := by exact hv
              have hA : nextA (⟨seed, n, rs.map Shr.sh⟩ : SP) id = (⟨seed, n, rs.map Shr.sh⟩ : SP) := by unfold nextA; rw [hE]; exact if_neg (by decide)
              have hV : nextV (⟨seed, n, rs.map Shr.sh⟩ : SP) id = 0 := by unfold nextV; rw [show fnd (SP.ps (⟨seed, n, rs.map Shr.sh⟩ : SP)) id = some i from hf]; show (if nextE (⟨seed, n, rs.map Shr.sh⟩ : SP) id = 0 then _ else (0 : Int)) = 0; rw [hE]; exact if_neg (by decide)
              rw [hE, hV]
              exact ⟨⟨h, pp, kc, seed, n, rs⟩, rfl, hA.symm, rfl, (S.big (L := [_, _, _]) (H67.takes [1, 2, 3, 4, 5] (by decide)))⟩
            · skip
              refine g_cond_f rfl (decide_eq_false hb87) ?_
              refine g_skip ?_
              refine g_then ?_
              refine g_seq ?_
              have H88 : S wq66 [Rw 3 1 x.tp x.told.length x.tc (fl intL x.told), Rw 3 1 x.hp x.holds.length x.hc (fl intL x.holds), (Lst RoI (rs.eraseIdx i)), Ob g9 (.cells #[.int .i64 (x.id), .slice x.tp x.told.length x.tc, .slice x.hp x.holds.length x.hc] 61 (0, 0)), Ob h (.cells #[.string seed, .int .i64 ((n : Int)), .slice pp rs.length kc] 52 (0, 0)), Rw 61 3 pp rs.length kc (fl shwL rs), Old w9 no, Old w (fps [(RM.I ⟨h, pp, kc, seed, n, rs⟩), Old w9 no])] := S.unbig (L := [_, _]) (S.lstOut (F := RoI) (H67.takes [3, 0, 1, 2, 4, 5] (by decide)) hx)
              refine g_anyY [] (fun wx => S wx [Ob h (.cells #[.string seed, .int .i64 ((n : Int)), .slice pp rs.length kc] 52 (0, 0)), Rw 61 3 pp rs.length kc (fl shwL rs)]) (fun wx => S wx []) [18] (by kernel_rfl) H88 (fun wq89 H90 => ?_)
              refine y_pure (v := .pointer (some ⟨h, 0, none⟩)) 0 rfl (wt0 rfl) rfl rfl rfl (by kernel_rfl) (by kernel_rfl) (by kernel_rfl) (by kernel_rfl) (fun wx => x_move rfl rfl) ?_
              refine y_pure (v := .pointer (some ⟨h, 0, none⟩)) 1 rfl (wt0 rfl) rfl rfl rfl (by kernel_rfl) (by kernel_rfl) (by kernel_rfl) (by kernel_rfl) (fun wx => x_nilCheck rfl rfl) ?_
              refine y_pure (v := .pointer (some ⟨h, 2, none⟩)) 2 rfl (wt0 rfl) rfl rfl rfl (by kernel_rfl) (by kernel_rfl) (by kernel_rfl) (by kernel_rfl) (fun wx => x_fieldAddr rfl rfl fo52_2 rfl) ?_
              refine y_take (v := .slice pp rs.length kc) 3 rfl (wt0 rfl) rfl rfl rfl (by kernel_rfl) (by kernel_rfl) (by kernel_rfl) (by kernel_rfl) (by kernel_rfl) (H90.mask [false, false, false, false, true, true, false, false]) (fun wx H => x_load1 H 0 rfl rfl Tryd.underlying50 rfl rfl rfl) ?_
              refine y_pure (v := .int .i64 ((i : Int))) 4 rfl (wt0 rfl) rfl rfl rfl (by kernel_rfl) (by kernel_rfl) (by kernel_rfl) (by kernel_rfl) (fun wx => x_move rfl rfl) ?_
              refine y_pure (v := .pointer (some ⟨h, 0, none⟩)) 5 rfl (wt0 rfl) rfl rfl rfl (by kernel_rfl) (by kernel_rfl) (by kernel_rfl) (by kernel_rfl) (fun wx => x_move rfl rfl) ?_
              refine y_pure (v := .pointer (some ⟨h, 0, none⟩)) 6 rfl (wt0 rfl) rfl rfl rfl (by kernel_rfl) (by kernel_rfl) (by kernel_rfl) (by kernel_rfl) (fun wx => x_nilCheck rfl rfl) ?_
              refine y_pure (v := .pointer (some ⟨h, 2, none⟩)) 7 rfl (wt0 rfl) rfl rfl rfl (by kernel_rfl) (by kernel_rfl) (by kernel_rfl) (by kernel_rfl) (fun wx => x_fieldAddr rfl rfl fo52_2 rfl) ?_
              refine y_take (v := .slice pp rs.length kc) 8 rfl (wt0 rfl) rfl rfl rfl (by kernel_rfl) (by kernel_rfl) (by kernel_rfl) (by kernel_rfl) (by kernel_rfl) (H90.mask [false, false, false, false, true, true, false, false]) (fun wx H => x_load1 H 0 rfl rfl Tryd.underlying50 rfl rfl rfl) ?_
              refine y_pure (v := .int .i64 ((i : Int))) 9 rfl (wt0 rfl) rfl rfl rfl (by kernel_rfl) (by kernel_rfl) (by kernel_rfl) (by kernel_rfl) (fun wx => x_move rfl rfl) ?_
              refine y_pure (v := .pointer ((pp).map fun q => q.add (i * 3))) 10 rfl (wt0 rfl) rfl rfl rfl (by kernel_rfl) (by kernel_rfl) (by kernel_rfl) (by kernel_rfl) (fun wx => x_idxP i ((H90.rwReads (k := 5) rfl).some (by omega)) rfl rfl rfl Tryd.underlying50 sz61 (by omega)) ?_
              refine y_pure (v := .pointer ((pp).map fun q => q.add (i * 3 + 1))) 11 rfl (wt0 rfl) rfl rfl rfl (by kernel_rfl) (by kernel_rfl) (by kernel_rfl) (by kernel_rfl) (fun wx => ex_cast (x_fieldAddrG (m := i * 3) ((H90.rwReads (k := 5) rfl).some (by omega)) rfl rfl fo61_1) rfl) ?_
              refine y_take (v := .slice x.tp x.told.length x.tc) 12 rfl (wt0 rfl) rfl rfl rfl (by kernel_rfl) (by kernel_rfl) (by kernel_rfl) (by kernel_rfl) (by kernel_rfl) (H90.mask [false, false, false, false, true, true, false, false]) (fun wx H => x_loadF1 (i := 1) (j := i) shwE (H.rwReads (k := 1) rfl) hx rfl rfl Tryd.underlying35 rfl rfl) ?_
              refine y_pure (v := .int .i64 at9) 13 rfl (wt0 rfl) rfl rfl rfl (by kernel_rfl) (by kernel_rfl) (by kernel_rfl) (by kernel_rfl) (fun wx => x_move rfl rfl) ?_
              refine y_one (i := 14) (by kernel_rfl) rfl ?_
              refine s_buildSlice H90 (wt0 rfl) rfl rfl rfl (vs := [.int .i64 at9]) rfl Tryd.underlying35 sz3 ze3 rfl rfl (cells := #[.int .i64 at9]) (by kernel_rfl) ?_
              intro g91 wq92 H93
              refine y_k (H93.mask [false, false, false, false, false, true, true, false, false]) (H93.mask [false, false, false, false, false, false, false, false, false]) ?_
              refine y_one (i := 15) (by kernel_rfl) rfl ?_
              have hln98a := (H93.rwReads (k := 1) rfl).lenL intE
              have hln98 : (x.told ++ [at9]).length = x.told.length + 1 := by simp only [List.length_append, List.length_cons, List.length_nil] <;> omega
              refine s_appBn (m := 1) (l := x.told) (l2 := [at9]) intE H93 1 (j0 := 0) rfl rfl ⟨rfl, Nat.le_refl _⟩ (wt0 rfl) rfl rfl rfl rfl rfl rfl Tryd.underlying35 inf3 rfl (by decide) (by omega) ?_
              intro p94 c95 wq96 H97
              replace H97 : S wq96 [Ob g91 (.cells #[.int .i64 at9] 3 (0, 0)), Rw 3 1 p94 ((x.told ++ [at9]).length) c95 (fl intL (x.told ++ [at9])), Rw 3 1 x.hp x.holds.length x.hc (fl intL x.holds), (Lst RoI (rs.eraseIdx i)), Ob g9 (.cells #[.int .i64 (x.id), .slice x.tp x.told.length x.tc, .slice x.hp x.holds.length x.hc] 61 (0, 0)), Ob h (.cells #[.string seed, .int .i64 ((n : Int)), .slice pp rs.length kc] 52 (0, 0)), Rw 61 3 pp rs.length kc (fl shwL rs), Old w9 no, Old w (fps [(RM.I ⟨h, pp, kc, seed, n, rs⟩), Old w9 no])] := H97
              refine y_k (H97.mask [false, false, false, false, false, true, true, false, false]) (H97.mask [false, false, false, false, false, false, false, false, false]) ?_
              refine y_pure (v := .pointer ((pp).map fun q => q.add (i * 3))) 16 rfl (wt0 rfl) rfl rfl rfl (by kernel_rfl) (by kernel_rfl) (by kernel_rfl) (by kernel_rfl) (fun wx => x_idxP i ((H97.rwReads (k := 6) rfl).some (by omega)) rfl rfl rfl Tryd.underlying50 sz61 (by omega)) ?_
              refine y_pure (v := .pointer ((pp).map fun q => q.add (i * 3 + 1))) 17 rfl (wt0 rfl) rfl rfl rfl (by kernel_rfl) (by kernel_rfl) (by kernel_rfl) (by kernel_rfl) (fun wx => ex_cast (x_fieldAddrG (m := i * 3) ((H97.rwReads (k := 6) rfl).some (by omega)) rfl rfl fo61_1) rfl) ?_
              refine y_one (i := 18) (by kernel_rfl) rfl ?_
              refine s_fldL (i := 1) (j := i) shwE ({ x with tp := p94, tc := c95, told := (x.told ++ [at9]) } : Shr) H97 6 (wt0 rfl) rfl rfl rfl rfl rfl hx rfl (by decide) sz35 rfl rfl ?_
              intro wq99 H100
              replace H100 : S wq99 [Ob g91 (.cells #[.int .i64 at9] 3 (0, 0)), Rw 3 1 p94 ((x.told ++ [at9]).length) c95 (fl intL (x.told ++ [at9])), Rw 3 1 x.hp x.holds.length x.hc (fl intL x.holds), (Lst RoI (rs.eraseIdx i)), Ob g9 (.cells #[.int .i64 (x.id), .slice x.tp x.told.length x.tc, .slice x.hp x.holds.length x.hc] 61 (0, 0)), Ob h (.cells #[.string seed, .int .i64 ((n : Int)), .slice pp rs.length kc] 52 (0, 0)), Rw 61 3 pp rs.length kc (fl shwL (rs.set i ({ x with tp := p94, tc := c95, told := (x.told ++ [at9]) } : Shr))), Old w9 no, Old w (fps [(RM.I ⟨h, pp, kc, seed, n, rs⟩), Old w9 no])] := H100
              refine y_kt rfl (H100.mask [false, false, false, false, false, false, false, false, false]) ?_
              refine y_done (by kernel_rfl) ?_
              refine g_then ?_
              refine g_weak [(13, .int .i64 at9)] ⟨rfl, trivial⟩ ?_
              refine g_seq ?_
              refine g_region ?_
              refine l_of (s_val (v := .int .i64 at9) (wt0 rfl) rfl rfl (x_move rfl rfl) ?_)
              refine l_of (s_val (v := .int .i64 at9) (wt0 rfl) rfl rfl (x_assign rfl rfl) ?_)
              refine l_of (s_val (v := .int .i64 0) (wt0 rfl) rfl rfl (x_assign rfl rfl) ?_)
              refine g_nil ?_
              refine g_then ?_
              refine g_ret ?_
              refine fin_ret [.tmp 4, .tmp 5] [.int .i64 at9, .int .i64 0] rfl ⟨rfl, rfl, trivial⟩ ?_
              have hnE : nextE (⟨seed, n, rs.map Shr.sh⟩ : SP) id = if waitB (⟨seed, n, rs.map Shr.sh⟩ : SP) x.sh = true then 9 else if candM x.sh n = [] then 9 else 0 := by unfold nextE; rw [show fnd (SP.ps (⟨seed, n, rs.map Shr.sh⟩ : SP)) id = some i from hf]; show (if waitB (⟨seed, n, rs.map Shr.sh⟩ : SP) (getP (⟨seed, n, rs.map Shr.sh⟩ : SP) i) = true then (9 : Int) else if candM (getP (⟨seed, n, rs.map Shr.sh⟩ : SP) i) n = [] then 9 else 0) = _; rw [hg9]
              rw [show (m2 : Nat) = n from by omega] at hat
              have hrg := hat.rng (by omega)
              obtain ⟨j9, hB9⟩ := (hat.resolve_left (fun h9 => by omega)).2.2.2.2
              have hv : nextE (⟨seed, n, rs.map Shr.sh⟩ : SP) id = 0 := by rw [hnE, if_neg (by rw [hwf]; decide)]; exact if_neg (fun h => by rw [h] at hB9; exact absurd hB9.1 (by simp))
              have hV : nextV (⟨seed, n, rs.map Shr.sh⟩ : SP) id = at9 := by unfold nextV; rw [show fnd (SP.ps (⟨seed, n, rs.map Shr.sh⟩ : SP)) id = some i from hf]; show (if nextE (⟨seed, n, rs.map Shr.sh⟩ : SP) id = 0 then bestI seed (rs.map Shr.sh) (candM (getP (⟨seed, n, rs.map Shr.sh⟩ : SP) i) n) else 0) = at9; rw [if_pos hv, hg9]; exact bestI_is (by have := cand_len x.sh n; omega) hB9
              have hA : nextA (⟨seed, n, rs.map Shr.sh⟩ : SP) id = ⟨seed, n, (rs.set i ({ x with tp := p94, tc := c95, told := (x.told ++ [at9]) } : Shr)).map Shr.sh⟩ := by unfold nextA; rw [if_pos hv, show fnd (SP.ps (⟨seed, n, rs.map Shr.sh⟩ : SP)) id = some i from hf, List.map_set]; show (⟨seed, n, (rs.map Shr.sh).set i { getP (⟨seed, n, rs.map Shr.sh⟩ : SP) i with told := (getP (⟨seed, n, rs.map Shr.sh⟩ : SP) i).told ++ [nextV (⟨seed, n, rs.map Shr.sh⟩ : SP) id] }⟩ : SP) = _; rw [hg9, hV]; rfl
              rw [hv, hV]
              have hln : (rs.set i ({ x with tp := p94, tc := c95, told := (x.told ++ [at9]) } : Shr)).length = rs.length := List.length_set
              have h9 := (S.lstIn (F := RoI) (x := ({ x with tp := p94, tc := c95, told := (x.told ++ [at9]) } : Shr)) (S.big (L := [_, _]) (H100.takes [1, 2, 3, 5, 6, 7, 8] (by decide))) hil)
              exact ⟨⟨h, pp, kc, seed, n, (rs.set i ({ x with tp := p94, tc := c95, told := (x.told ++ [at9]) } : Shr))⟩, rfl, hA.symm, rfl, rm_fold2 hln (h9.takes [1, 2, 0, 3, 4] (by decide))⟩
    · skip
      replace H5 : S wq4 [Ob h (.cells #[.string seed, .int .i64 ((n : Int)), .slice pp rs.length kc] 52 (0, 0)), Rw 61 3 pp rs.length kc (fl shwL rs), (Lst RoI rs), Old w9 no, Old w (fps [(RM.I ⟨h, pp, kc, seed, n, rs⟩), Old w9 no])] := H2.absorbI (new := [Ob h (.cells #[.string seed, .int .i64 ((n : Int)), .slice pp rs.length kc] 52 (0, 0)), Rw 61 3 pp rs.length kc (fl shwL rs), (Lst RoI rs)]) [0, 1, 2] H5
      refine b_ret rfl rfl ?_
      refine l_of (s_val (v := .int .i64 (-1)) (wt0 rfl) rfl rfl (x_assign rfl rfl) ?_)
      refine g_nil ?_
      refine g_then ?_
      refine g_weak [(0, .pointer (some ⟨h, 0, none⟩)), (7, .int .i64 (-1))] ⟨rfl, rfl, trivial⟩ ?_
      refine g_seq ?_
      refine g_seq ?_
      refine g_region ?_
      refine l_of (s_val (v := .int .i64 (-1)) (wt0 rfl) rfl rfl (x_move rfl rfl) ?_)
      refine l_of (s_val (v := .bool (decide ((-1 : Int) < 0))) (wt0 rfl) rfl rfl (x_bin rfl rfl rfl b_lss) ?_)
      refine g_nil ?_
      refine g_then ?_
      refine g_cond_t rfl (by decide) ?_
      refine g_seq ?_
      refine g_region ?_
      refine l_of (s_val (v := .int .i64 0) (wt0 rfl) rfl rfl (x_assign rfl rfl) ?_)
      refine l_of (s_val (v := .int .i64 8) (wt0 rfl) rfl rfl (x_assign rfl rfl) ?_)
      refine g_nil ?_
      refine g_then ?_
      refine g_ret ?_
      refine g_then_ret ?_
      refine fin_ret [.tmp 4, .tmp 5] [.int .i64 0, .int .i64 8] rfl ⟨rfl, rfl, trivial⟩ ?_
      have h7 : ¬ id < 0 := by unfold ask7 at *; split at * <;> omega
      have hv : nextE (⟨seed, n, rs.map Shr.sh⟩ : SP) id = 8 := by unfold nextE; rw [show fnd (SP.ps (⟨seed, n, rs.map Shr.sh⟩ : SP)) id = none from hf]; exact if_neg h7
      have hE : nextE (⟨seed, n, rs.map Shr.sh⟩ : SP) id = 8 := by exact hv
      have hA : nextA (⟨seed, n, rs.map Shr.sh⟩ : SP) id = (⟨seed, n, rs.map Shr.sh⟩ : SP) := by unfold nextA; rw [hE]; exact if_neg (by decide)
      have hV : nextV (⟨seed, n, rs.map Shr.sh⟩ : SP) id = 0 := by unfold nextV; rw [show fnd (SP.ps (⟨seed, n, rs.map Shr.sh⟩ : SP)) id = none from hf]
      rw [hE, hV]
      exact ⟨⟨h, pp, kc, seed, n, rs⟩, rfl, hA.symm, rfl, (S.big (L := [_, _, _]) (H5.takes [0, 1, 2, 3, 4] (by decide)))⟩
  · skip
    refine g_cond_t rfl (nt hb3) ?_
    refine g_seq ?_
    refine g_region ?_
    refine l_of (s_val (v := .int .i64 ((ask7 id))) (wt0 rfl) rfl rfl (x_move rfl rfl) ?_)
    refine l_of (s_val (v := .int .i64 0) (wt0 rfl) rfl rfl (x_assign rfl rfl) ?_)
    refine l_of (s_val (v := .int .i64 ((ask7 id))) (wt0 rfl) rfl rfl (x_assign rfl rfl) ?_)
    refine g_nil ?_
    refine g_then ?_
    refine g_ret ?_
    refine g_then_ret ?_
    refine fin_ret [.tmp 4, .tmp 5] [.int .i64 0, .int .i64 ((ask7 id))] rfl ⟨rfl, rfl, trivial⟩ ?_
    have h7 : id < 0 := by unfold ask7 at *; split at * <;> omega
    have h8 : ask7 id = 7 := if_pos h7
    rw [h8]
    have hf : fnd (rs.map Shr.sh) id = none := by cases h9 : fnd (rs.map Shr.sh) id with | none => rfl | some i9 => have := hPI.neg (id := id) h9; omega
    have hv : nextE (⟨seed, n, rs.map Shr.sh⟩ : SP) id = 7 := by unfold nextE; rw [show fnd (SP.ps (⟨seed, n, rs.map Shr.sh⟩ : SP)) id = none from hf]; exact if_pos h7
    have hE : nextE (⟨seed, n, rs.map Shr.sh⟩ : SP) id = 7 := by exact hv
    have hA : nextA (⟨seed, n, rs.map Shr.sh⟩ : SP) id = (⟨seed, n, rs.map Shr.sh⟩ : SP) := by unfold nextA; rw [hE]; exact if_neg (by decide)
    have hV : nextV (⟨seed, n, rs.map Shr.sh⟩ : SP) id = 0 := by unfold nextV; rw [show fnd (SP.ps (⟨seed, n, rs.map Shr.sh⟩ : SP)) id = none from hf]
    rw [hE, hV]
    exact ⟨⟨h, pp, kc, seed, n, rs⟩, rfl, hA.symm, rfl, (S.big (L := [_, _, _]) (H2.takes [0, 1, 2, 3, 4] (by decide)))⟩
end Go.Proofs.YthfglkkjkpdkpaaDoor
