import Derived.Test.YthfglkkjkpdkpaaDoorNh
set_option linter.unusedSimpArgs false
set_option linter.unusedVariables false
namespace Go.Proofs.YthfglkkjkpdkpaaDoor
open Go.RowKit

theorem inf61 : infO Tryd.prog 61 = some (some (.agg #[.int .i64 0, .slice none 0 0, .slice none 0 0]), 3, 56) := by kernel_rfl
theorem sz50 : szO Tryd.prog 50 = some 1 := by kernel_rfl
theorem rm_fold {h : Nat} {pp : Option Addr} {kc : Nat} {seed : ByteArray} {n m : Nat} {l : List Shr} {w : World} {O : Item} (hl : l.length = m) (H : S w [Ob h (.cells #[.string seed, .int .i64 (n : Int), .slice pp m kc] 52 (0, 0)), Rw 61 3 pp m kc (fl shwL l), Lst RoI l, O]) : S w ([RM.I ⟨h, pp, kc, seed, n, l⟩] ++ [O]) := by
  subst hl
  exact S.big (L := [_, _, _]) H
set_option maxRecDepth 20000 in
set_option maxHeartbeats 4000000 in
set_option maxRecDepth 20000 in
set_option maxHeartbeats 4000000 in
theorem holdsr_s (j h : Nat) (pp : Option Addr) (kc : Nat) (seed : ByteArray) (n : Nat) (rs : List Shr) (hZ : PI j (⟨seed, n, rs.map Shr.sh⟩ : SP)) (hj : j ≤ 1000) (id k : Int)  (w : World) (HS : S w [(RM.I ⟨h, pp, kc, seed, n, rs⟩)]) : Calls Tryd.prog 12 #[.pointer (some ⟨h, 0, none⟩), .int .i64 id, .int .i64 k] w fun e w' => ∃ Y : RM, Y.h = h ∧ Y.A = holdsA (⟨seed, n, rs.map Shr.sh⟩ : SP) id k ∧ e = .returned (.int .i64 (holdsE (⟨seed, n, rs.map Shr.sh⟩ : SP) id k)) ∧ S w' ([Y.I] ++ [Old w (fps [(RM.I ⟨h, pp, kc, seed, n, rs⟩)])]) := by
  have H00 := HS.beginI
  have H0 : S w ([(RM.I ⟨h, pp, kc, seed, n, rs⟩), Old w (fps [(RM.I ⟨h, pp, kc, seed, n, rs⟩)])]) := H00
  have hPI : PI j (⟨seed, n, rs.map Shr.sh⟩ : SP) := hZ
  have hps : rs.length ≤ j := by have := hPI.len; simpa using this
  have hn30 : n ≤ 30 := hPI.n30
  have hrok : ∀ (i9 : Nat) (x9 : Shr), rs[i9]? = some x9 → x9.told.length ≤ j ∧ x9.holds.length ≤ j := fun i9 x9 h9 => by have h8 := hPI.at (i := i9) (p := x9.sh) (by show (rs.map Shr.sh)[i9]? = _; rw [List.getElem?_map, h9]; rfl); exact ⟨h8.2.1, h8.2.2.1⟩
  replace H0 : S w [Ob h (.cells #[.string seed, .int .i64 ((n : Int)), .slice pp rs.length kc] 52 (0, 0)), Rw 61 3 pp rs.length kc (fl shwL rs), (Lst RoI rs), Old w (fps [(RM.I ⟨h, pp, kc, seed, n, rs⟩)])] := S.unbig H0
  refine enter 60 Tryd.func12 rfl rfl rfl ?_
  refine g_weak [(0, .pointer (some ⟨h, 0, none⟩)), (1, .int .i64 id), (2, .int .i64 k)] ⟨rfl, rfl, rfl, trivial⟩ ?_
  refine g_seq ?_
  refine g_region ?_
  refine l_of (s_val (v := .int .i64 0) (wt0 rfl) rfl rfl (x_assign rfl rfl) ?_)
  refine g_nil ?_
  refine g_then ?_
  refine g_seq ?_
  refine g_seq ?_
  refine g_region ?_
  refine l_of (s_val (v := .pointer (some ⟨h, 0, none⟩)) (wt0 rfl) rfl rfl (x_move rfl rfl) ?_)
  refine l_of (s_val (v := .int .i64 id) (wt0 rfl) rfl rfl (x_move rfl rfl) ?_)
  refine l_of (s_call (wt0 rfl) (x_call' rfl rfl cl25) (askedr_s h id _) ?_)
  rintro _ wq1 ⟨rfl, H2⟩
  replace H2 : S wq1 [Ob h (.cells #[.string seed, .int .i64 ((n : Int)), .slice pp rs.length kc] 52 (0, 0)), Rw 61 3 pp rs.length kc (fl shwL rs), (Lst RoI rs), Old w (fps [(RM.I ⟨h, pp, kc, seed, n, rs⟩)])] := H0.absorb (new := []) H2
  refine b_ret rfl rfl ?_
  refine l_of (s_val (v := .int .i64 ((ask7 id))) (wt0 rfl) rfl rfl (x_assign rfl rfl) ?_)
  refine g_nil ?_
  refine g_then ?_
  refine g_seq ?_
  refine g_region ?_
  refine l_of (s_val (v := .int .i64 ((ask7 id))) (wt0 rfl) rfl rfl (x_move rfl rfl) ?_)
  refine l_of (s_val (v := .bool (!decide (((ask7 id) : Int) = 0))) (wt0 rfl) rfl rfl (x_bin rfl rfl rfl b_neq) ?_)
  refine g_nil ?_
  refine g_then ?_
  by_cases hb3 : ((ask7 id) : Int) = 0
  · skip
    refine g_cond_f rfl (nf hb3) ?_
    refine g_skip ?_
    refine g_then ?_
    refine g_seq ?_
    refine g_seq ?_
    refine g_region ?_
    refine l_of (s_val (v := .int .i64 k) (wt0 rfl) rfl rfl (x_move rfl rfl) ?_)
    refine l_of (s_val (v := .bool (decide ((k : Int) < 0))) (wt0 rfl) rfl rfl (x_bin rfl rfl rfl b_lss) ?_)
    refine l_of (s_val (v := .bool (decide ((k : Int) < 0))) (wt0 rfl) rfl rfl (x_move rfl rfl) ?_)
    by_cases hb4 : (k : Int) < 0
    · skip
      refine l_of (s_not (wn1 rfl rfl rfl rfl (decide_eq_true hb4)) rfl rfl ?_)
      refine l_of (s_not (wn1 rfl rfl rfl rfl (decide_eq_true hb4)) rfl rfl ?_)
      refine l_of (s_not (wn1 rfl rfl rfl rfl (decide_eq_true hb4)) rfl rfl ?_)
      refine l_of (s_not (wn1 rfl rfl rfl rfl (decide_eq_true hb4)) rfl rfl ?_)
      refine l_of (s_not (wn1 rfl rfl rfl rfl (decide_eq_true hb4)) rfl rfl ?_)
      refine l_of (s_not (wn1 rfl rfl rfl rfl (decide_eq_true hb4)) rfl rfl ?_)
      refine l_of (s_val (v := .bool true) (wt0 rfl) rfl rfl (x_pick_t rfl rfl (decide_eq_true hb4) rfl) ?_)
      refine g_nil ?_
      refine g_then ?_
      refine g_weak [(0, .pointer (some ⟨h, 0, none⟩)), (1, .int .i64 id), (2, .int .i64 k), (24, .bool true)] ⟨rfl, rfl, rfl, rfl, trivial⟩ ?_
      refine g_cond_t rfl rfl ?_
      refine g_seq ?_
      refine g_region ?_
      refine l_of (s_val (v := .int .i64 7) (wt0 rfl) rfl rfl (x_assign rfl rfl) ?_)
      refine g_nil ?_
      refine g_then ?_
      refine g_ret ?_
      refine g_then_ret ?_
      refine fin_ret [.tmp 6] [.int .i64 7] rfl ⟨rfl, trivial⟩ ?_
      have hv : holdsE (⟨seed, n, rs.map Shr.sh⟩ : SP) id k = 7 := by unfold holdsE; exact if_pos (by show id < 0 ∨ k < 0 ∨ (n : Int) ≤ k; omega)
      have hE : holdsE (⟨seed, n, rs.map Shr.sh⟩ : SP) id k = 7 := by exact hv
      have hA : holdsA (⟨seed, n, rs.map Shr.sh⟩ : SP) id k = (⟨seed, n, rs.map Shr.sh⟩ : SP) := by unfold holdsA; rw [hE]; exact if_neg (by decide)
      rw [hE]
      exact ⟨⟨h, pp, kc, seed, n, rs⟩, rfl, hA.symm, rfl, (S.big (L := [_, _, _]) (H2.takes [0, 1, 2, 3] (by decide)))⟩
    · skip
      refine l_of (s_val (v := .int .i64 k) (wt1 rfl rfl rfl rfl (decide_eq_false hb4)) rfl rfl (x_move rfl rfl) ?_)
      refine l_of (s_val (v := .pointer (some ⟨h, 0, none⟩)) (wt1 rfl rfl rfl rfl (decide_eq_false hb4)) rfl rfl (x_move rfl rfl) ?_)
      refine l_of (s_val (v := .pointer (some ⟨h, 0, none⟩)) (wt1 rfl rfl rfl rfl (decide_eq_false hb4)) rfl rfl (x_nilCheck rfl rfl) ?_)
      refine l_of (s_val (v := .pointer (some ⟨h, 1, none⟩)) (wt1 rfl rfl rfl rfl (decide_eq_false hb4)) rfl rfl (x_fieldAddr rfl rfl fo52_1 rfl) ?_)
      refine l_of (s_val (v := .int .i64 ((n : Int))) (wt1 rfl rfl rfl rfl (decide_eq_false hb4)) rfl rfl (x_load1 H2 0 rfl rfl Tryd.underlying3 rfl rfl rfl) ?_)
      refine l_of (s_val (v := .bool (decide (((n : Int) : Int) ≤ k))) (wt1 rfl rfl rfl rfl (decide_eq_false hb4)) rfl rfl (x_bin rfl rfl rfl b_geq) ?_)
      refine l_of (s_val (v := .bool (decide (((n : Int) : Int) ≤ k))) (wt0 rfl) rfl rfl (x_pick_f rfl rfl (decide_eq_false hb4) rfl) ?_)
      refine g_nil ?_
      refine g_then ?_
      refine g_weak [(0, .pointer (some ⟨h, 0, none⟩)), (1, .int .i64 id), (2, .int .i64 k), (24, .bool (decide (((n : Int) : Int) ≤ k)))] ⟨rfl, rfl, rfl, rfl, trivial⟩ ?_
      by_cases hb5 : ((n : Int) : Int) ≤ k
      · skip
        refine g_cond_t rfl (decide_eq_true hb5) ?_
        refine g_seq ?_
        refine g_region ?_
        refine l_of (s_val (v := .int .i64 7) (wt0 rfl) rfl rfl (x_assign rfl rfl) ?_)
        refine g_nil ?_
        refine g_then ?_
        refine g_ret ?_
        refine g_then_ret ?_
        refine fin_ret [.tmp 6] [.int .i64 7] rfl ⟨rfl, trivial⟩ ?_
        have hv : holdsE (⟨seed, n, rs.map Shr.sh⟩ : SP) id k = 7 := by unfold holdsE; exact if_pos (by show id < 0 ∨ k < 0 ∨ (n : Int) ≤ k; omega)
        have hE : holdsE (⟨seed, n, rs.map Shr.sh⟩ : SP) id k = 7 := by exact hv
        have hA : holdsA (⟨seed, n, rs.map Shr.sh⟩ : SP) id k = (⟨seed, n, rs.map Shr.sh⟩ : SP) := by unfold holdsA; rw [hE]; exact if_neg (by decide)
        rw [hE]
        exact ⟨⟨h, pp, kc, seed, n, rs⟩, rfl, hA.symm, rfl, (S.big (L := [_, _, _]) (H2.takes [0, 1, 2, 3] (by decide)))⟩
      · skip
        refine g_cond_f rfl (decide_eq_false hb5) ?_
        refine g_skip ?_
        refine g_then ?_
        refine g_seq ?_
        refine g_region ?_
        refine l_of (s_val (v := .pointer (some ⟨h, 0, none⟩)) (wt0 rfl) rfl rfl (x_move rfl rfl) ?_)
        refine l_of (s_val (v := .int .i64 id) (wt0 rfl) rfl rfl (x_move rfl rfl) ?_)
        refine l_of (s_call (wt0 rfl) (x_call' rfl rfl cl26) (findr_s j h pp kc seed n rs hZ hj id _ (H2.takes [0, 1, 2] (by decide))) ?_)
        rintro ee8 wq6 hor9
        rcases hor9 with ⟨i, x, hx, hxi, hf, rfl, H7⟩ | ⟨hf, rfl, H7⟩
        · skip
          replace H7 : S wq6 [Ob h (.cells #[.string seed, .int .i64 ((n : Int)), .slice pp rs.length kc] 52 (0, 0)), Rw 61 3 pp rs.length kc (fl shwL rs), (Lst RoI rs), Old w (fps [(RM.I ⟨h, pp, kc, seed, n, rs⟩)])] := H2.absorbI (new := [Ob h (.cells #[.string seed, .int .i64 ((n : Int)), .slice pp rs.length kc] 52 (0, 0)), Rw 61 3 pp rs.length kc (fl shwL rs), (Lst RoI rs)]) [0, 1, 2] H7
          have hlx := hrok i x hx
          have hil := (List.getElem?_eq_some_iff.1 hx).1
          have hqx : (rs.map Shr.sh)[i]? = some x.sh := by rw [List.getElem?_map, hx]; rfl
          have hg9 : getP (⟨seed, n, rs.map Shr.sh⟩ : SP) i = x.sh := getP_at hqx
          have hpk := hPI.at (p := x.sh) hqx
          refine b_ret rfl rfl ?_
          refine l_of (s_val (v := .int .i64 ((i : Int))) (wt0 rfl) rfl rfl (x_assign rfl rfl) ?_)
          refine g_nil ?_
          refine g_then ?_
          refine g_seq ?_
          refine g_block ?_
          refine g_seq ?_
          refine g_region ?_
          refine l_of (s_val (v := .int .i64 ((i : Int))) (wt0 rfl) rfl rfl (x_move rfl rfl) ?_)
          refine l_of (s_val (v := .bool (decide (((i : Int) : Int) < 0))) (wt0 rfl) rfl rfl (x_bin rfl rfl rfl b_lss) ?_)
          refine l_of (s_val (v := .bool (decide (((i : Int) : Int) < 0))) (wt0 rfl) rfl rfl (x_assign rfl rfl) ?_)
          refine g_nil ?_
          refine g_then ?_
          by_cases hb10 : ((i : Int) : Int) < 0
          · skip
            refine g_cond_t rfl (decide_eq_true hb10) ?_
            refine g_seq ?_
            refine g_region ?_
            refine l_of (s_val (v := .int .i64 8) (wt0 rfl) rfl rfl (x_assign rfl rfl) ?_)
            refine g_nil ?_
            refine g_then ?_
            refine g_ret ?_
            refine g_in_ret ?_
            refine g_then_ret ?_
            refine fin_ret [.tmp 6] [.int .i64 8] rfl ⟨rfl, trivial⟩ ?_
            omega
          · skip
            refine g_cond_f rfl (decide_eq_false hb10) ?_
            refine g_seq ?_
            refine g_region ?_
            refine l_of (s_val (v := .pointer (some ⟨h, 0, none⟩)) (wt0 rfl) rfl rfl (x_move rfl rfl) ?_)
            refine l_of (s_val (v := .pointer (some ⟨h, 0, none⟩)) (wt0 rfl) rfl rfl (x_nilCheck rfl rfl) ?_)
            refine l_of (s_val (v := .pointer (some ⟨h, 2, none⟩)) (wt0 rfl) rfl rfl (x_fieldAddr rfl rfl fo52_2 rfl) ?_)
            refine l_of (s_val (v := .slice pp rs.length kc) (wt0 rfl) rfl rfl (x_load1 H7 0 rfl rfl Tryd.underlying50 rfl rfl rfl) ?_)
            refine l_of (s_val (v := .int .i64 ((i : Int))) (wt0 rfl) rfl rfl (x_move rfl rfl) ?_)
            refine l_of (s_val (v := .pointer ((pp).map fun q => q.add (i * 3))) (wt0 rfl) rfl rfl (x_idxR i (H7.rwReads (k := 1) rfl) rfl rfl rfl Tryd.underlying50 sz61 (by omega)) ?_)
            refine l_of (s_val (v := .pointer ((pp).map fun q => q.add (i * 3 + 2))) (wt0 rfl) rfl rfl (ex_cast (x_fieldAddrG (m := i * 3) ((H7.rwReads (k := 1) rfl).some (by omega)) rfl rfl fo61_2) rfl) ?_)
            refine l_of (s_val (v := .slice x.hp x.holds.length x.hc) (wt0 rfl) rfl rfl (x_loadF1 (i := 2) (j := i) shwE (H7.rwReads (k := 1) rfl) hx rfl rfl Tryd.underlying35 rfl rfl) ?_)
            refine l_of (s_val (v := .int .i64 k) (wt0 rfl) rfl rfl (x_move rfl rfl) ?_)
            refine l_of (s_call (wt0 rfl) (x_call' rfl rfl cl27) (in_r x.holds x.hp x.holds.length x.hc k (by omega) _ (H7.rdH (k := 2) rfl hx)) ?_)
            rintro _ wq11 ⟨rfl, H12⟩
            replace H12 : S wq11 [Ob h (.cells #[.string seed, .int .i64 ((n : Int)), .slice pp rs.length kc] 52 (0, 0)), Rw 61 3 pp rs.length kc (fl shwL rs), (Lst RoI rs), Old w (fps [(RM.I ⟨h, pp, kc, seed, n, rs⟩)])] := H7.absorb (new := []) H12
            refine b_ret rfl rfl ?_
            refine l_of (s_val (v := .bool ((decide (k ∈ x.holds)))) (wt0 rfl) rfl rfl (x_assign rfl rfl) ?_)
            refine g_nil ?_
            refine g_then ?_
            refine g_weak [(0, .pointer (some ⟨h, 0, none⟩)), (2, .int .i64 k), (8, .int .i64 ((i : Int))), (31, .bool ((decide (k ∈ x.holds))))] ⟨rfl, rfl, rfl, rfl, trivial⟩ ?_
            rcases Bool.eq_false_or_eq_true ((decide (k ∈ x.holds))) with hb13 | hb13
            · skip
              refine g_cond_t rfl hb13 ?_
              refine g_seq ?_
              refine g_region ?_
              refine l_of (s_val (v := .int .i64 9) (wt0 rfl) rfl rfl (x_assign rfl rfl) ?_)
              refine g_nil ?_
              refine g_then ?_
              refine g_ret ?_
              refine g_in_ret ?_
              refine g_then_ret ?_
              refine fin_ret [.tmp 6] [.int .i64 9] rfl ⟨rfl, trivial⟩ ?_
              have h7 : ¬ id < 0 := by unfold ask7 at *; split at * <;> omega
              have hv : holdsE (⟨seed, n, rs.map Shr.sh⟩ : SP) id k = 9 := by unfold holdsE; rw [if_neg (show ¬ (id < 0 ∨ k < 0 ∨ (SP.n (⟨seed, n, rs.map Shr.sh⟩ : SP) : Int) ≤ k) from (by show ¬ (id < 0 ∨ k < 0 ∨ (n : Int) ≤ k); omega)), show fnd (SP.ps (⟨seed, n, rs.map Shr.sh⟩ : SP)) id = some i from hf]; show (if k ∈ (getP (⟨seed, n, rs.map Shr.sh⟩ : SP) i).holds then (9 : Int) else 0) = 9; rw [hg9]; exact if_pos (of_decide_eq_true hb13)
              have hE : holdsE (⟨seed, n, rs.map Shr.sh⟩ : SP) id k = 9 := by exact hv
              have hA : holdsA (⟨seed, n, rs.map Shr.sh⟩ : SP) id k = (⟨seed, n, rs.map Shr.sh⟩ : SP) := by unfold holdsA; rw [hE]; exact if_neg (by decide)
              rw [hE]
              exact ⟨⟨h, pp, kc, seed, n, rs⟩, rfl, hA.symm, rfl, (S.big (L := [_, _, _]) (H12.takes [0, 1, 2, 3] (by decide)))⟩
            · skip
              refine g_cond_f rfl hb13 ?_
              refine g_skip ?_
              refine g_in ?_
              refine g_then ?_
              refine g_seq ?_
              have H14 : S wq11 [Rw 3 1 x.tp x.told.length x.tc (fl intL x.told), Rw 3 1 x.hp x.holds.length x.hc (fl intL x.holds), (Lst RoI (rs.eraseIdx i)), Ob h (.cells #[.string seed, .int .i64 ((n : Int)), .slice pp rs.length kc] 52 (0, 0)), Rw 61 3 pp rs.length kc (fl shwL rs), Old w (fps [(RM.I ⟨h, pp, kc, seed, n, rs⟩)])] := S.unbig (L := [_, _]) (S.lstOut (F := RoI) (H12.takes [2, 0, 1, 3] (by decide)) hx)
              refine g_anyY [] (fun wx => S wx [Ob h (.cells #[.string seed, .int .i64 ((n : Int)), .slice pp rs.length kc] 52 (0, 0)), Rw 61 3 pp rs.length kc (fl shwL rs)]) (fun wx => S wx []) [18] (by kernel_rfl) H14 (fun wq15 H16 => ?_)
              refine y_pure (v := .pointer (some ⟨h, 0, none⟩)) 0 rfl (wt0 rfl) rfl rfl rfl (by kernel_rfl) (by kernel_rfl) (by kernel_rfl) (by kernel_rfl) (fun wx => x_move rfl rfl) ?_
              refine y_pure (v := .pointer (some ⟨h, 0, none⟩)) 1 rfl (wt0 rfl) rfl rfl rfl (by kernel_rfl) (by kernel_rfl) (by kernel_rfl) (by kernel_rfl) (fun wx => x_nilCheck rfl rfl) ?_
              refine y_pure (v := .pointer (some ⟨h, 2, none⟩)) 2 rfl (wt0 rfl) rfl rfl rfl (by kernel_rfl) (by kernel_rfl) (by kernel_rfl) (by kernel_rfl) (fun wx => x_fieldAddr rfl rfl fo52_2 rfl) ?_
              refine y_take (v := .slice pp rs.length kc) 3 rfl (wt0 rfl) rfl rfl rfl (by kernel_rfl) (by kernel_rfl) (by kernel_rfl) (by kernel_rfl) (by kernel_rfl) (H16.mask [false, false, false, true, true, false]) (fun wx H => x_load1 H 0 rfl rfl Tryd.underlying50 rfl rfl rfl) ?_
              refine y_pure (v := .int .i64 ((i : Int))) 4 rfl (wt0 rfl) rfl rfl rfl (by kernel_rfl) (by kernel_rfl) (by kernel_rfl) (by kernel_rfl) (fun wx => x_move rfl rfl) ?_
              refine y_pure (v := .pointer (some ⟨h, 0, none⟩)) 5 rfl (wt0 rfl) rfl rfl rfl (by kernel_rfl) (by kernel_rfl) (by kernel_rfl) (by kernel_rfl) (fun wx => x_move rfl rfl) ?_
              refine y_pure (v := .pointer (some ⟨h, 0, none⟩)) 6 rfl (wt0 rfl) rfl rfl rfl (by kernel_rfl) (by kernel_rfl) (by kernel_rfl) (by kernel_rfl) (fun wx => x_nilCheck rfl rfl) ?_
              refine y_pure (v := .pointer (some ⟨h, 2, none⟩)) 7 rfl (wt0 rfl) rfl rfl rfl (by kernel_rfl) (by kernel_rfl) (by kernel_rfl) (by kernel_rfl) (fun wx => x_fieldAddr rfl rfl fo52_2 rfl) ?_
              refine y_take (v := .slice pp rs.length kc) 8 rfl (wt0 rfl) rfl rfl rfl (by kernel_rfl) (by kernel_rfl) (by kernel_rfl) (by kernel_rfl) (by kernel_rfl) (H16.mask [false, false, false, true, true, false]) (fun wx H => x_load1 H 0 rfl rfl Tryd.underlying50 rfl rfl rfl) ?_
              refine y_pure (v := .int .i64 ((i : Int))) 9 rfl (wt0 rfl) rfl rfl rfl (by kernel_rfl) (by kernel_rfl) (by kernel_rfl) (by kernel_rfl) (fun wx => x_move rfl rfl) ?_
              refine y_pure (v := .pointer ((pp).map fun q => q.add (i * 3))) 10 rfl (wt0 rfl) rfl rfl rfl (by kernel_rfl) (by kernel_rfl) (by kernel_rfl) (by kernel_rfl) (fun wx => x_idxP i ((H16.rwReads (k := 4) rfl).some (by omega)) rfl rfl rfl Tryd.underlying50 sz61 (by omega)) ?_
              refine y_pure (v := .pointer ((pp).map fun q => q.add (i * 3 + 2))) 11 rfl (wt0 rfl) rfl rfl rfl (by kernel_rfl) (by kernel_rfl) (by kernel_rfl) (by kernel_rfl) (fun wx => ex_cast (x_fieldAddrG (m := i * 3) ((H16.rwReads (k := 4) rfl).some (by omega)) rfl rfl fo61_2) rfl) ?_
              refine y_take (v := .slice x.hp x.holds.length x.hc) 12 rfl (wt0 rfl) rfl rfl rfl (by kernel_rfl) (by kernel_rfl) (by kernel_rfl) (by kernel_rfl) (by kernel_rfl) (H16.mask [false, false, false, true, true, false]) (fun wx H => x_loadF1 (i := 2) (j := i) shwE (H.rwReads (k := 1) rfl) hx rfl rfl Tryd.underlying35 rfl rfl) ?_
              refine y_pure (v := .int .i64 k) 13 rfl (wt0 rfl) rfl rfl rfl (by kernel_rfl) (by kernel_rfl) (by kernel_rfl) (by kernel_rfl) (fun wx => x_move rfl rfl) ?_
              refine y_one (i := 14) (by kernel_rfl) rfl ?_
              refine s_buildSlice H16 (wt0 rfl) rfl rfl rfl (vs := [.int .i64 k]) rfl Tryd.underlying35 sz3 ze3 rfl rfl (cells := #[.int .i64 k]) (by kernel_rfl) ?_
              intro g17 wq18 H19
              refine y_k (H19.mask [false, false, false, false, true, true, false]) (H19.mask [false, false, false, false, false, false, false]) ?_
              refine y_one (i := 15) (by kernel_rfl) rfl ?_
              have hln24a := (H19.rwReads (k := 2) rfl).lenL intE
              have hln24 : (x.holds ++ [k]).length = x.holds.length + 1 := by simp only [List.length_append, List.length_cons, List.length_nil] <;> omega
              refine s_appBn (m := 1) (l := x.holds) (l2 := [k]) intE H19 2 (j0 := 0) rfl rfl ⟨rfl, Nat.le_refl _⟩ (wt0 rfl) rfl rfl rfl rfl rfl rfl Tryd.underlying35 inf3 rfl (by decide) (by omega) ?_
              intro p20 c21 wq22 H23
              replace H23 : S wq22 [Ob g17 (.cells #[.int .i64 k] 3 (0, 0)), Rw 3 1 x.tp x.told.length x.tc (fl intL x.told), Rw 3 1 p20 ((x.holds ++ [k]).length) c21 (fl intL (x.holds ++ [k])), (Lst RoI (rs.eraseIdx i)), Ob h (.cells #[.string seed, .int .i64 ((n : Int)), .slice pp rs.length kc] 52 (0, 0)), Rw 61 3 pp rs.length kc (fl shwL rs), Old w (fps [(RM.I ⟨h, pp, kc, seed, n, rs⟩)])] := H23
              refine y_k (H23.mask [false, false, false, false, true, true, false]) (H23.mask [false, false, false, false, false, false, false]) ?_
              refine y_pure (v := .pointer ((pp).map fun q => q.add (i * 3))) 16 rfl (wt0 rfl) rfl rfl rfl (by kernel_rfl) (by kernel_rfl) (by kernel_rfl) (by kernel_rfl) (fun wx => x_idxP i ((H23.rwReads (k := 5) rfl).some (by omega)) rfl rfl rfl Tryd.underlying50 sz61 (by omega)) ?_
              refine y_pure (v := .pointer ((pp).map fun q => q.add (i * 3 + 2))) 17 rfl (wt0 rfl) rfl rfl rfl (by kernel_rfl) (by kernel_rfl) (by kernel_rfl) (by kernel_rfl) (fun wx => ex_cast (x_fieldAddrG (m := i * 3) ((H23.rwReads (k := 5) rfl).some (by omega)) rfl rfl fo61_2) rfl) ?_
              refine y_one (i := 18) (by kernel_rfl) rfl ?_
              refine s_fldL (i := 2) (j := i) shwE ({ x with hp := p20, hc := c21, holds := (x.holds ++ [k]) } : Shr) H23 5 (wt0 rfl) rfl rfl rfl rfl rfl hx rfl (by decide) sz35 rfl rfl ?_
              intro wq25 H26
              replace H26 : S wq25 [Ob g17 (.cells #[.int .i64 k] 3 (0, 0)), Rw 3 1 x.tp x.told.length x.tc (fl intL x.told), Rw 3 1 p20 ((x.holds ++ [k]).length) c21 (fl intL (x.holds ++ [k])), (Lst RoI (rs.eraseIdx i)), Ob h (.cells #[.string seed, .int .i64 ((n : Int)), .slice pp rs.length kc] 52 (0, 0)), Rw 61 3 pp rs.length kc (fl shwL (rs.set i ({ x with hp := p20, hc := c21, holds := (x.holds ++ [k]) } : Shr))), Old w (fps [(RM.I ⟨h, pp, kc, seed, n, rs⟩)])] := H26
              refine y_kt rfl (H26.mask [false, false, false, false, false, false, false]) ?_
              refine y_done (by kernel_rfl) ?_
              refine g_then ?_
              refine g_weak [] trivial ?_
              refine g_seq ?_
              refine g_region ?_
              refine l_of (s_val (v := .int .i64 0) (wt0 rfl) rfl rfl (x_assign rfl rfl) ?_)
              refine g_nil ?_
              refine g_then ?_
              refine g_ret ?_
              refine fin_ret [.tmp 6] [.int .i64 0] rfl ⟨rfl, trivial⟩ ?_
              have h7 : ¬ id < 0 := by unfold ask7 at *; split at * <;> omega
              have hnk : k ∉ x.sh.holds := of_decide_eq_false hb13
              have hv : holdsE (⟨seed, n, rs.map Shr.sh⟩ : SP) id k = 0 := by unfold holdsE; rw [if_neg (show ¬ (id < 0 ∨ k < 0 ∨ (SP.n (⟨seed, n, rs.map Shr.sh⟩ : SP) : Int) ≤ k) from (by show ¬ (id < 0 ∨ k < 0 ∨ (n : Int) ≤ k); omega)), show fnd (SP.ps (⟨seed, n, rs.map Shr.sh⟩ : SP)) id = some i from hf]; show (if k ∈ (getP (⟨seed, n, rs.map Shr.sh⟩ : SP) i).holds then (9 : Int) else 0) = 0; rw [hg9]; exact if_neg hnk
              have hA : holdsA (⟨seed, n, rs.map Shr.sh⟩ : SP) id k = ⟨seed, n, (rs.set i ({ x with hp := p20, hc := c21, holds := (x.holds ++ [k]) } : Shr)).map Shr.sh⟩ := by unfold holdsA; rw [if_pos hv, show fnd (SP.ps (⟨seed, n, rs.map Shr.sh⟩ : SP)) id = some i from hf, List.map_set]; show (⟨seed, n, (rs.map Shr.sh).set i { getP (⟨seed, n, rs.map Shr.sh⟩ : SP) i with holds := (getP (⟨seed, n, rs.map Shr.sh⟩ : SP) i).holds ++ [k] }⟩ : SP) = _; rw [hg9]; rfl
              rw [hv]
              have hln : (rs.set i ({ x with hp := p20, hc := c21, holds := (x.holds ++ [k]) } : Shr)).length = rs.length := List.length_set
              have h9 := (S.lstIn (F := RoI) (x := ({ x with hp := p20, hc := c21, holds := (x.holds ++ [k]) } : Shr)) (S.big (L := [_, _]) (H26.takes [1, 2, 3, 4, 5, 6] (by decide))) hil)
              exact ⟨⟨h, pp, kc, seed, n, (rs.set i ({ x with hp := p20, hc := c21, holds := (x.holds ++ [k]) } : Shr))⟩, rfl, hA.symm, rfl, rm_fold hln (h9.takes [1, 2, 0, 3] (by decide))⟩
        · skip
          replace H7 : S wq6 [Ob h (.cells #[.string seed, .int .i64 ((n : Int)), .slice pp rs.length kc] 52 (0, 0)), Rw 61 3 pp rs.length kc (fl shwL rs), (Lst RoI rs), Old w (fps [(RM.I ⟨h, pp, kc, seed, n, rs⟩)])] := H2.absorbI (new := [Ob h (.cells #[.string seed, .int .i64 ((n : Int)), .slice pp rs.length kc] 52 (0, 0)), Rw 61 3 pp rs.length kc (fl shwL rs), (Lst RoI rs)]) [0, 1, 2] H7
          refine b_ret rfl rfl ?_
          refine l_of (s_val (v := .int .i64 (-1)) (wt0 rfl) rfl rfl (x_assign rfl rfl) ?_)
          refine g_nil ?_
          refine g_then ?_
          refine g_seq ?_
          refine g_block ?_
          refine g_seq ?_
          refine g_region ?_
          refine l_of (s_val (v := .int .i64 (-1)) (wt0 rfl) rfl rfl (x_move rfl rfl) ?_)
          refine l_of (s_val (v := .bool (decide ((-1 : Int) < 0))) (wt0 rfl) rfl rfl (x_bin rfl rfl rfl b_lss) ?_)
          refine l_of (s_val (v := .bool (decide ((-1 : Int) < 0))) (wt0 rfl) rfl rfl (x_assign rfl rfl) ?_)
          refine g_nil ?_
          refine g_then ?_
          refine g_cond_t rfl (by decide) ?_
          refine g_seq ?_
          refine g_region ?_
          refine l_of (s_val (v := .int .i64 8) (wt0 rfl) rfl rfl (x_assign rfl rfl) ?_)
          refine g_nil ?_
          refine g_then ?_
          refine g_ret ?_
          refine g_in_ret ?_
          refine g_then_ret ?_
          refine fin_ret [.tmp 6] [.int .i64 8] rfl ⟨rfl, trivial⟩ ?_
          have h7 : ¬ id < 0 := by unfold ask7 at *; split at * <;> omega
          have hv : holdsE (⟨seed, n, rs.map Shr.sh⟩ : SP) id k = 8 := by unfold holdsE; rw [if_neg (show ¬ (id < 0 ∨ k < 0 ∨ (SP.n (⟨seed, n, rs.map Shr.sh⟩ : SP) : Int) ≤ k) from (by show ¬ (id < 0 ∨ k < 0 ∨ (n : Int) ≤ k); omega)), show fnd (SP.ps (⟨seed, n, rs.map Shr.sh⟩ : SP)) id = none from hf]
          have hE : holdsE (⟨seed, n, rs.map Shr.sh⟩ : SP) id k = 8 := by exact hv
          have hA : holdsA (⟨seed, n, rs.map Shr.sh⟩ : SP) id k = (⟨seed, n, rs.map Shr.sh⟩ : SP) := by unfold holdsA; rw [hE]; exact if_neg (by decide)
          rw [hE]
          exact ⟨⟨h, pp, kc, seed, n, rs⟩, rfl, hA.symm, rfl, (S.big (L := [_, _, _]) (H7.takes [0, 1, 2, 3] (by decide)))⟩
  · skip
    refine g_cond_t rfl (nt hb3) ?_
    refine g_seq ?_
    refine g_region ?_
    refine l_of (s_val (v := .int .i64 ((ask7 id))) (wt0 rfl) rfl rfl (x_move rfl rfl) ?_)
    refine l_of (s_val (v := .int .i64 ((ask7 id))) (wt0 rfl) rfl rfl (x_assign rfl rfl) ?_)
    refine g_nil ?_
    refine g_then ?_
    refine g_ret ?_
    refine g_then_ret ?_
    refine fin_ret [.tmp 6] [.int .i64 ((ask7 id))] rfl ⟨rfl, trivial⟩ ?_
    have h7 : id < 0 := by unfold ask7 at *; split at * <;> omega
    have h8 : ask7 id = 7 := if_pos h7
    rw [h8]
    have hv : holdsE (⟨seed, n, rs.map Shr.sh⟩ : SP) id k = 7 := by unfold holdsE; exact if_pos (.inl h7)
    have hE : holdsE (⟨seed, n, rs.map Shr.sh⟩ : SP) id k = 7 := by exact hv
    have hA : holdsA (⟨seed, n, rs.map Shr.sh⟩ : SP) id k = (⟨seed, n, rs.map Shr.sh⟩ : SP) := by unfold holdsA; rw [hE]; exact if_neg (by decide)
    rw [hE]
    exact ⟨⟨h, pp, kc, seed, n, rs⟩, rfl, hA.symm, rfl, (S.big (L := [_, _, _]) (H2.takes [0, 1, 2, 3] (by decide)))⟩
set_option maxRecDepth 20000 in
set_option maxHeartbeats 4000000 in
set_option maxRecDepth 20000 in
set_option maxHeartbeats 4000000 in
theorem comer_s (j h : Nat) (pp : Option Addr) (kc : Nat) (seed : ByteArray) (n : Nat) (rs : List Shr) (hZ : PI j (⟨seed, n, rs.map Shr.sh⟩ : SP)) (hj : j ≤ 1000) (id : Int)  (w : World) (HS : S w [(RM.I ⟨h, pp, kc, seed, n, rs⟩)]) : Calls Tryd.prog 8 #[.pointer (some ⟨h, 0, none⟩), .int .i64 id] w fun e w' => ∃ Y : RM, Y.h = h ∧ Y.A = comeA (⟨seed, n, rs.map Shr.sh⟩ : SP) id ∧ e = .returned (.int .i64 (comeE (⟨seed, n, rs.map Shr.sh⟩ : SP) id)) ∧ S w' ([Y.I] ++ [Old w (fps [(RM.I ⟨h, pp, kc, seed, n, rs⟩)])]) := by
  have H00 := HS.beginI
  have H0 : S w ([(RM.I ⟨h, pp, kc, seed, n, rs⟩), Old w (fps [(RM.I ⟨h, pp, kc, seed, n, rs⟩)])]) := H00
  have hPI : PI j (⟨seed, n, rs.map Shr.sh⟩ : SP) := hZ
  have hps : rs.length ≤ j := by have := hPI.len; simpa using this
  have hn30 : n ≤ 30 := hPI.n30
  have hrok : ∀ (i9 : Nat) (x9 : Shr), rs[i9]? = some x9 → x9.told.length ≤ j ∧ x9.holds.length ≤ j := fun i9 x9 h9 => by have h8 := hPI.at (i := i9) (p := x9.sh) (by show (rs.map Shr.sh)[i9]? = _; rw [List.getElem?_map, h9]; rfl); exact ⟨h8.2.1, h8.2.2.1⟩
  replace H0 : S w [Ob h (.cells #[.string seed, .int .i64 ((n : Int)), .slice pp rs.length kc] 52 (0, 0)), Rw 61 3 pp rs.length kc (fl shwL rs), (Lst RoI rs), Old w (fps [(RM.I ⟨h, pp, kc, seed, n, rs⟩)])] := S.unbig H0
  refine enter 27 Tryd.func8 rfl rfl rfl ?_
  refine g_weak [(0, .pointer (some ⟨h, 0, none⟩)), (1, .int .i64 id)] ⟨rfl, rfl, trivial⟩ ?_
  refine g_seq ?_
  refine g_region ?_
  refine l_of (s_val (v := .int .i64 0) (wt0 rfl) rfl rfl (x_assign rfl rfl) ?_)
  refine g_nil ?_
  refine g_then ?_
  refine g_seq ?_
  refine g_seq ?_
  refine g_region ?_
  refine l_of (s_val (v := .pointer (some ⟨h, 0, none⟩)) (wt0 rfl) rfl rfl (x_move rfl rfl) ?_)
  refine l_of (s_val (v := .int .i64 id) (wt0 rfl) rfl rfl (x_move rfl rfl) ?_)
  refine l_of (s_call (wt0 rfl) (x_call' rfl rfl cl25) (askedr_s h id _) ?_)
  rintro _ wq1 ⟨rfl, H2⟩
  replace H2 : S wq1 [Ob h (.cells #[.string seed, .int .i64 ((n : Int)), .slice pp rs.length kc] 52 (0, 0)), Rw 61 3 pp rs.length kc (fl shwL rs), (Lst RoI rs), Old w (fps [(RM.I ⟨h, pp, kc, seed, n, rs⟩)])] := H0.absorb (new := []) H2
  refine b_ret rfl rfl ?_
  refine l_of (s_val (v := .int .i64 ((ask7 id))) (wt0 rfl) rfl rfl (x_assign rfl rfl) ?_)
  refine g_nil ?_
  refine g_then ?_
  refine g_seq ?_
  refine g_region ?_
  refine l_of (s_val (v := .int .i64 ((ask7 id))) (wt0 rfl) rfl rfl (x_move rfl rfl) ?_)
  refine l_of (s_val (v := .bool (!decide (((ask7 id) : Int) = 0))) (wt0 rfl) rfl rfl (x_bin rfl rfl rfl b_neq) ?_)
  refine g_nil ?_
  refine g_then ?_
  by_cases hb3 : ((ask7 id) : Int) = 0
  · skip
    refine g_cond_f rfl (nf hb3) ?_
    refine g_skip ?_
    refine g_then ?_
    refine g_seq ?_
    refine g_seq ?_
    refine g_region ?_
    refine l_of (s_val (v := .pointer (some ⟨h, 0, none⟩)) (wt0 rfl) rfl rfl (x_move rfl rfl) ?_)
    refine l_of (s_val (v := .int .i64 id) (wt0 rfl) rfl rfl (x_move rfl rfl) ?_)
    refine l_of (s_call (wt0 rfl) (x_call' rfl rfl cl26) (findr_s j h pp kc seed n rs hZ hj id _ (H2.takes [0, 1, 2] (by decide))) ?_)
    rintro ee6 wq4 hor7
    rcases hor7 with ⟨i, x, hx, hxi, hf, rfl, H5⟩ | ⟨hf, rfl, H5⟩
    · skip
      replace H5 : S wq4 [Ob h (.cells #[.string seed, .int .i64 ((n : Int)), .slice pp rs.length kc] 52 (0, 0)), Rw 61 3 pp rs.length kc (fl shwL rs), (Lst RoI rs), Old w (fps [(RM.I ⟨h, pp, kc, seed, n, rs⟩)])] := H2.absorbI (new := [Ob h (.cells #[.string seed, .int .i64 ((n : Int)), .slice pp rs.length kc] 52 (0, 0)), Rw 61 3 pp rs.length kc (fl shwL rs), (Lst RoI rs)]) [0, 1, 2] H5
      have hlx := hrok i x hx
      have hil := (List.getElem?_eq_some_iff.1 hx).1
      have hqx : (rs.map Shr.sh)[i]? = some x.sh := by rw [List.getElem?_map, hx]; rfl
      have hg9 : getP (⟨seed, n, rs.map Shr.sh⟩ : SP) i = x.sh := getP_at hqx
      have hpk := hPI.at (p := x.sh) hqx
      refine b_ret rfl rfl ?_
      refine l_of (s_val (v := .bool (decide ((0 : Int) ≤ (i : Int)))) (wt0 rfl) rfl rfl (x_bin rfl rfl rfl b_geq) ?_)
      refine g_nil ?_
      refine g_then ?_
      by_cases hb8 : (0 : Int) ≤ (i : Int)
      · skip
        refine g_cond_t rfl (decide_eq_true hb8) ?_
        refine g_seq ?_
        refine g_region ?_
        refine l_of (s_val (v := .int .i64 6) (wt0 rfl) rfl rfl (x_assign rfl rfl) ?_)
        refine g_nil ?_
        refine g_then ?_
        refine g_weak [(4, .int .i64 6)] ⟨rfl, trivial⟩ ?_
        refine g_ret ?_
        refine g_then_ret ?_
        refine fin_ret [.tmp 4] [.int .i64 6] rfl ⟨rfl, trivial⟩ ?_
        have hv : comeE (⟨seed, n, rs.map Shr.sh⟩ : SP) id = 6 := by unfold comeE; rw [show fnd (SP.ps (⟨seed, n, rs.map Shr.sh⟩ : SP)) id = some i from hf]
        have hE : comeE (⟨seed, n, rs.map Shr.sh⟩ : SP) id = 6 := by exact hv
        have hA : comeA (⟨seed, n, rs.map Shr.sh⟩ : SP) id = (⟨seed, n, rs.map Shr.sh⟩ : SP) := by unfold comeA; rw [hE]; exact if_neg (by decide)
        rw [hE]
        exact ⟨⟨h, pp, kc, seed, n, rs⟩, rfl, hA.symm, rfl, (S.big (L := [_, _, _]) (H5.takes [0, 1, 2, 3] (by decide)))⟩
      · skip
        refine g_cond_f rfl (decide_eq_false hb8) ?_
        refine g_skip ?_
        refine g_then ?_
        refine g_seq ?_
        refine g_region ?_
        refine l_of (s_val (v := .pointer (some ⟨h, 0, none⟩)) (wt0 rfl) rfl rfl (x_move rfl rfl) ?_)
        refine l_of (s_val (v := .pointer (some ⟨h, 0, none⟩)) (wt0 rfl) rfl rfl (x_move rfl rfl) ?_)
        refine l_of (s_val (v := .pointer (some ⟨h, 0, none⟩)) (wt0 rfl) rfl rfl (x_nilCheck rfl rfl) ?_)
        refine l_of (s_val (v := .pointer (some ⟨h, 2, none⟩)) (wt0 rfl) rfl rfl (x_fieldAddr rfl rfl fo52_2 rfl) ?_)
        refine l_of (s_val (v := .slice pp rs.length kc) (wt0 rfl) rfl rfl (x_load1 H5 0 rfl rfl Tryd.underlying50 rfl rfl rfl) ?_)
        refine l_of (s_val (v := .int .i64 id) (wt0 rfl) rfl rfl (x_move rfl rfl) ?_)
        refine l_of (s_val (v := .agg #[.int .i64 id, .slice none 0 0, .slice none 0 0]) (wt0 rfl) rfl rfl (x_build (vs := [.int .i64 id]) rfl rfl (cells := #[.int .i64 id, .slice none 0 0, .slice none 0 0]) (by kernel_rfl)) ?_)
        refine l_of (s_buildSlice H5 (wt0 rfl) rfl rfl rfl (vs := [.agg #[.int .i64 id, .slice none 0 0, .slice none 0 0]]) rfl Tryd.underlying50 sz61 ze61 rfl rfl (cells := #[.int .i64 id, .slice none 0 0, .slice none 0 0]) (by kernel_rfl) ?_)
        intro g9 wq10 H11
        have hln16a := (H11.rwReads (k := 2) rfl).lenL shwE
        have hln16 : (rs ++ [(⟨id, none, 0, [], none, 0, []⟩ : Shr)]).length = rs.length + 1 := by simp only [List.length_append, List.length_cons, List.length_nil] <;> omega
        refine l_of (s_appBn (m := 1) (l := rs) (l2 := [(⟨id, none, 0, [], none, 0, []⟩ : Shr)]) shwE H11 2 (j0 := 0) rfl rfl ⟨rfl, Nat.le_refl _⟩ (wt0 rfl) rfl rfl rfl rfl rfl rfl Tryd.underlying50 inf61 rfl (by decide) (by omega) ?_)
        intro p12 c13 wq14 H15
        replace H15 : S wq14 [Ob g9 (.cells #[.int .i64 id, .slice none 0 0, .slice none 0 0] 61 (0, 0)), Ob h (.cells #[.string seed, .int .i64 ((n : Int)), .slice pp rs.length kc] 52 (0, 0)), Rw 61 3 p12 ((rs ++ [(⟨id, none, 0, [], none, 0, []⟩ : Shr)]).length) c13 (fl shwL (rs ++ [(⟨id, none, 0, [], none, 0, []⟩ : Shr)])), (Lst RoI rs), Old w (fps [(RM.I ⟨h, pp, kc, seed, n, rs⟩)])] := H15
        refine l_of (s_val (v := .pointer (some ⟨h, 0, none⟩)) (wt0 rfl) rfl rfl (x_nilCheck rfl rfl) ?_)
        refine l_of (s_val (v := .pointer (some ⟨h, 2, none⟩)) (wt0 rfl) rfl rfl (x_fieldAddr rfl rfl fo52_2 rfl) ?_)
        refine l_of (s_store H15 1 (wt0 rfl) rfl rfl rfl rfl rfl sz50 rfl rfl (cs' := #[.string seed, .int .i64 ((n : Int)), .slice p12 ((rs ++ [(⟨id, none, 0, [], none, 0, []⟩ : Shr)]).length) c13]) rfl ?_)
        intro wq17 H18
        refine g_nil ?_
        refine g_then ?_
        refine g_weak [] trivial ?_
        refine g_seq ?_
        refine g_region ?_
        refine l_of (s_val (v := .int .i64 0) (wt0 rfl) rfl rfl (x_assign rfl rfl) ?_)
        refine g_nil ?_
        refine g_then ?_
        refine g_ret ?_
        refine fin_ret [.tmp 4] [.int .i64 0] rfl ⟨rfl, trivial⟩ ?_
        omega
    · skip
      replace H5 : S wq4 [Ob h (.cells #[.string seed, .int .i64 ((n : Int)), .slice pp rs.length kc] 52 (0, 0)), Rw 61 3 pp rs.length kc (fl shwL rs), (Lst RoI rs), Old w (fps [(RM.I ⟨h, pp, kc, seed, n, rs⟩)])] := H2.absorbI (new := [Ob h (.cells #[.string seed, .int .i64 ((n : Int)), .slice pp rs.length kc] 52 (0, 0)), Rw 61 3 pp rs.length kc (fl shwL rs), (Lst RoI rs)]) [0, 1, 2] H5
      refine b_ret rfl rfl ?_
      refine l_of (s_val (v := .bool (decide ((0 : Int) ≤ -1))) (wt0 rfl) rfl rfl (x_bin rfl rfl rfl b_geq) ?_)
      refine g_nil ?_
      refine g_then ?_
      refine g_cond_f rfl (by decide) ?_
      refine g_skip ?_
      refine g_then ?_
      refine g_seq ?_
      refine g_region ?_
      refine l_of (s_val (v := .pointer (some ⟨h, 0, none⟩)) (wt0 rfl) rfl rfl (x_move rfl rfl) ?_)
      refine l_of (s_val (v := .pointer (some ⟨h, 0, none⟩)) (wt0 rfl) rfl rfl (x_move rfl rfl) ?_)
      refine l_of (s_val (v := .pointer (some ⟨h, 0, none⟩)) (wt0 rfl) rfl rfl (x_nilCheck rfl rfl) ?_)
      refine l_of (s_val (v := .pointer (some ⟨h, 2, none⟩)) (wt0 rfl) rfl rfl (x_fieldAddr rfl rfl fo52_2 rfl) ?_)
      refine l_of (s_val (v := .slice pp rs.length kc) (wt0 rfl) rfl rfl (x_load1 H5 0 rfl rfl Tryd.underlying50 rfl rfl rfl) ?_)
      refine l_of (s_val (v := .int .i64 id) (wt0 rfl) rfl rfl (x_move rfl rfl) ?_)
      refine l_of (s_val (v := .agg #[.int .i64 id, .slice none 0 0, .slice none 0 0]) (wt0 rfl) rfl rfl (x_build (vs := [.int .i64 id]) rfl rfl (cells := #[.int .i64 id, .slice none 0 0, .slice none 0 0]) (by kernel_rfl)) ?_)
      refine l_of (s_buildSlice H5 (wt0 rfl) rfl rfl rfl (vs := [.agg #[.int .i64 id, .slice none 0 0, .slice none 0 0]]) rfl Tryd.underlying50 sz61 ze61 rfl rfl (cells := #[.int .i64 id, .slice none 0 0, .slice none 0 0]) (by kernel_rfl) ?_)
      intro g19 wq20 H21
      have hln26a := (H21.rwReads (k := 2) rfl).lenL shwE
      have hln26 : (rs ++ [(⟨id, none, 0, [], none, 0, []⟩ : Shr)]).length = rs.length + 1 := by simp only [List.length_append, List.length_cons, List.length_nil] <;> omega
      refine l_of (s_appBn (m := 1) (l := rs) (l2 := [(⟨id, none, 0, [], none, 0, []⟩ : Shr)]) shwE H21 2 (j0 := 0) rfl rfl ⟨rfl, Nat.le_refl _⟩ (wt0 rfl) rfl rfl rfl rfl rfl rfl Tryd.underlying50 inf61 rfl (by decide) (by omega) ?_)
      intro p22 c23 wq24 H25
      replace H25 : S wq24 [Ob g19 (.cells #[.int .i64 id, .slice none 0 0, .slice none 0 0] 61 (0, 0)), Ob h (.cells #[.string seed, .int .i64 ((n : Int)), .slice pp rs.length kc] 52 (0, 0)), Rw 61 3 p22 ((rs ++ [(⟨id, none, 0, [], none, 0, []⟩ : Shr)]).length) c23 (fl shwL (rs ++ [(⟨id, none, 0, [], none, 0, []⟩ : Shr)])), (Lst RoI rs), Old w (fps [(RM.I ⟨h, pp, kc, seed, n, rs⟩)])] := H25
      refine l_of (s_val (v := .pointer (some ⟨h, 0, none⟩)) (wt0 rfl) rfl rfl (x_nilCheck rfl rfl) ?_)
      refine l_of (s_val (v := .pointer (some ⟨h, 2, none⟩)) (wt0 rfl) rfl rfl (x_fieldAddr rfl rfl fo52_2 rfl) ?_)
      refine l_of (s_store H25 1 (wt0 rfl) rfl rfl rfl rfl rfl sz50 rfl rfl (cs' := #[.string seed, .int .i64 ((n : Int)), .slice p22 ((rs ++ [(⟨id, none, 0, [], none, 0, []⟩ : Shr)]).length) c23]) rfl ?_)
      intro wq27 H28
      refine g_nil ?_
      refine g_then ?_
      refine g_weak [] trivial ?_
      refine g_seq ?_
      refine g_region ?_
      refine l_of (s_val (v := .int .i64 0) (wt0 rfl) rfl rfl (x_assign rfl rfl) ?_)
      refine g_nil ?_
      refine g_then ?_
      refine g_ret ?_
      refine fin_ret [.tmp 4] [.int .i64 0] rfl ⟨rfl, trivial⟩ ?_
      have h7 : ¬ id < 0 := by unfold ask7 at *; split at * <;> omega
      have hv : comeE (⟨seed, n, rs.map Shr.sh⟩ : SP) id = 0 := by unfold comeE; rw [show fnd (SP.ps (⟨seed, n, rs.map Shr.sh⟩ : SP)) id = none from hf]; exact if_neg h7
      have hA : comeA (⟨seed, n, rs.map Shr.sh⟩ : SP) id = ⟨seed, n, (rs ++ [(⟨id, none, 0, [], none, 0, []⟩ : Shr)]).map Shr.sh⟩ := by unfold comeA; rw [if_pos hv, List.map_append]; rfl
      rw [hv]
      have h8 := (H28.nilFl 3 1 intL).nilFl 3 1 intL
      have h9 := S.lstSnoc (F := RoI) (x := (⟨id, none, 0, [], none, 0, []⟩ : Shr)) (S.big (L := [_, _]) (h8.takes [0, 1, 5, 3, 4, 6] (by decide)))
      exact ⟨⟨h, p22, c23, seed, n, (rs ++ [(⟨id, none, 0, [], none, 0, []⟩ : Shr)])⟩, rfl, hA.symm, rfl, rm_fold rfl (h9.takes [1, 2, 0, 3] (by decide))⟩
  · skip
    refine g_cond_t rfl (nt hb3) ?_
    refine g_seq ?_
    refine g_region ?_
    refine l_of (s_val (v := .int .i64 ((ask7 id))) (wt0 rfl) rfl rfl (x_move rfl rfl) ?_)
    refine l_of (s_val (v := .int .i64 ((ask7 id))) (wt0 rfl) rfl rfl (x_assign rfl rfl) ?_)
    refine g_nil ?_
    refine g_then ?_
    refine g_ret ?_
    refine g_then_ret ?_
    refine fin_ret [.tmp 4] [.int .i64 ((ask7 id))] rfl ⟨rfl, trivial⟩ ?_
    have h7 : id < 0 := by unfold ask7 at *; split at * <;> omega
    have h8 : ask7 id = 7 := if_pos h7
    rw [h8]
    have hf : fnd (rs.map Shr.sh) id = none := by cases h9 : fnd (rs.map Shr.sh) id with | none => rfl | some i9 => have := hPI.neg (id := id) h9; omega
    have hv : comeE (⟨seed, n, rs.map Shr.sh⟩ : SP) id = 7 := by unfold comeE; rw [show fnd (SP.ps (⟨seed, n, rs.map Shr.sh⟩ : SP)) id = none from hf]; exact if_pos h7
    have hE : comeE (⟨seed, n, rs.map Shr.sh⟩ : SP) id = 7 := by exact hv
    have hA : comeA (⟨seed, n, rs.map Shr.sh⟩ : SP) id = (⟨seed, n, rs.map Shr.sh⟩ : SP) := by unfold comeA; rw [hE]; exact if_neg (by decide)
    rw [hE]
    exact ⟨⟨h, pp, kc, seed, n, rs⟩, rfl, hA.symm, rfl, (S.big (L := [_, _, _]) (H2.takes [0, 1, 2, 3] (by decide)))⟩
set_option maxRecDepth 20000 in
set_option maxHeartbeats 4000000 in
set_option maxRecDepth 20000 in
set_option maxHeartbeats 4000000 in
theorem gor_s (j h : Nat) (pp : Option Addr) (kc : Nat) (seed : ByteArray) (n : Nat) (rs : List Shr) (hZ : PI j (⟨seed, n, rs.map Shr.sh⟩ : SP)) (hj : j ≤ 1000) (id : Int)  (w : World) (HS : S w [(RM.I ⟨h, pp, kc, seed, n, rs⟩)]) : Calls Tryd.prog 10 #[.pointer (some ⟨h, 0, none⟩), .int .i64 id] w fun e w' => ∃ Y : RM, Y.h = h ∧ Y.A = goA (⟨seed, n, rs.map Shr.sh⟩ : SP) id ∧ e = .returned (.int .i64 (goE (⟨seed, n, rs.map Shr.sh⟩ : SP) id)) ∧ S w' ([Y.I] ++ [Old w (fps [(RM.I ⟨h, pp, kc, seed, n, rs⟩)])]) := by
  have H00 := HS.beginI
  have H0 : S w ([(RM.I ⟨h, pp, kc, seed, n, rs⟩), Old w (fps [(RM.I ⟨h, pp, kc, seed, n, rs⟩)])]) := H00
  have hPI : PI j (⟨seed, n, rs.map Shr.sh⟩ : SP) := hZ
  have hps : rs.length ≤ j := by have := hPI.len; simpa using this
  have hn30 : n ≤ 30 := hPI.n30
  have hrok : ∀ (i9 : Nat) (x9 : Shr), rs[i9]? = some x9 → x9.told.length ≤ j ∧ x9.holds.length ≤ j := fun i9 x9 h9 => by have h8 := hPI.at (i := i9) (p := x9.sh) (by show (rs.map Shr.sh)[i9]? = _; rw [List.getElem?_map, h9]; rfl); exact ⟨h8.2.1, h8.2.2.1⟩
  replace H0 : S w [Ob h (.cells #[.string seed, .int .i64 ((n : Int)), .slice pp rs.length kc] 52 (0, 0)), Rw 61 3 pp rs.length kc (fl shwL rs), (Lst RoI rs), Old w (fps [(RM.I ⟨h, pp, kc, seed, n, rs⟩)])] := S.unbig H0
  refine enter 39 Tryd.func10 rfl rfl rfl ?_
  refine g_weak [(0, .pointer (some ⟨h, 0, none⟩)), (1, .int .i64 id)] ⟨rfl, rfl, trivial⟩ ?_
  refine g_seq ?_
  refine g_region ?_
  refine l_of (s_val (v := .int .i64 0) (wt0 rfl) rfl rfl (x_assign rfl rfl) ?_)
  refine g_nil ?_
  refine g_then ?_
  refine g_seq ?_
  refine g_seq ?_
  refine g_region ?_
  refine l_of (s_val (v := .pointer (some ⟨h, 0, none⟩)) (wt0 rfl) rfl rfl (x_move rfl rfl) ?_)
  refine l_of (s_val (v := .int .i64 id) (wt0 rfl) rfl rfl (x_move rfl rfl) ?_)
  refine l_of (s_call (wt0 rfl) (x_call' rfl rfl cl25) (askedr_s h id _) ?_)
  rintro _ wq1 ⟨rfl, H2⟩
  replace H2 : S wq1 [Ob h (.cells #[.string seed, .int .i64 ((n : Int)), .slice pp rs.length kc] 52 (0, 0)), Rw 61 3 pp rs.length kc (fl shwL rs), (Lst RoI rs), Old w (fps [(RM.I ⟨h, pp, kc, seed, n, rs⟩)])] := H0.absorb (new := []) H2
  refine b_ret rfl rfl ?_
  refine l_of (s_val (v := .int .i64 ((ask7 id))) (wt0 rfl) rfl rfl (x_assign rfl rfl) ?_)
  refine g_nil ?_
  refine g_then ?_
  refine g_seq ?_
  refine g_region ?_
  refine l_of (s_val (v := .int .i64 ((ask7 id))) (wt0 rfl) rfl rfl (x_move rfl rfl) ?_)
  refine l_of (s_val (v := .bool (!decide (((ask7 id) : Int) = 0))) (wt0 rfl) rfl rfl (x_bin rfl rfl rfl b_neq) ?_)
  refine g_nil ?_
  refine g_then ?_
  by_cases hb3 : ((ask7 id) : Int) = 0
  · skip
    refine g_cond_f rfl (nf hb3) ?_
    refine g_skip ?_
    refine g_then ?_
    refine g_seq ?_
    refine g_region ?_
    refine l_of (s_val (v := .pointer (some ⟨h, 0, none⟩)) (wt0 rfl) rfl rfl (x_move rfl rfl) ?_)
    refine l_of (s_val (v := .int .i64 id) (wt0 rfl) rfl rfl (x_move rfl rfl) ?_)
    refine l_of (s_call (wt0 rfl) (x_call' rfl rfl cl26) (findr_s j h pp kc seed n rs hZ hj id _ (H2.takes [0, 1, 2] (by decide))) ?_)
    rintro ee6 wq4 hor7
    rcases hor7 with ⟨i, x, hx, hxi, hf, rfl, H5⟩ | ⟨hf, rfl, H5⟩
    · skip
      replace H5 : S wq4 [Ob h (.cells #[.string seed, .int .i64 ((n : Int)), .slice pp rs.length kc] 52 (0, 0)), Rw 61 3 pp rs.length kc (fl shwL rs), (Lst RoI rs), Old w (fps [(RM.I ⟨h, pp, kc, seed, n, rs⟩)])] := H2.absorbI (new := [Ob h (.cells #[.string seed, .int .i64 ((n : Int)), .slice pp rs.length kc] 52 (0, 0)), Rw 61 3 pp rs.length kc (fl shwL rs), (Lst RoI rs)]) [0, 1, 2] H5
      have hlx := hrok i x hx
      have hil := (List.getElem?_eq_some_iff.1 hx).1
      have hqx : (rs.map Shr.sh)[i]? = some x.sh := by rw [List.getElem?_map, hx]; rfl
      have hg9 : getP (⟨seed, n, rs.map Shr.sh⟩ : SP) i = x.sh := getP_at hqx
      have hpk := hPI.at (p := x.sh) hqx
      refine b_ret rfl rfl ?_
      refine l_of (s_val (v := .int .i64 ((i : Int))) (wt0 rfl) rfl rfl (x_assign rfl rfl) ?_)
      refine g_nil ?_
      refine g_then ?_
      refine g_seq ?_
      refine g_seq ?_
      refine g_region ?_
      refine l_of (s_val (v := .int .i64 ((i : Int))) (wt0 rfl) rfl rfl (x_move rfl rfl) ?_)
      refine l_of (s_val (v := .bool (decide (((i : Int) : Int) < 0))) (wt0 rfl) rfl rfl (x_bin rfl rfl rfl b_lss) ?_)
      refine g_nil ?_
      refine g_then ?_
      refine g_weak [(0, .pointer (some ⟨h, 0, none⟩)), (6, .int .i64 ((i : Int))), (18, .bool (decide (((i : Int) : Int) < 0)))] ⟨rfl, rfl, rfl, trivial⟩ ?_
      by_cases hb8 : ((i : Int) : Int) < 0
      · skip
        refine g_cond_t rfl (decide_eq_true hb8) ?_
        refine g_seq ?_
        refine g_region ?_
        refine l_of (s_val (v := .int .i64 8) (wt0 rfl) rfl rfl (x_assign rfl rfl) ?_)
        refine g_nil ?_
        refine g_then ?_
        refine g_ret ?_
        refine g_then_ret ?_
        refine fin_ret [.tmp 4] [.int .i64 8] rfl ⟨rfl, trivial⟩ ?_
        omega
      · skip
        refine g_cond_f rfl (decide_eq_false hb8) ?_
        refine g_skip ?_
        refine g_then ?_
        refine g_seq ?_
        refine g_region ?_
        refine l_of (s_val (v := .slice none 0 0) (wt0 rfl) rfl rfl (x_assign rfl rfl) ?_)
        refine g_nil ?_
        refine g_then ?_
        refine g_seq ?_
        refine g_region ?_
        refine l_of (s_val (v := .slice none 0 0) (wt0 rfl) rfl rfl (x_move rfl rfl) ?_)
        refine l_of (s_val (v := .pointer (some ⟨h, 0, none⟩)) (wt0 rfl) rfl rfl (x_move rfl rfl) ?_)
        refine l_of (s_val (v := .pointer (some ⟨h, 0, none⟩)) (wt0 rfl) rfl rfl (x_nilCheck rfl rfl) ?_)
        refine l_of (s_val (v := .pointer (some ⟨h, 2, none⟩)) (wt0 rfl) rfl rfl (x_fieldAddr rfl rfl fo52_2 rfl) ?_)
        refine l_of (s_val (v := .slice pp rs.length kc) (wt0 rfl) rfl rfl (x_load1 H5 0 rfl rfl Tryd.underlying50 rfl rfl rfl) ?_)
        refine l_of (s_val (v := .int .i64 ((i : Int))) (wt0 rfl) rfl rfl (x_move rfl rfl) ?_)
        have hnc := (H5.rwReads (k := 1) rfl).2.1
        refine l_of (s_val (v := .slice pp i kc) (wt0 rfl) rfl rfl (ex_cast (x_sliceH i rfl rfl rfl Tryd.underlying50 sz61 (by omega)) (by rw [cutP0])) ?_)
        have H9 := H5.nilFl 61 3 shwL
        have hln14a := (H9.rwReads (k := 0) rfl).lenL shwE
        have hln14b := ((H9.rwReads (k := 2) rfl).takeL shwE i (by omega)).lenL shwE
        have hln14 : (rs.take i).length = 0 + i := by omega
        refine l_of (s_appLn (l := []) (l2 := (rs.take i)) shwE H9 0 (wt0 rfl) rfl rfl rfl rfl rfl rfl Tryd.underlying50 inf61 rfl (by decide) ((H9.rwReads (k := 2) rfl).takeL shwE i (by omega)) (by omega) ?_)
        intro p10 c11 wq12 H13
        rw [List.nil_append] at H13 ⊢
        replace H13 : S wq12 [Rw 61 3 p10 ((rs.take i).length) c11 (fl shwL (rs.take i)), Ob h (.cells #[.string seed, .int .i64 ((n : Int)), .slice pp rs.length kc] 52 (0, 0)), Rw 61 3 pp rs.length kc (fl shwL rs), (Lst RoI rs), Old w (fps [(RM.I ⟨h, pp, kc, seed, n, rs⟩)])] := H13
        refine l_of (s_val (v := .slice p10 ((rs.take i).length) c11) (wt0 rfl) rfl rfl (x_assign rfl rfl) ?_)
        refine g_nil ?_
        refine g_then ?_
        refine g_seq ?_
        refine g_region ?_
        refine l_of (s_val (v := .pointer (some ⟨h, 0, none⟩)) (wt0 rfl) rfl rfl (x_move rfl rfl) ?_)
        refine l_of (s_val (v := .slice p10 ((rs.take i).length) c11) (wt0 rfl) rfl rfl (x_move rfl rfl) ?_)
        refine l_of (s_val (v := .pointer (some ⟨h, 0, none⟩)) (wt0 rfl) rfl rfl (x_move rfl rfl) ?_)
        refine l_of (s_val (v := .pointer (some ⟨h, 0, none⟩)) (wt0 rfl) rfl rfl (x_nilCheck rfl rfl) ?_)
        refine l_of (s_val (v := .pointer (some ⟨h, 2, none⟩)) (wt0 rfl) rfl rfl (x_fieldAddr rfl rfl fo52_2 rfl) ?_)
        refine l_of (s_val (v := .slice pp rs.length kc) (wt0 rfl) rfl rfl (x_load1 H13 1 rfl rfl Tryd.underlying50 rfl rfl rfl) ?_)
        refine l_of (s_val (v := .int .i64 ((i : Int))) (wt0 rfl) rfl rfl (x_move rfl rfl) ?_)
        refine l_of (s_val (v := .int .i64 (((i + 1 : Nat) : Int))) (wt0 rfl) rfl rfl (x_bin rfl rfl rfl (b_add (by rw [w64 (by omega)]; omega))) ?_)
        have hnc := (H13.rwReads (k := 2) rfl).2.1
        have hnl := (H13.rwReads (k := 2) rfl).lenL shwE
        have hdl : (rs.drop (i + 1)).length = rs.length - (i + 1) := by rw [List.length_drop, ← hnl]
        refine l_of (s_val (v := .slice (cutP pp (i + 1) kc 3) ((rs.drop (i + 1)).length) (kc - (i + 1))) (wt0 rfl) rfl rfl (ex_cast (x_cut (i + 1) rfl rfl rfl Tryd.underlying50 sz61 (by omega)) (by rw [List.length_drop, ← hnl])) ?_)
        have hln19a := (H13.rwReads (k := 0) rfl).lenL shwE
        have hln19b := ((H13.rwReads (k := 2) rfl).cutLn shwE (i + 1) (by omega)).lenL shwE
        have hln19 : ((rs.take i) ++ (rs.drop (i + 1))).length = ((rs.take i).length) + ((rs.drop (i + 1)).length) := by simp only [List.length_append, List.length_cons, List.length_nil] <;> omega
        refine l_of (s_appLn (l := (rs.take i)) (l2 := (rs.drop (i + 1))) shwE H13 0 (wt0 rfl) rfl rfl rfl rfl rfl rfl Tryd.underlying50 inf61 rfl (by decide) ((H13.rwReads (k := 2) rfl).cutLn shwE (i + 1) (by omega)) (by omega) ?_)
        intro p15 c16 wq17 H18
        replace H18 : S wq17 [Rw 61 3 p15 (((rs.take i) ++ (rs.drop (i + 1))).length) c16 (fl shwL ((rs.take i) ++ (rs.drop (i + 1)))), Ob h (.cells #[.string seed, .int .i64 ((n : Int)), .slice pp rs.length kc] 52 (0, 0)), Rw 61 3 pp rs.length kc (fl shwL rs), (Lst RoI rs), Old w (fps [(RM.I ⟨h, pp, kc, seed, n, rs⟩)])] := H18
        refine l_of (s_val (v := .pointer (some ⟨h, 0, none⟩)) (wt0 rfl) rfl rfl (x_nilCheck rfl rfl) ?_)
        refine l_of (s_val (v := .pointer (some ⟨h, 2, none⟩)) (wt0 rfl) rfl rfl (x_fieldAddr rfl rfl fo52_2 rfl) ?_)
        refine l_of (s_store H18 1 (wt0 rfl) rfl rfl rfl rfl rfl sz50 rfl rfl (cs' := #[.string seed, .int .i64 ((n : Int)), .slice p15 (((rs.take i) ++ (rs.drop (i + 1))).length) c16]) rfl ?_)
        intro wq20 H21
        refine g_nil ?_
        refine g_then ?_
        refine g_weak [] trivial ?_
        refine g_seq ?_
        refine g_region ?_
        refine l_of (s_val (v := .int .i64 0) (wt0 rfl) rfl rfl (x_assign rfl rfl) ?_)
        refine g_nil ?_
        refine g_then ?_
        refine g_ret ?_
        refine fin_ret [.tmp 4] [.int .i64 0] rfl ⟨rfl, trivial⟩ ?_
        have hE : goE (⟨seed, n, rs.map Shr.sh⟩ : SP) id = 0 := by unfold goE findE; rw [show fnd (SP.ps (⟨seed, n, rs.map Shr.sh⟩ : SP)) id = some i from hf]
        have hA : goA (⟨seed, n, rs.map Shr.sh⟩ : SP) id = ⟨seed, n, (rs.eraseIdx i).map Shr.sh⟩ := by unfold goA; rw [show fnd (SP.ps (⟨seed, n, rs.map Shr.sh⟩ : SP)) id = some i from hf, map_eraseF]
        rw [hE]
        have e1 : ((rs.take i) ++ (rs.drop (i + 1))) = (rs.eraseIdx i) := (List.eraseIdx_eq_take_drop_succ rs i).symm
        rw [e1] at H21
        have h9 := S.lstOut (F := RoI) (H21.takes [3, 1, 0, 4] (by decide)) hx
        exact ⟨⟨h, p15, c16, seed, n, (rs.eraseIdx i)⟩, rfl, hA.symm, rfl, rm_fold rfl (h9.takes [2, 3, 1, 4] (by decide))⟩
    · skip
      replace H5 : S wq4 [Ob h (.cells #[.string seed, .int .i64 ((n : Int)), .slice pp rs.length kc] 52 (0, 0)), Rw 61 3 pp rs.length kc (fl shwL rs), (Lst RoI rs), Old w (fps [(RM.I ⟨h, pp, kc, seed, n, rs⟩)])] := H2.absorbI (new := [Ob h (.cells #[.string seed, .int .i64 ((n : Int)), .slice pp rs.length kc] 52 (0, 0)), Rw 61 3 pp rs.length kc (fl shwL rs), (Lst RoI rs)]) [0, 1, 2] H5
      refine b_ret rfl rfl ?_
      refine l_of (s_val (v := .int .i64 (-1)) (wt0 rfl) rfl rfl (x_assign rfl rfl) ?_)
      refine g_nil ?_
      refine g_then ?_
      refine g_seq ?_
      refine g_seq ?_
      refine g_region ?_
      refine l_of (s_val (v := .int .i64 (-1)) (wt0 rfl) rfl rfl (x_move rfl rfl) ?_)
      refine l_of (s_val (v := .bool (decide ((-1 : Int) < 0))) (wt0 rfl) rfl rfl (x_bin rfl rfl rfl b_lss) ?_)
      refine g_nil ?_
      refine g_then ?_
      refine g_weak [(0, .pointer (some ⟨h, 0, none⟩)), (6, .int .i64 (-1)), (18, .bool (decide ((-1 : Int) < 0)))] ⟨rfl, rfl, rfl, trivial⟩ ?_
      refine g_cond_t rfl (by decide) ?_
      refine g_seq ?_
      refine g_region ?_
      refine l_of (s_val (v := .int .i64 8) (wt0 rfl) rfl rfl (x_assign rfl rfl) ?_)
      refine g_nil ?_
      refine g_then ?_
      refine g_ret ?_
      refine g_then_ret ?_
      refine fin_ret [.tmp 4] [.int .i64 8] rfl ⟨rfl, trivial⟩ ?_
      have h7 : ¬ id < 0 := by unfold ask7 at *; split at * <;> omega
      have hE : goE (⟨seed, n, rs.map Shr.sh⟩ : SP) id = 8 := by unfold goE findE; rw [show fnd (SP.ps (⟨seed, n, rs.map Shr.sh⟩ : SP)) id = none from hf]; exact if_neg h7
      have hA : goA (⟨seed, n, rs.map Shr.sh⟩ : SP) id = (⟨seed, n, rs.map Shr.sh⟩ : SP) := by unfold goA; rw [show fnd (SP.ps (⟨seed, n, rs.map Shr.sh⟩ : SP)) id = none from hf]
      rw [hE]
      exact ⟨⟨h, pp, kc, seed, n, rs⟩, rfl, hA.symm, rfl, (S.big (L := [_, _, _]) (H5.takes [0, 1, 2, 3] (by decide)))⟩
  · skip
    refine g_cond_t rfl (nt hb3) ?_
    refine g_seq ?_
    refine g_region ?_
    refine l_of (s_val (v := .int .i64 ((ask7 id))) (wt0 rfl) rfl rfl (x_move rfl rfl) ?_)
    refine l_of (s_val (v := .int .i64 ((ask7 id))) (wt0 rfl) rfl rfl (x_assign rfl rfl) ?_)
    refine g_nil ?_
    refine g_then ?_
    refine g_ret ?_
    refine g_then_ret ?_
    refine fin_ret [.tmp 4] [.int .i64 ((ask7 id))] rfl ⟨rfl, trivial⟩ ?_
    have h7 : id < 0 := by unfold ask7 at *; split at * <;> omega
    have h8 : ask7 id = 7 := if_pos h7
    rw [h8]
    have hf : fnd (rs.map Shr.sh) id = none := by cases h9 : fnd (rs.map Shr.sh) id with | none => rfl | some i9 => have := hPI.neg (id := id) h9; omega
    have hE : goE (⟨seed, n, rs.map Shr.sh⟩ : SP) id = 7 := by unfold goE findE; rw [show fnd (SP.ps (⟨seed, n, rs.map Shr.sh⟩ : SP)) id = none from hf]; exact if_pos h7
    have hA : goA (⟨seed, n, rs.map Shr.sh⟩ : SP) id = (⟨seed, n, rs.map Shr.sh⟩ : SP) := by unfold goA; rw [show fnd (SP.ps (⟨seed, n, rs.map Shr.sh⟩ : SP)) id = none from hf]
    rw [hE]
    exact ⟨⟨h, pp, kc, seed, n, rs⟩, rfl, hA.symm, rfl, (S.big (L := [_, _, _]) (H2.takes [0, 1, 2, 3] (by decide)))⟩
end Go.Proofs.YthfglkkjkpdkpaaDoor
