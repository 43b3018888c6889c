import Derived.Test.YtdkfkdekiljcoaaGreatRI
set_option linter.unusedSimpArgs false
set_option linter.unusedVariables false
namespace Go.Proofs.YtdkfkdekiljcoaaGreat
open Go.RowKit

theorem cl13 : callable Tryz.prog 13 = true := by kernel_rfl
theorem cl22 : callable Tryz.prog 22 = true := by kernel_rfl
theorem cl23 : callable Tryz.prog 23 = true := by kernel_rfl
theorem cl25 : callable Tryz.prog 25 = true := by kernel_rfl
theorem sz55 : szO Tryz.prog 55 = some 1 := by kernel_rfl
theorem row_at {w : World} {e size n c : Nat} {p : Option Addr} {xs : List Value} (h : xs.length = n * size ∧ n ≤ c ∧ c ≤ maxLen ∧ ((p = none ∧ n = 0 ∧ c = 0) ∨ ∃ g o cur, p = some ⟨g, o, none⟩ ∧ w.heap[g]? = some (.cells cur e (0, 0)) ∧ o + c * size ≤ cur.size ∧ ∀ (j : Nat) (u : Value), xs[j]? = some u → cur[o + j]? = some u)) (hn : 0 < n) : ∃ g o, p = some ⟨g, o, none⟩ := by
  rcases h.2.2.2 with ⟨_, h0, _⟩ | ⟨g, o, cur, hp, _⟩
  · omega
  · exact ⟨g, o, hp⟩
theorem may_ok {c : Co} {a b : Wy} {m : M} (h : mayE c a b m = 0) : validP m = true ∧ stepE c a b m = 0 := by
  unfold mayE at h
  by_cases hv : validP m = true
  · rw [if_pos hv] at h; exact ⟨hv, h⟩
  · rw [if_neg hv] at h; cases h
theorem mayO_eq {c : Co} {a b : Wy} {m : M} {y : Wy} {q : Bool} (h : mayE c a b m = 0) (hy : ruleO c a m = y) (hq : (y.bg || !quietB m.kind) = q) : mayO c a b m = { y with bg := q } := by
  obtain ⟨hv, he⟩ := may_ok h
  unfold mayO; rw [if_pos hv]; unfold stepO; rw [if_pos he, hy, hq]
theorem mayQ_eq {c : Co} {a b : Wy} {m : M} {y : Wy} (h : mayE c a b m = 0) (hy : ruleP c b m = y) : mayQ c a b m = y := by
  obtain ⟨hv, he⟩ := may_ok h
  unfold mayQ; rw [if_pos hv]; unfold stepP; rw [if_pos he, hy]
theorem ask_facts {c : Co} {K : Nat} {a b : Wy} {m : M} (hb : WK c K b) (h : mayE c a b m = 0) (hk : m.kind = 8) (hq : ¬ (c.ft = false ∧ b.ck = true)) : b.go (blk m) = none := by
  obtain ⟨hv, he⟩ := may_ok h
  obtain ⟨_, _, h6⟩ := step_facts he
  cases hg : b.go (blk m) with
  | none => rfl
  | some x =>
    have hm := hb.sub (blk m) (by rw [hg]; exact fun e => by cases e)
    unfold ruleE at h6
    rw [if_pos hk] at h6
    by_cases hh : hasB c.n.toNat b.fd m.i1 = false
    · rw [if_pos hh] at h6; exact absurd h6 (by decide)
    · have hcb : chB b.wa (blk m) = true := decide_eq_true hm
      rw [if_neg hh, if_neg hq, if_pos hcb] at h6; exact absurd h6 (by decide)
theorem flat_at4 {l : List (Ch × Bool)} {i k : Nat} (hi : i < l.length) (hk : k < 4) : (qV l)[i * 4 + k]? = (qL (l.getD i Q0))[k]? := by
  have hl : (qL (l.getD i Q0)).length = 4 := rfl
  have h2 : (qL (l.getD i Q0))[k]? = some ((qL (l.getD i Q0))[k]'(by rw [hl]; exact hk)) := List.getElem?_eq_getElem _
  rw [qV_at hi k _ h2, h2]
theorem qV_set {l : List (Ch × Bool)} {i : Nat} (hi : i < l.length) : (qV l).set (i * 4 + 3) (.bool true) = qV (l.set i ((l.getD i Q0).1, true)) := by
  refine List.ext_getElem? fun j => ?_
  rw [List.getElem?_set, qV_len]
  have hlen : (l.set i ((l.getD i Q0).1, true)).length = l.length := List.length_set
  by_cases hj : j < l.length * 4
  · have hd := Nat.div_add_mod j 4
    have hm : j % 4 < 4 := Nat.mod_lt _ (by omega)
    have e1 : (qV (l.set i ((l.getD i Q0).1, true)))[j]? = (qL ((l.set i ((l.getD i Q0).1, true)).getD (j / 4) Q0))[j % 4]? := by
      have := flat_at4 (l := l.set i ((l.getD i Q0).1, true)) (i := j / 4) (k := j % 4) (by rw [hlen]; omega) hm
      rw [← this]; congr 1; omega
    have e2 : (qV l)[j]? = (qL (l.getD (j / 4) Q0))[j % 4]? := by
      have := flat_at4 (l := l) (i := j / 4) (k := j % 4) (by omega) hm
      rw [← this]; congr 1; omega
    rw [e1, e2]
    by_cases h : i = j / 4
    · subst h
      rw [List.getD_eq_getElem?_getD (l := l.set _ _), List.getElem?_set, if_pos rfl, if_pos hi]
      show _ = (qL ((l.getD (j / 4) Q0).1, true))[j % 4]?
      rcases (show j % 4 = 0 ∨ j % 4 = 1 ∨ j % 4 = 2 ∨ j % 4 = 3 by omega) with h3 | h3 | h3 | h3 <;> rw [h3]
      · rw [if_neg (by omega)]; rfl
      · rw [if_neg (by omega)]; rfl
      · rw [if_neg (by omega)]; rfl
      · rw [if_pos (by omega), if_pos (by omega)]; rfl
    · rw [if_neg (by omega), List.getD_eq_getElem?_getD (l := l.set _ _), List.getElem?_set, if_neg h, ← List.getD_eq_getElem?_getD]
  · rw [if_neg (by omega), List.getElem?_eq_none (by rw [qV_len]; omega), List.getElem?_eq_none (by rw [qV_len, hlen]; omega)]
set_option maxRecDepth 20000 in
set_option maxHeartbeats 4000000 in
theorem stepR_o (rg : Nat) (c : Co) (o : Bool) (R R2 : RAd) (a b : Wy) (m : M) (K : Nat) (hK : K ≤ 1099511627776) (hn : 1 ≤ c.n ∧ c.n ≤ 4096) (hKa : WK c K a) (hKb : WK c K b) (w : World) (HS : S w [rgI rg c o R R2 a b, alR R a, rqI R a, alR R2 b, rqI R2 b]) : Calls Tryz.prog 9 #[.pointer (some ⟨rg, 0, none⟩), .bool o, .agg m.cells] w fun e w' => ∃ Rq R2q : RAd, e = .returned (.int .i64 (mayE c a b m)) ∧ S w' ([rgI rg c o Rq R2q (mayO c a b m) (mayQ c a b m), alR Rq (mayO c a b m), rqI Rq (mayO c a b m), alR R2q (mayQ c a b m), rqI R2q (mayQ c a b m)] ++ [olR w rg c o R R2 a b]) := by
 have H0 := HS.beginI
 have hVa := hKa.V
 have hVb := hKb.V
 have hal := Nat.le_trans hKa.al hK
 have hwa := Nat.le_trans hKa.wa hK
 have hwb := Nat.le_trans hKb.wa hK
 refine enter 230 Tryz.func9 rfl rfl rfl ?_
 refine g_weak [(0, .pointer (some ⟨rg, 0, none⟩)), (1, .bool o), (2, .agg m.cells)] ⟨rfl, rfl, rfl, trivial⟩ ?_
 refine w_s ?_
 refine l_of (s_box H0 (wt0 rfl) rfl rfl rfl rfl ?_)
 intro g1 wq2 H3
 refine w_a ?_
 refine w_e ?_
 refine g_seq ?_
 refine w_s ?_
 refine w_r2 ?_
 refine w_v (v := .agg m.cells) (x_loadA H3 0 rfl rfl Tryz.underlying26 rfl sz26 rfl rfl rfl) ?_
 refine l_of (s_callK H3 [1, 2, 3, 4, 5] [5, 0, 1, 2, 3, 4, 6] (by decide) rfl (wt0 rfl) (x_call' rfl rfl cl13) (fun _ => mayR_o rg c o R R2 a b m hn hVa hVb hal hwa hwb _ (H3.takes [1, 2, 3, 4, 5] (by decide))) (by decide) rfl rfl ?_)
 intro wq4 H6
 refine w_a ?_
 refine w_e ?_
 refine w_s ?_
 refine w_m ?_
 refine w_b (v := .bool (!decide (((mayE c a b m) : Int) = 0))) (hb := b_neq) ?_
 refine w_e ?_
 by_cases hb7 : ((mayE c a b m) : Int) = 0
 ·
  have hz : mayE c a b m = 0 := hb7
  refine g_cond_f rfl (nf hb7) ?_
  refine g_skip ?_
  refine g_then ?_
  refine w_s ?_
  refine w_r2 ?_
  refine l_of (s_call0 H6 (wt0 rfl) (x_call' rfl rfl cl21) (of_o rg o _) rfl rfl ?_)
  intro wq8 H9
  refine w_r2 ?_
  refine w_v (v := .bool (!o)) (x_not (b := o) rfl rfl) ?_
  refine l_of (s_call0 H9 (wt0 rfl) (x_call' rfl rfl cl21) (of_p rg o _) rfl rfl ?_)
  intro wq10 H11
  refine w_r2 ?_
  refine w_e ?_
  refine g_weak [(0, .pointer (some ⟨rg, 0, none⟩)), (5, .pointer (some ⟨g1, 0, none⟩)), (8, .pointer (some ⟨rg, offR o, none⟩)), (9, .pointer (some ⟨rg, offS o, none⟩))] ⟨rfl, rfl, rfl, rfl, trivial⟩ ?_
  refine w_s ?_
  refine w_f 1 ?_
  refine w_1 H11 0 ?_
  refine w_f 2 ?_
  refine w_1 H11 0 ?_
  refine w_f 3 ?_
  refine w_1 H11 0 ?_
  refine w_v (v := .agg #[.int .i64 (m.i1), .int .i64 (m.i2), .int .i64 (m.i3)]) (x_build (vs := [.int .i64 (m.i1), .int .i64 (m.i2), .int .i64 (m.i3)]) rfl rfl (cells := #[.int .i64 (m.i1), .int .i64 (m.i2), .int .i64 (m.i3)]) (by kernel_rfl)) ?_
  refine l_of (s_alloc H11 (wt0 rfl) rfl rfl rfl ze49 ?_)
  intro g12 wq13 H14
  refine l_of (w_st #[.int .i64 (m.i1), .int .i64 (m.i2), .int .i64 (m.i3)] H14 0 ?_)
  intro wq15 H16
  refine w_e ?_
  refine g_seq ?_
  refine g_cut (ι := Unit) (fun _ => [(0, .pointer (some ⟨rg, 0, none⟩)), (5, .pointer (some ⟨g1, 0, none⟩)), (8, .pointer (some ⟨rg, offR o, none⟩)), (9, .pointer (some ⟨rg, offS o, none⟩)), (10, .pointer (some ⟨g12, 0, none⟩))]) (fun _ wx => S wx [Ob g12 (.cells #[.int .i64 (m.i1), .int .i64 (m.i2), .int .i64 (m.i3)] 49 (0, 0)), mgI g1 m, Ob rg (.cells (rgC o c [.bool ((a.bg || !quietB m.kind)), .bool (!(a.ck)), .bool a.wt, .string (a.fd), .slice R.pa a.al.length R.ca, .slice R.pw a.wa.length R.cw] [.bool b.bg, .bool (!(b.ck)), .bool b.wt, .string (b.fd), .slice R2.pa b.al.length R2.ca, .slice R2.pw b.wa.length R2.cw]) 59 (0, 0)), alR R a, rqI R a, alR R2 b, rqI R2 b, olR w rg c o R R2 a b]) ?_ ?_
  ·
   refine w_s ?_
   refine w_f 0 ?_
   refine w_1 H16 1 ?_
   refine w_b (v := .bool (!decide ((m.kind : Int) = 1))) (hb := b_neq) ?_
   refine w_m ?_
   by_cases hb17 : (m.kind : Int) = 1
   ·
    refine w_n (nf hb17) ?_
    refine w_n (nf hb17) ?_
    refine w_n (nf hb17) ?_
    refine w_v (v := .bool false) (x_pick_f rfl rfl (nf hb17) rfl) ?_
    refine w_e ?_
    refine g_weak [(0, .pointer (some ⟨rg, 0, none⟩)), (5, .pointer (some ⟨g1, 0, none⟩)), (8, .pointer (some ⟨rg, offR o, none⟩)), (9, .pointer (some ⟨rg, offS o, none⟩)), (10, .pointer (some ⟨g12, 0, none⟩)), (40, .bool false)] ⟨rfl, rfl, rfl, rfl, rfl, rfl, trivial⟩ ?_
    refine g_cond_f rfl rfl ?_
    refine g_skip ?_
    refine g_then ?_
    have hqz : (a.bg || !quietB m.kind) = (a.bg) := by unfold quietB; simp [hb7, hb17]
    refine g_mid () ?_ ?_
    · exact ⟨rfl, rfl, rfl, rfl, rfl, trivial⟩
    · exact (by rw [hqz]; exact H16)
   ·
    refine w_g (nt hb17) (xf 0) ?_
    refine w_g (nt hb17) (xl H16 1) ?_
    refine w_g (v := .bool (!decide ((m.kind : Int) = 17))) (nt hb17) (x_bin rfl rfl rfl b_neq) ?_
    refine w_v (v := .bool (!decide ((m.kind : Int) = 17))) (x_pick_t rfl rfl (nt hb17) rfl) ?_
    refine w_e ?_
    refine g_weak [(0, .pointer (some ⟨rg, 0, none⟩)), (5, .pointer (some ⟨g1, 0, none⟩)), (8, .pointer (some ⟨rg, offR o, none⟩)), (9, .pointer (some ⟨rg, offS o, none⟩)), (10, .pointer (some ⟨g12, 0, none⟩)), (40, .bool (!decide ((m.kind : Int) = 17)))] ⟨rfl, rfl, rfl, rfl, rfl, rfl, trivial⟩ ?_
    by_cases hb18 : (m.kind : Int) = 17
    ·
     refine g_cond_f rfl (nf hb18) ?_
     refine g_skip ?_
     refine g_then ?_
     have hqz : (a.bg || !quietB m.kind) = (a.bg) := by unfold quietB; simp [hb7, hb17, hb18]
     refine g_mid () ?_ ?_
     · exact ⟨rfl, rfl, rfl, rfl, rfl, trivial⟩
     · exact (by rw [hqz]; exact H16)
    ·
     refine g_cond_t rfl (nt hb18) ?_
     refine g_region ?_
     refine w_r2 ?_
     refine w_f (offR o + 0) ?_
     refine l_of (s_store1 H16 2 (wt0 rfl) rfl rfl rfl rfl rfl sz4 rfl rfl (rgC_ol rfl rfl (by decide)) ?_)
     intro wq19 H20
     rw [rgC_so rfl rfl (by decide)] at H20
     replace H20 : S wq19 [Ob g12 (.cells #[.int .i64 (m.i1), .int .i64 (m.i2), .int .i64 (m.i3)] 49 (0, 0)), mgI g1 m, Ob rg (.cells (rgC o c [.bool true, .bool (!(a.ck)), .bool a.wt, .string (a.fd), .slice R.pa a.al.length R.ca, .slice R.pw a.wa.length R.cw] [.bool b.bg, .bool (!(b.ck)), .bool b.wt, .string (b.fd), .slice R2.pa b.al.length R2.ca, .slice R2.pw b.wa.length R2.cw]) 59 (0, 0)), alR R a, rqI R a, alR R2 b, rqI R2 b, olR w rg c o R R2 a b] := H20
     refine w_e ?_
     have hqz : (a.bg || !quietB m.kind) = (true) := by unfold quietB; simp [hb7, hb17, hb18]
     refine g_mid () ?_ ?_
     · exact ⟨rfl, rfl, rfl, rfl, rfl, trivial⟩
     · exact (by rw [hqz]; exact H20)
  rintro _ wq21 H22
  refine g_weak [(0, .pointer (some ⟨rg, 0, none⟩)), (5, .pointer (some ⟨g1, 0, none⟩)), (8, .pointer (some ⟨rg, offR o, none⟩)), (9, .pointer (some ⟨rg, offS o, none⟩)), (10, .pointer (some ⟨g12, 0, none⟩))] ⟨rfl, rfl, rfl, rfl, rfl, trivial⟩ ?_
  refine g_seq ?_
  refine w_s ?_
  refine w_f 0 ?_
  refine w_1 H22 1 ?_
  refine w_e ?_
  refine g_block ?_
  refine w_s ?_
  refine w_b ?_
  refine w_a ?_
  refine w_e ?_
  by_cases hb23 : (m.kind : Int) = 2
  ·
   refine g_cond_t rfl (decide_eq_true hb23) ?_
   refine w_s ?_
   refine w_r2 ?_
   refine w_f (offR o + 1) ?_
   refine l_of (s_store1 H22 2 (wt0 rfl) rfl rfl rfl rfl rfl sz4 rfl rfl (rgC_ol rfl rfl (by decide)) ?_)
   intro wq24 H25
   rw [rgC_so rfl rfl (by decide)] at H25
   replace H25 : S wq24 [Ob g12 (.cells #[.int .i64 (m.i1), .int .i64 (m.i2), .int .i64 (m.i3)] 49 (0, 0)), mgI g1 m, Ob rg (.cells (rgC o c [.bool ((a.bg || !quietB m.kind)), .bool false, .bool a.wt, .string (a.fd), .slice R.pa a.al.length R.ca, .slice R.pw a.wa.length R.cw] [.bool b.bg, .bool (!(b.ck)), .bool b.wt, .string (b.fd), .slice R2.pa b.al.length R2.ca, .slice R2.pw b.wa.length R2.cw]) 59 (0, 0)), alR R a, rqI R a, alR R2 b, rqI R2 b, olR w rg c o R R2 a b] := H25
   refine w_e ?_
   refine w_s ?_
   refine w_r3 ?_
   refine w_v (x_load1 H25 2 rfl rfl Tryz.underlying4 rfl rfl (rgC_c rfl)) ?_
   refine w_v (v := .bool (!(c.ft))) (x_not (b := c.ft) rfl rfl) ?_
   refine w_e ?_
   refine g_weak [(8, .pointer (some ⟨rg, offR o, none⟩)), (55, .bool (!(c.ft)))] ⟨rfl, rfl, trivial⟩ ?_
   rcases Bool.eq_false_or_eq_true (c.ft) with hb26 | hb26
   ·
    refine g_cond_f rfl (neg_of hb26) ?_
    refine g_skip ?_
    refine g_in ?_
    refine g_then ?_
    refine w_s ?_
    refine w_a ?_
    refine w_e ?_
    refine g_ret ?_
    refine fin_ret [.tmp 6] [.int .i64 0] rfl ⟨rfl, trivial⟩ ?_
    have hO : mayO c a b m = { ({ a with ck := true }) with bg := (a.bg || !quietB m.kind) } := mayO_eq hz (by unfold ruleO; simp [hb23, hb26]) rfl
    have hQ : mayQ c a b m = b := mayQ_eq hz (by unfold ruleP; simp [hb23])
    exact ⟨⟨R.pa, R.ca, R.pw, R.cw⟩, ⟨R2.pa, R2.ca, R2.pw, R2.cw⟩, by rw [hz]; rfl, by rw [hO, hQ]; exact H25.takes [2, 3, 4, 5, 6, 7] (by decide)⟩
   ·
    refine g_cond_t rfl (neg_of hb26) ?_
    refine g_region ?_
    refine w_r2 ?_
    refine w_f (offR o + 5) ?_
    refine l_of (s_store1 H25 2 (wt0 rfl) rfl rfl rfl rfl rfl sz55 rfl rfl (rgC_ol rfl rfl (by decide)) ?_)
    intro wq27 H28
    rw [rgC_so rfl rfl (by decide)] at H28
    replace H28 : S wq27 [Ob g12 (.cells #[.int .i64 (m.i1), .int .i64 (m.i2), .int .i64 (m.i3)] 49 (0, 0)), mgI g1 m, Ob rg (.cells (rgC o c [.bool ((a.bg || !quietB m.kind)), .bool false, .bool a.wt, .string (a.fd), .slice R.pa a.al.length R.ca, .slice none 0 0] [.bool b.bg, .bool (!(b.ck)), .bool b.wt, .string (b.fd), .slice R2.pa b.al.length R2.ca, .slice R2.pw b.wa.length R2.cw]) 59 (0, 0)), alR R a, rqI R a, alR R2 b, rqI R2 b, olR w rg c o R R2 a b] := H28
    refine g_nil ?_
    refine g_in ?_
    refine g_then ?_
    refine w_s ?_
    refine w_a ?_
    refine w_e ?_
    refine g_ret ?_
    refine fin_ret [.tmp 6] [.int .i64 0] rfl ⟨rfl, trivial⟩ ?_
    have hO : mayO c a b m = { (a.shut) with bg := (a.bg || !quietB m.kind) } := mayO_eq hz (by unfold ruleO; simp [hb23, hb26]) rfl
    have hQ : mayQ c a b m = b := mayQ_eq hz (by unfold ruleP; simp [hb23])
    exact ⟨⟨R.pa, R.ca, none, 0⟩, ⟨R2.pa, R2.ca, R2.pw, R2.cw⟩, by rw [hz]; rfl, by rw [hO, hQ]; exact (H28.nilRw 65 4).takes [3, 4, 0, 6, 7, 8] (by decide)⟩
  ·
   refine g_cond_f rfl (decide_eq_false hb23) ?_
   refine w_s ?_
   refine w_b ?_
   refine w_a ?_
   refine w_e ?_
   by_cases hb29 : (m.kind : Int) = 3
   ·
    refine g_cond_t rfl (decide_eq_true hb29) ?_
    refine g_region ?_
    refine w_r2 ?_
    refine w_f (offR o + 1) ?_
    refine l_of (s_store1 H22 2 (wt0 rfl) rfl rfl rfl rfl rfl sz4 rfl rfl (rgC_ol rfl rfl (by decide)) ?_)
    intro wq30 H31
    rw [rgC_so rfl rfl (by decide)] at H31
    replace H31 : S wq30 [Ob g12 (.cells #[.int .i64 (m.i1), .int .i64 (m.i2), .int .i64 (m.i3)] 49 (0, 0)), mgI g1 m, Ob rg (.cells (rgC o c [.bool ((a.bg || !quietB m.kind)), .bool true, .bool a.wt, .string (a.fd), .slice R.pa a.al.length R.ca, .slice R.pw a.wa.length R.cw] [.bool b.bg, .bool (!(b.ck)), .bool b.wt, .string (b.fd), .slice R2.pa b.al.length R2.ca, .slice R2.pw b.wa.length R2.cw]) 59 (0, 0)), alR R a, rqI R a, alR R2 b, rqI R2 b, olR w rg c o R R2 a b] := H31
    refine g_nil ?_
    refine g_in ?_
    refine g_then ?_
    refine g_weak [] trivial ?_
    refine w_s ?_
    refine w_a ?_
    refine w_e ?_
    refine g_ret ?_
    refine fin_ret [.tmp 6] [.int .i64 0] rfl ⟨rfl, trivial⟩ ?_
    have hO : mayO c a b m = { ({ a with ck := false }) with bg := (a.bg || !quietB m.kind) } := mayO_eq hz (by unfold ruleO; simp [hb23, hb29]) rfl
    have hQ : mayQ c a b m = b := mayQ_eq hz (by unfold ruleP; simp [hb23, hb29])
    exact ⟨⟨R.pa, R.ca, R.pw, R.cw⟩, ⟨R2.pa, R2.ca, R2.pw, R2.cw⟩, by rw [hz]; rfl, by rw [hO, hQ]; exact H31.takes [2, 3, 4, 5, 6, 7] (by decide)⟩
   ·
    refine g_cond_f rfl (decide_eq_false hb29) ?_
    refine w_s ?_
    refine w_b ?_
    refine w_a ?_
    refine w_e ?_
    by_cases hb32 : (m.kind : Int) = 4
    ·
     refine g_cond_t rfl (decide_eq_true hb32) ?_
     refine g_region ?_
     refine w_r2 ?_
     refine w_f (offR o + 2) ?_
     refine l_of (s_store1 H22 2 (wt0 rfl) rfl rfl rfl rfl rfl sz4 rfl rfl (rgC_ol rfl rfl (by decide)) ?_)
     intro wq33 H34
     rw [rgC_so rfl rfl (by decide)] at H34
     replace H34 : S wq33 [Ob g12 (.cells #[.int .i64 (m.i1), .int .i64 (m.i2), .int .i64 (m.i3)] 49 (0, 0)), mgI g1 m, Ob rg (.cells (rgC o c [.bool ((a.bg || !quietB m.kind)), .bool (!(a.ck)), .bool true, .string (a.fd), .slice R.pa a.al.length R.ca, .slice R.pw a.wa.length R.cw] [.bool b.bg, .bool (!(b.ck)), .bool b.wt, .string (b.fd), .slice R2.pa b.al.length R2.ca, .slice R2.pw b.wa.length R2.cw]) 59 (0, 0)), alR R a, rqI R a, alR R2 b, rqI R2 b, olR w rg c o R R2 a b] := H34
     refine g_nil ?_
     refine g_in ?_
     refine g_then ?_
     refine g_weak [] trivial ?_
     refine w_s ?_
     refine w_a ?_
     refine w_e ?_
     refine g_ret ?_
     refine fin_ret [.tmp 6] [.int .i64 0] rfl ⟨rfl, trivial⟩ ?_
     have hO : mayO c a b m = { ({ a with wt := true }) with bg := (a.bg || !quietB m.kind) } := mayO_eq hz (by unfold ruleO; simp [hb23, hb29, hb32]) rfl
     have hQ : mayQ c a b m = b := mayQ_eq hz (by unfold ruleP; simp [hb23, hb29, hb32])
     exact ⟨⟨R.pa, R.ca, R.pw, R.cw⟩, ⟨R2.pa, R2.ca, R2.pw, R2.cw⟩, by rw [hz]; rfl, by rw [hO, hQ]; exact H34.takes [2, 3, 4, 5, 6, 7] (by decide)⟩
    ·
     refine g_cond_f rfl (decide_eq_false hb32) ?_
     refine w_s ?_
     refine w_b ?_
     refine w_a ?_
     refine w_e ?_
     by_cases hb35 : (m.kind : Int) = 5
     ·
      refine g_cond_t rfl (decide_eq_true hb35) ?_
      refine g_region ?_
      refine w_r2 ?_
      refine w_f (offR o + 2) ?_
      refine l_of (s_store1 H22 2 (wt0 rfl) rfl rfl rfl rfl rfl sz4 rfl rfl (rgC_ol rfl rfl (by decide)) ?_)
      intro wq36 H37
      rw [rgC_so rfl rfl (by decide)] at H37
      replace H37 : S wq36 [Ob g12 (.cells #[.int .i64 (m.i1), .int .i64 (m.i2), .int .i64 (m.i3)] 49 (0, 0)), mgI g1 m, Ob rg (.cells (rgC o c [.bool ((a.bg || !quietB m.kind)), .bool (!(a.ck)), .bool false, .string (a.fd), .slice R.pa a.al.length R.ca, .slice R.pw a.wa.length R.cw] [.bool b.bg, .bool (!(b.ck)), .bool b.wt, .string (b.fd), .slice R2.pa b.al.length R2.ca, .slice R2.pw b.wa.length R2.cw]) 59 (0, 0)), alR R a, rqI R a, alR R2 b, rqI R2 b, olR w rg c o R R2 a b] := H37
      refine g_nil ?_
      refine g_in ?_
      refine g_then ?_
      refine g_weak [] trivial ?_
      refine w_s ?_
      refine w_a ?_
      refine w_e ?_
      refine g_ret ?_
      refine fin_ret [.tmp 6] [.int .i64 0] rfl ⟨rfl, trivial⟩ ?_
      have hO : mayO c a b m = { ({ a with wt := false }) with bg := (a.bg || !quietB m.kind) } := mayO_eq hz (by unfold ruleO; simp [hb23, hb29, hb32, hb35]) rfl
      have hQ : mayQ c a b m = b := mayQ_eq hz (by unfold ruleP; simp [hb23, hb29, hb32, hb35])
      exact ⟨⟨R.pa, R.ca, R.pw, R.cw⟩, ⟨R2.pa, R2.ca, R2.pw, R2.cw⟩, by rw [hz]; rfl, by rw [hO, hQ]; exact H37.takes [2, 3, 4, 5, 6, 7] (by decide)⟩
     ·
      refine g_cond_f rfl (decide_eq_false hb35) ?_
      refine w_s ?_
      refine w_b ?_
      refine w_a ?_
      refine w_e ?_
      by_cases hb38 : (m.kind : Int) = 6
      ·
       refine g_cond_t rfl (decide_eq_true hb38) ?_
       refine g_anyY [(0, .pointer (some ⟨rg, 0, none⟩)), (5, .pointer (some ⟨g1, 0, none⟩)), (8, .pointer (some ⟨rg, offR o, none⟩)), (9, .pointer (some ⟨rg, offS o, none⟩)), (10, .pointer (some ⟨g12, 0, none⟩)), (44, .pointer (some ⟨g1, 0, none⟩)), (45, .int .i64 (m.kind)), (46, .bool (decide ((m.kind : Int) = 2))), (47, .bool (decide ((m.kind : Int) = 2))), (59, .bool (decide ((m.kind : Int) = 3))), (60, .bool (decide ((m.kind : Int) = 3))), (64, .bool (decide ((m.kind : Int) = 4))), (65, .bool (decide ((m.kind : Int) = 4))), (69, .bool (decide ((m.kind : Int) = 5))), (70, .bool (decide ((m.kind : Int) = 5))), (74, .bool (decide ((m.kind : Int) = 6))), (75, .bool (decide ((m.kind : Int) = 6)))] (fun wx => S wx [mgI g1 m, Ob rg (.cells (rgC o c [.bool ((a.bg || !quietB m.kind)), .bool (!(a.ck)), .bool a.wt, .string (a.fd), .slice R.pa a.al.length R.ca, .slice R.pw a.wa.length R.cw] [.bool b.bg, .bool (!(b.ck)), .bool b.wt, .string (b.fd), .slice R2.pa b.al.length R2.ca, .slice R2.pw b.wa.length R2.cw]) 59 (0, 0))]) (fun wx => S wx [mgI g1 m]) [17] (by kernel_rfl) H22 (fun wq39 H40 => ?_)
       refine w_y 0 rfl (wt0 rfl) rfl rfl rfl (by kernel_rfl) (fun _ => x_move rfl rfl) ?_
       refine w_y 1 rfl (wt0 rfl) rfl rfl rfl (by kernel_rfl) (fun _ => x_move rfl rfl) ?_
       refine w_y 2 rfl (wt0 rfl) rfl rfl rfl (by kernel_rfl) (fun _ => x_nilCheck rfl rfl) ?_
       refine w_y 3 rfl (wt0 rfl) rfl rfl rfl (by kernel_rfl) (fun _ => x_fieldAddr (off' := 0) rfl rfl fo59_0 rfl) ?_
       have cm1 := H40.mask [false, true, true, false, false, false, false, false]
       refine y_take (v := .int .i64 (c.n)) 4 rfl (wt0 rfl) rfl rfl rfl (by kernel_rfl) (by kernel_rfl) (by kernel_rfl) (by kernel_rfl) (by kernel_rfl) cm1 (fun wx H => x_load1 H 1 rfl rfl Tryz.underlying3 rfl rfl (rgC_c rfl)) ?_
       refine w_y 5 rfl (wt0 rfl) rfl rfl rfl (by kernel_rfl) (fun _ => x_move rfl rfl) ?_
       refine w_y 6 rfl (wt0 rfl) rfl rfl rfl (by kernel_rfl) (fun _ => x_nilCheck rfl rfl) ?_
       refine w_y 7 rfl (wt0 rfl) rfl rfl rfl (by kernel_rfl) (fun _ => x_fieldAddr (off' := offR o + 3) rfl rfl fo57_3 rfl) ?_
       refine y_take (v := .string (a.fd)) 8 rfl (wt0 rfl) rfl rfl rfl (by kernel_rfl) (by kernel_rfl) (by kernel_rfl) (by kernel_rfl) (by kernel_rfl) cm1 (fun wx H => x_load1 H 1 rfl rfl Tryz.underlying9 rfl rfl (rgC_o rfl rfl rfl)) ?_
       refine w_y 9 rfl (wt0 rfl) rfl rfl rfl (by kernel_rfl) (fun _ => x_fieldAddr (off' := 1) rfl rfl fo26_1 rfl) ?_
       refine y_take (v := .int .i64 (m.i1)) 10 rfl (wt0 rfl) rfl rfl rfl (by kernel_rfl) (by kernel_rfl) (by kernel_rfl) (by kernel_rfl) (by kernel_rfl) cm1 (fun wx H => x_load1 H 0 rfl rfl Tryz.underlying3 rfl rfl rfl) ?_
       refine y_one (i := 11) (by kernel_rfl) rfl ?_
       have hi6 := fit_idx (step_facts (may_ok hz).2).2.1 (.inl (by omega))
       have hsr := set_rr c.n.toNat a.fd m.i1 (by omega) hVa (by omega) wq39
       rw [show ((c.n.toNat : Nat) : Int) = c.n from by omega] at hsr
       refine s_call0 H40 (wt0 rfl) (x_call' rfl rfl cl22) (hsr) rfl rfl ?_
       intro wq41 H42
       have cm2 := H42.mask [false, true, true, false, false, false, false, false]
       refine y_k cm2 (H42.mask [false, true, false, false, false, false, false, false]) ?_
       refine w_y 12 rfl (wt0 rfl) rfl rfl rfl (by kernel_rfl) (fun _ => x_move rfl rfl) ?_
       refine w_y 13 rfl (wt0 rfl) rfl rfl rfl (by kernel_rfl) (fun _ => x_extract rfl rfl rfl) ?_
       refine w_y 14 rfl (wt0 rfl) rfl rfl rfl (by kernel_rfl) (fun _ => x_extract rfl rfl rfl) ?_
       refine y_one (i := 15) (by kernel_rfl) rfl ?_
       refine s_val (v := .pointer (some ⟨rg, offR o, none⟩)) (wt0 rfl) rfl rfl (x_nilCheck rfl rfl) ?_
       refine y_k cm2 (H42.mask [false, true, false, false, false, false, false, false]) ?_
       refine y_one (i := 16) (by kernel_rfl) rfl ?_
       refine s_val (v := .pointer (some ⟨rg, offR o + 3, none⟩)) (wt0 rfl) rfl rfl (x_fieldAddr rfl rfl fo57_3 rfl) ?_
       refine y_k cm2 (H42.mask [false, true, false, false, false, false, false, false]) ?_
       refine y_one (i := 17) (by kernel_rfl) rfl ?_
       refine s_store1 H42 2 (wt0 rfl) rfl rfl rfl rfl rfl sz9 rfl rfl (rgC_ol rfl rfl (by decide)) ?_
       intro wq43 H44
       rw [rgC_so rfl rfl (by decide)] at H44
       replace H44 : S wq43 [Ob g12 (.cells #[.int .i64 (m.i1), .int .i64 (m.i2), .int .i64 (m.i3)] 49 (0, 0)), mgI g1 m, Ob rg (.cells (rgC o c [.bool ((a.bg || !quietB m.kind)), .bool (!(a.ck)), .bool a.wt, .string ((setB a.fd m.i1.toNat)), .slice R.pa a.al.length R.ca, .slice R.pw a.wa.length R.cw] [.bool b.bg, .bool (!(b.ck)), .bool b.wt, .string (b.fd), .slice R2.pa b.al.length R2.ca, .slice R2.pw b.wa.length R2.cw]) 59 (0, 0)), alR R a, rqI R a, alR R2 b, rqI R2 b, olR w rg c o R R2 a b] := H44
       refine y_kt rfl (H44.mask [false, true, false, false, false, false, false, false]) ?_
       refine y_done (by kernel_rfl) ?_
       refine g_in ?_
       refine g_then ?_
       refine g_weak [] trivial ?_
       refine w_s ?_
       refine w_a ?_
       refine w_e ?_
       refine g_ret ?_
       refine fin_ret [.tmp 6] [.int .i64 0] rfl ⟨rfl, trivial⟩ ?_
       have hO : mayO c a b m = { (a.have m.i1) with bg := (a.bg || !quietB m.kind) } := mayO_eq hz (by unfold ruleO; simp [hb23, hb29, hb32, hb35, hb38]) rfl
       have hQ : mayQ c a b m = b := mayQ_eq hz (by unfold ruleP; simp [hb23, hb29, hb32, hb35, hb38])
       exact ⟨⟨R.pa, R.ca, R.pw, R.cw⟩, ⟨R2.pa, R2.ca, R2.pw, R2.cw⟩, by rw [hz]; rfl, by rw [hO, hQ]; exact H44.takes [2, 3, 4, 5, 6, 7] (by decide)⟩
      ·
       refine g_cond_f rfl (decide_eq_false hb38) ?_
       refine g_seq ?_
       refine w_s ?_
       refine w_b ?_
       refine w_a ?_
       refine w_e ?_
       refine g_weak [(0, .pointer (some ⟨rg, 0, none⟩)), (5, .pointer (some ⟨g1, 0, none⟩)), (8, .pointer (some ⟨rg, offR o, none⟩)), (9, .pointer (some ⟨rg, offS o, none⟩)), (10, .pointer (some ⟨g12, 0, none⟩)), (45, .int .i64 (m.kind)), (93, .bool (decide ((m.kind : Int) = 7)))] ⟨rfl, rfl, rfl, rfl, rfl, rfl, rfl, trivial⟩ ?_
       by_cases hb45 : (m.kind : Int) = 7
       ·
        refine g_cond_t rfl (decide_eq_true hb45) ?_
        refine g_skip ?_
        refine g_then ?_
        refine g_cond_t rfl (decide_eq_true hb45) ?_
        refine g_anyY [(0, .pointer (some ⟨rg, 0, none⟩)), (5, .pointer (some ⟨g1, 0, none⟩)), (8, .pointer (some ⟨rg, offR o, none⟩)), (9, .pointer (some ⟨rg, offS o, none⟩)), (10, .pointer (some ⟨g12, 0, none⟩)), (45, .int .i64 (m.kind)), (93, .bool (decide ((m.kind : Int) = 7)))] (fun wx => S wx [mgI g1 m, Ob rg (.cells (rgC o c [.bool ((a.bg || !quietB m.kind)), .bool (!(a.ck)), .bool a.wt, .string (a.fd), .slice R.pa a.al.length R.ca, .slice R.pw a.wa.length R.cw] [.bool b.bg, .bool (!(b.ck)), .bool b.wt, .string (b.fd), .slice R2.pa b.al.length R2.ca, .slice R2.pw b.wa.length R2.cw]) 59 (0, 0))]) (fun wx => S wx [mgI g1 m]) [12] (by kernel_rfl) H22 (fun wq46 H47 => ?_)
        refine w_y 0 rfl (wt0 rfl) rfl rfl rfl (by kernel_rfl) (fun _ => x_move rfl rfl) ?_
        refine w_y 1 rfl (wt0 rfl) rfl rfl rfl (by kernel_rfl) (fun _ => x_move rfl rfl) ?_
        refine w_y 2 rfl (wt0 rfl) rfl rfl rfl (by kernel_rfl) (fun _ => x_nilCheck rfl rfl) ?_
        refine w_y 3 rfl (wt0 rfl) rfl rfl rfl (by kernel_rfl) (fun _ => x_fieldAddr (off' := 0) rfl rfl fo59_0 rfl) ?_
        have cm3 := H47.mask [false, true, true, false, false, false, false, false]
        refine y_take (v := .int .i64 (c.n)) 4 rfl (wt0 rfl) rfl rfl rfl (by kernel_rfl) (by kernel_rfl) (by kernel_rfl) (by kernel_rfl) (by kernel_rfl) cm3 (fun wx H => x_load1 H 1 rfl rfl Tryz.underlying3 rfl rfl (rgC_c rfl)) ?_
        refine y_take (v := .agg m.cells) 5 rfl (wt0 rfl) rfl rfl rfl (by kernel_rfl) (by kernel_rfl) (by kernel_rfl) (by kernel_rfl) (by kernel_rfl) cm3 (fun wx H => x_loadA H 0 rfl rfl Tryz.underlying26 rfl sz26 rfl rfl rfl) ?_
        refine y_one (i := 6) (by kernel_rfl) rfl ?_
        refine s_call0 H47 (wt0 rfl) (x_call' rfl rfl cl23) (field_m c.n m _) rfl rfl ?_
        intro wq48 H49
        have cm4 := H49.mask [false, true, true, false, false, false, false, false]
        refine y_k cm4 (H49.mask [false, true, false, false, false, false, false, false]) ?_
        refine w_y 7 rfl (wt0 rfl) rfl rfl rfl (by kernel_rfl) (fun _ => x_move rfl rfl) ?_
        refine w_y 8 rfl (wt0 rfl) rfl rfl rfl (by kernel_rfl) (fun _ => x_extract rfl rfl rfl) ?_
        refine w_y 9 rfl (wt0 rfl) rfl rfl rfl (by kernel_rfl) (fun _ => x_extract rfl rfl rfl) ?_
        refine y_one (i := 10) (by kernel_rfl) rfl ?_
        refine s_val (v := .pointer (some ⟨rg, offR o, none⟩)) (wt0 rfl) rfl rfl (x_nilCheck rfl rfl) ?_
        refine y_k cm4 (H49.mask [false, true, false, false, false, false, false, false]) ?_
        refine y_one (i := 11) (by kernel_rfl) rfl ?_
        refine s_val (v := .pointer (some ⟨rg, offR o + 3, none⟩)) (wt0 rfl) rfl rfl (x_fieldAddr rfl rfl fo57_3 rfl) ?_
        refine y_k cm4 (H49.mask [false, true, false, false, false, false, false, false]) ?_
        refine y_one (i := 12) (by kernel_rfl) rfl ?_
        refine s_store1 H49 2 (wt0 rfl) rfl rfl rfl rfl rfl sz9 rfl rfl (rgC_ol rfl rfl (by decide)) ?_
        intro wq50 H51
        rw [rgC_so rfl rfl (by decide)] at H51
        replace H51 : S wq50 [Ob g12 (.cells #[.int .i64 (m.i1), .int .i64 (m.i2), .int .i64 (m.i3)] 49 (0, 0)), mgI g1 m, Ob rg (.cells (rgC o c [.bool ((a.bg || !quietB m.kind)), .bool (!(a.ck)), .bool a.wt, .string ((fieldMS c.n m).1), .slice R.pa a.al.length R.ca, .slice R.pw a.wa.length R.cw] [.bool b.bg, .bool (!(b.ck)), .bool b.wt, .string (b.fd), .slice R2.pa b.al.length R2.ca, .slice R2.pw b.wa.length R2.cw]) 59 (0, 0)), alR R a, rqI R a, alR R2 b, rqI R2 b, olR w rg c o R R2 a b] := H51
        refine y_kt rfl (H51.mask [false, true, false, false, false, false, false, false]) ?_
        refine y_done (by kernel_rfl) ?_
        refine g_in ?_
        refine g_then ?_
        refine g_weak [] trivial ?_
        refine w_s ?_
        refine w_a ?_
        refine w_e ?_
        refine g_ret ?_
        refine fin_ret [.tmp 6] [.int .i64 0] rfl ⟨rfl, trivial⟩ ?_
        have hO : mayO c a b m = { ({ a with fd := (fieldMS c.n m).1 }) with bg := (a.bg || !quietB m.kind) } := mayO_eq hz (by unfold ruleO; simp [hb23, hb29, hb32, hb35, hb38, hb45]) rfl
        have hQ : mayQ c a b m = b := mayQ_eq hz (by unfold ruleP; simp [hb23, hb29, hb32, hb35, hb38, hb45])
        exact ⟨⟨R.pa, R.ca, R.pw, R.cw⟩, ⟨R2.pa, R2.ca, R2.pw, R2.cw⟩, by rw [hz]; rfl, by rw [hO, hQ]; exact H51.takes [2, 3, 4, 5, 6, 7] (by decide)⟩
       ·
        refine g_cond_f rfl (decide_eq_false hb45) ?_
        refine w_s ?_
        refine w_b ?_
        refine w_a ?_
        refine w_e ?_
        by_cases hb52 : (m.kind : Int) = 13
        ·
         refine g_cond_t rfl (decide_eq_true hb52) ?_
         refine g_skip ?_
         refine g_then ?_
         refine g_cond_t rfl (decide_eq_true hb52) ?_
         refine g_anyY [(0, .pointer (some ⟨rg, 0, none⟩)), (5, .pointer (some ⟨g1, 0, none⟩)), (8, .pointer (some ⟨rg, offR o, none⟩)), (9, .pointer (some ⟨rg, offS o, none⟩)), (10, .pointer (some ⟨g12, 0, none⟩)), (45, .int .i64 (m.kind)), (93, .bool (decide ((m.kind : Int) = 13))), (95, .bool (decide ((m.kind : Int) = 13)))] (fun wx => S wx [mgI g1 m, Ob rg (.cells (rgC o c [.bool ((a.bg || !quietB m.kind)), .bool (!(a.ck)), .bool a.wt, .string (a.fd), .slice R.pa a.al.length R.ca, .slice R.pw a.wa.length R.cw] [.bool b.bg, .bool (!(b.ck)), .bool b.wt, .string (b.fd), .slice R2.pa b.al.length R2.ca, .slice R2.pw b.wa.length R2.cw]) 59 (0, 0))]) (fun wx => S wx [mgI g1 m]) [12] (by kernel_rfl) H22 (fun wq53 H54 => ?_)
         refine w_y 0 rfl (wt0 rfl) rfl rfl rfl (by kernel_rfl) (fun _ => x_move rfl rfl) ?_
         refine w_y 1 rfl (wt0 rfl) rfl rfl rfl (by kernel_rfl) (fun _ => x_move rfl rfl) ?_
         refine w_y 2 rfl (wt0 rfl) rfl rfl rfl (by kernel_rfl) (fun _ => x_nilCheck rfl rfl) ?_
         refine w_y 3 rfl (wt0 rfl) rfl rfl rfl (by kernel_rfl) (fun _ => x_fieldAddr (off' := 0) rfl rfl fo59_0 rfl) ?_
         have cm5 := H54.mask [false, true, true, false, false, false, false, false]
         refine y_take (v := .int .i64 (c.n)) 4 rfl (wt0 rfl) rfl rfl rfl (by kernel_rfl) (by kernel_rfl) (by kernel_rfl) (by kernel_rfl) (by kernel_rfl) cm5 (fun wx H => x_load1 H 1 rfl rfl Tryz.underlying3 rfl rfl (rgC_c rfl)) ?_
         refine y_take (v := .agg m.cells) 5 rfl (wt0 rfl) rfl rfl rfl (by kernel_rfl) (by kernel_rfl) (by kernel_rfl) (by kernel_rfl) (by kernel_rfl) cm5 (fun wx H => x_loadA H 0 rfl rfl Tryz.underlying26 rfl sz26 rfl rfl rfl) ?_
         refine y_one (i := 6) (by kernel_rfl) rfl ?_
         refine s_call0 H54 (wt0 rfl) (x_call' rfl rfl cl23) (field_m c.n m _) rfl rfl ?_
         intro wq55 H56
         have cm6 := H56.mask [false, true, true, false, false, false, false, false]
         refine y_k cm6 (H56.mask [false, true, false, false, false, false, false, false]) ?_
         refine w_y 7 rfl (wt0 rfl) rfl rfl rfl (by kernel_rfl) (fun _ => x_move rfl rfl) ?_
         refine w_y 8 rfl (wt0 rfl) rfl rfl rfl (by kernel_rfl) (fun _ => x_extract rfl rfl rfl) ?_
         refine w_y 9 rfl (wt0 rfl) rfl rfl rfl (by kernel_rfl) (fun _ => x_extract rfl rfl rfl) ?_
         refine y_one (i := 10) (by kernel_rfl) rfl ?_
         refine s_val (v := .pointer (some ⟨rg, offR o, none⟩)) (wt0 rfl) rfl rfl (x_nilCheck rfl rfl) ?_
         refine y_k cm6 (H56.mask [false, true, false, false, false, false, false, false]) ?_
         refine y_one (i := 11) (by kernel_rfl) rfl ?_
         refine s_val (v := .pointer (some ⟨rg, offR o + 3, none⟩)) (wt0 rfl) rfl rfl (x_fieldAddr rfl rfl fo57_3 rfl) ?_
         refine y_k cm6 (H56.mask [false, true, false, false, false, false, false, false]) ?_
         refine y_one (i := 12) (by kernel_rfl) rfl ?_
         refine s_store1 H56 2 (wt0 rfl) rfl rfl rfl rfl rfl sz9 rfl rfl (rgC_ol rfl rfl (by decide)) ?_
         intro wq57 H58
         rw [rgC_so rfl rfl (by decide)] at H58
         replace H58 : S wq57 [Ob g12 (.cells #[.int .i64 (m.i1), .int .i64 (m.i2), .int .i64 (m.i3)] 49 (0, 0)), mgI g1 m, Ob rg (.cells (rgC o c [.bool ((a.bg || !quietB m.kind)), .bool (!(a.ck)), .bool a.wt, .string ((fieldMS c.n m).1), .slice R.pa a.al.length R.ca, .slice R.pw a.wa.length R.cw] [.bool b.bg, .bool (!(b.ck)), .bool b.wt, .string (b.fd), .slice R2.pa b.al.length R2.ca, .slice R2.pw b.wa.length R2.cw]) 59 (0, 0)), alR R a, rqI R a, alR R2 b, rqI R2 b, olR w rg c o R R2 a b] := H58
         refine y_kt rfl (H58.mask [false, true, false, false, false, false, false, false]) ?_
         refine y_done (by kernel_rfl) ?_
         refine g_in ?_
         refine g_then ?_
         refine g_weak [] trivial ?_
         refine w_s ?_
         refine w_a ?_
         refine w_e ?_
         refine g_ret ?_
         refine fin_ret [.tmp 6] [.int .i64 0] rfl ⟨rfl, trivial⟩ ?_
         have hO : mayO c a b m = { ({ a with fd := (fieldMS c.n m).1 }) with bg := (a.bg || !quietB m.kind) } := mayO_eq hz (by unfold ruleO; simp [hb23, hb29, hb32, hb35, hb38, hb45, hb52]) rfl
         have hQ : mayQ c a b m = b := mayQ_eq hz (by unfold ruleP; simp [hb23, hb29, hb32, hb35, hb38, hb45, hb52])
         exact ⟨⟨R.pa, R.ca, R.pw, R.cw⟩, ⟨R2.pa, R2.ca, R2.pw, R2.cw⟩, by rw [hz]; rfl, by rw [hO, hQ]; exact H58.takes [2, 3, 4, 5, 6, 7] (by decide)⟩
        ·
         refine g_cond_f rfl (decide_eq_false hb52) ?_
         refine g_region ?_
         refine w_b ?_
         refine w_a ?_
         refine w_e ?_
         by_cases hb59 : (m.kind : Int) = 14
         ·
          refine g_cond_t rfl (decide_eq_true hb59) ?_
          refine g_anyY [(0, .pointer (some ⟨rg, 0, none⟩)), (5, .pointer (some ⟨g1, 0, none⟩)), (8, .pointer (some ⟨rg, offR o, none⟩)), (9, .pointer (some ⟨rg, offS o, none⟩)), (10, .pointer (some ⟨g12, 0, none⟩)), (45, .int .i64 (m.kind)), (93, .bool (decide ((m.kind : Int) = 14))), (95, .bool (decide ((m.kind : Int) = 13))), (96, .bool (decide ((m.kind : Int) = 14)))] (fun wx => S wx [mgI g1 m, Ob rg (.cells (rgC o c [.bool ((a.bg || !quietB m.kind)), .bool (!(a.ck)), .bool a.wt, .string (a.fd), .slice R.pa a.al.length R.ca, .slice R.pw a.wa.length R.cw] [.bool b.bg, .bool (!(b.ck)), .bool b.wt, .string (b.fd), .slice R2.pa b.al.length R2.ca, .slice R2.pw b.wa.length R2.cw]) 59 (0, 0))]) (fun wx => S wx [mgI g1 m]) [12] (by kernel_rfl) H22 (fun wq60 H61 => ?_)
          refine w_y 0 rfl (wt0 rfl) rfl rfl rfl (by kernel_rfl) (fun _ => x_move rfl rfl) ?_
          refine w_y 1 rfl (wt0 rfl) rfl rfl rfl (by kernel_rfl) (fun _ => x_move rfl rfl) ?_
          refine w_y 2 rfl (wt0 rfl) rfl rfl rfl (by kernel_rfl) (fun _ => x_nilCheck rfl rfl) ?_
          refine w_y 3 rfl (wt0 rfl) rfl rfl rfl (by kernel_rfl) (fun _ => x_fieldAddr (off' := 0) rfl rfl fo59_0 rfl) ?_
          have cm7 := H61.mask [false, true, true, false, false, false, false, false]
          refine y_take (v := .int .i64 (c.n)) 4 rfl (wt0 rfl) rfl rfl rfl (by kernel_rfl) (by kernel_rfl) (by kernel_rfl) (by kernel_rfl) (by kernel_rfl) cm7 (fun wx H => x_load1 H 1 rfl rfl Tryz.underlying3 rfl rfl (rgC_c rfl)) ?_
          refine y_take (v := .agg m.cells) 5 rfl (wt0 rfl) rfl rfl rfl (by kernel_rfl) (by kernel_rfl) (by kernel_rfl) (by kernel_rfl) (by kernel_rfl) cm7 (fun wx H => x_loadA H 0 rfl rfl Tryz.underlying26 rfl sz26 rfl rfl rfl) ?_
          refine y_one (i := 6) (by kernel_rfl) rfl ?_
          refine s_call0 H61 (wt0 rfl) (x_call' rfl rfl cl23) (field_m c.n m _) rfl rfl ?_
          intro wq62 H63
          have cm8 := H63.mask [false, true, true, false, false, false, false, false]
          refine y_k cm8 (H63.mask [false, true, false, false, false, false, false, false]) ?_
          refine w_y 7 rfl (wt0 rfl) rfl rfl rfl (by kernel_rfl) (fun _ => x_move rfl rfl) ?_
          refine w_y 8 rfl (wt0 rfl) rfl rfl rfl (by kernel_rfl) (fun _ => x_extract rfl rfl rfl) ?_
          refine w_y 9 rfl (wt0 rfl) rfl rfl rfl (by kernel_rfl) (fun _ => x_extract rfl rfl rfl) ?_
          refine y_one (i := 10) (by kernel_rfl) rfl ?_
          refine s_val (v := .pointer (some ⟨rg, offR o, none⟩)) (wt0 rfl) rfl rfl (x_nilCheck rfl rfl) ?_
          refine y_k cm8 (H63.mask [false, true, false, false, false, false, false, false]) ?_
          refine y_one (i := 11) (by kernel_rfl) rfl ?_
          refine s_val (v := .pointer (some ⟨rg, offR o + 3, none⟩)) (wt0 rfl) rfl rfl (x_fieldAddr rfl rfl fo57_3 rfl) ?_
          refine y_k cm8 (H63.mask [false, true, false, false, false, false, false, false]) ?_
          refine y_one (i := 12) (by kernel_rfl) rfl ?_
          refine s_store1 H63 2 (wt0 rfl) rfl rfl rfl rfl rfl sz9 rfl rfl (rgC_ol rfl rfl (by decide)) ?_
          intro wq64 H65
          rw [rgC_so rfl rfl (by decide)] at H65
          replace H65 : S wq64 [Ob g12 (.cells #[.int .i64 (m.i1), .int .i64 (m.i2), .int .i64 (m.i3)] 49 (0, 0)), mgI g1 m, Ob rg (.cells (rgC o c [.bool ((a.bg || !quietB m.kind)), .bool (!(a.ck)), .bool a.wt, .string ((fieldMS c.n m).1), .slice R.pa a.al.length R.ca, .slice R.pw a.wa.length R.cw] [.bool b.bg, .bool (!(b.ck)), .bool b.wt, .string (b.fd), .slice R2.pa b.al.length R2.ca, .slice R2.pw b.wa.length R2.cw]) 59 (0, 0)), alR R a, rqI R a, alR R2 b, rqI R2 b, olR w rg c o R R2 a b] := H65
          refine y_kt rfl (H65.mask [false, true, false, false, false, false, false, false]) ?_
          refine y_done (by kernel_rfl) ?_
          refine g_in ?_
          refine g_then ?_
          refine g_weak [] trivial ?_
          refine w_s ?_
          refine w_a ?_
          refine w_e ?_
          refine g_ret ?_
          refine fin_ret [.tmp 6] [.int .i64 0] rfl ⟨rfl, trivial⟩ ?_
          have hO : mayO c a b m = { ({ a with fd := (fieldMS c.n m).1 }) with bg := (a.bg || !quietB m.kind) } := mayO_eq hz (by unfold ruleO; simp [hb23, hb29, hb32, hb35, hb38, hb45, hb52, hb59]) rfl
          have hQ : mayQ c a b m = b := mayQ_eq hz (by unfold ruleP; simp [hb23, hb29, hb32, hb35, hb38, hb45, hb52, hb59])
          exact ⟨⟨R.pa, R.ca, R.pw, R.cw⟩, ⟨R2.pa, R2.ca, R2.pw, R2.cw⟩, by rw [hz]; rfl, by rw [hO, hQ]; exact H65.takes [2, 3, 4, 5, 6, 7] (by decide)⟩
         ·
          refine g_cond_f rfl (decide_eq_false hb59) ?_
          refine w_s ?_
          refine w_b ?_
          refine w_a ?_
          refine w_e ?_
          by_cases hb66 : (m.kind : Int) = 16
          ·
           refine g_cond_t rfl (decide_eq_true hb66) ?_
           refine g_seq ?_
           refine g_any [(0, .pointer (some ⟨rg, 0, none⟩)), (5, .pointer (some ⟨g1, 0, none⟩)), (8, .pointer (some ⟨rg, offR o, none⟩)), (9, .pointer (some ⟨rg, offS o, none⟩)), (10, .pointer (some ⟨g12, 0, none⟩)), (45, .int .i64 (m.kind)), (93, .bool (decide ((m.kind : Int) = 14))), (95, .bool (decide ((m.kind : Int) = 13))), (96, .bool (decide ((m.kind : Int) = 14))), (109, .bool (decide ((m.kind : Int) = 16))), (110, .bool (decide ((m.kind : Int) = 16)))] (fun wx => S wx [mgI g1 m, Ob rg (.cells (rgC o c [.bool ((a.bg || !quietB m.kind)), .bool (!(a.ck)), .bool a.wt, .string (a.fd), .slice R.pa a.al.length R.ca, .slice R.pw a.wa.length R.cw] [.bool b.bg, .bool (!(b.ck)), .bool b.wt, .string (b.fd), .slice R2.pa b.al.length R2.ca, .slice R2.pw b.wa.length R2.cw]) 59 (0, 0))]) [] (by kernel_rfl) H22 (fun wq67 H68 => ?_)
           have cm9 := H68.mask [false, true, true, false, false, false, false, false]
           refine w_t 0 rfl cm9 (fun _ _ => xm) ?_
           refine w_t 1 rfl cm9 (fun _ _ => xn) ?_
           refine w_t 2 rfl cm9 (fun _ _ => xf (offR o + 4)) ?_
           refine w_t 3 rfl cm9 (fun _ H => x_load1 H 1 rfl rfl Tryz.underlying54 rfl rfl (rgC_o rfl rfl rfl)) ?_
           refine w_t 4 rfl cm9 (fun _ _ => xf 1) ?_
           refine w_t 5 rfl cm9 (fun _ H => xl H 0) ?_
           refine a_one (i := 6) (by kernel_rfl) rfl ?_
           refine s_call0 H68 (wt0 rfl) (x_call' rfl rfl cl24) (in_r a.al R.pa R.ca m.i1 (by omega) _ (H68.rwReads (k := 3) rfl)) rfl rfl ?_
           intro wq69 H70
           have cm10 := H70.mask [false, true, true, false, false, false, false, false]
           refine a_k cm10 ?_
           refine w_t (v := .bool (!((inB a.al m.i1)))) 7 rfl cm10 (fun _ _ => x_not (b := (inB a.al m.i1)) rfl rfl) ?_
           refine a_done (by kernel_rfl) ?_
           refine g_then ?_
           refine g_weak [(5, .pointer (some ⟨g1, 0, none⟩)), (8, .pointer (some ⟨rg, offR o, none⟩)), (118, .bool (!((inB a.al m.i1))))] ⟨rfl, rfl, rfl, trivial⟩ ?_
           rcases Bool.eq_false_or_eq_true ((inB a.al m.i1)) with hb71 | hb71
           ·
            refine g_cond_f rfl (neg_of hb71) ?_
            refine g_skip ?_
            refine g_in ?_
            refine g_then ?_
            refine w_s ?_
            refine w_a ?_
            refine w_e ?_
            refine g_ret ?_
            refine fin_ret [.tmp 6] [.int .i64 0] rfl ⟨rfl, trivial⟩ ?_
            have hO : mayO c a b m = { (a) with bg := (a.bg || !quietB m.kind) } := mayO_eq hz (by unfold ruleO; simp [hb23, hb29, hb32, hb35, hb38, hb45, hb52, hb59, hb66, hb71]) rfl
            have hQ : mayQ c a b m = b := mayQ_eq hz (by unfold ruleP; simp [hb23, hb29, hb32, hb35, hb38, hb45, hb52, hb59, hb66])
            exact ⟨⟨R.pa, R.ca, R.pw, R.cw⟩, ⟨R2.pa, R2.ca, R2.pw, R2.cw⟩, by rw [hz]; rfl, by rw [hO, hQ]; exact H70.takes [2, 3, 4, 5, 6, 7] (by decide)⟩
           ·
            refine g_cond_t rfl (neg_of hb71) ?_
            refine g_any [(5, .pointer (some ⟨g1, 0, none⟩)), (8, .pointer (some ⟨rg, offR o, none⟩)), (118, .bool (!((inB a.al m.i1))))] (fun wx => S wx [mgI g1 m, Ob rg (.cells (rgC o c [.bool ((a.bg || !quietB m.kind)), .bool (!(a.ck)), .bool a.wt, .string (a.fd), .slice R.pa a.al.length R.ca, .slice R.pw a.wa.length R.cw] [.bool b.bg, .bool (!(b.ck)), .bool b.wt, .string (b.fd), .slice R2.pa b.al.length R2.ca, .slice R2.pw b.wa.length R2.cw]) 59 (0, 0))]) [11] (by kernel_rfl) H70 (fun wq72 H73 => ?_)
            have cm11 := H73.mask [false, true, true, false, false, false, false, false]
            refine w_t 0 rfl cm11 (fun _ _ => xm) ?_
            refine w_t 1 rfl cm11 (fun _ _ => xm) ?_
            refine w_t 2 rfl cm11 (fun _ _ => xn) ?_
            refine w_t 3 rfl cm11 (fun _ _ => xf (offR o + 4)) ?_
            refine w_t 4 rfl cm11 (fun _ H => x_load1 H 1 rfl rfl Tryz.underlying54 rfl rfl (rgC_o rfl rfl rfl)) ?_
            refine w_t 5 rfl cm11 (fun _ _ => xf 1) ?_
            refine w_t 6 rfl cm11 (fun _ H => xl H 0) ?_
            refine a_one (i := 7) (by kernel_rfl) rfl ?_
            refine s_buildSlice H73 (wt0 rfl) rfl rfl rfl (vs := [.int .i64 (m.i1)]) rfl Tryz.underlying54 sz3 ze3 rfl rfl (cells := #[.int .i64 (m.i1)]) (by kernel_rfl) ?_
            intro g74 wq75 H76
            refine a_k (H76.mask [false, false, true, true, false, false, false, false, false]) ?_
            refine a_one (i := 8) (by kernel_rfl) rfl ?_
            refine s_appendR (n := a.al.length) (m := 1) (sc := R.ca) (xs := (zV a.al)) (news := [.int .i64 (m.i1)]) (p := R.pa) (ad := ⟨g74, 0, none⟩) H76 4 (wt0 rfl) rfl rfl rfl rfl rfl rfl Tryz.underlying54 inf3 rfl (by decide) (by decide) rfl (by decide) (news_ob H76 (j0 := 0) rfl) rfl (by omega) ?_
            intro p77 c78 wq79 (H80 : S wq79 [Ob g74 (.cells #[.int .i64 (m.i1)] 3 (0, 0)), Ob g12 (.cells #[.int .i64 (m.i1), .int .i64 (m.i2), .int .i64 (m.i3)] 49 (0, 0)), mgI g1 m, Ob rg (.cells (rgC o c [.bool ((a.bg || !quietB m.kind)), .bool (!(a.ck)), .bool a.wt, .string (a.fd), .slice R.pa a.al.length R.ca, .slice R.pw a.wa.length R.cw] [.bool b.bg, .bool (!(b.ck)), .bool b.wt, .string (b.fd), .slice R2.pa b.al.length R2.ca, .slice R2.pw b.wa.length R2.cw]) 59 (0, 0)), Rw 3 1 p77 (a.al.length + 1) c78 ((zV a.al) ++ [.int .i64 (m.i1)]), rqI R a, alR R2 b, rqI R2 b, olR w rg c o R R2 a b])
            have cm12 := H80.mask [false, false, true, true, false, false, false, false, false]
            refine a_k cm12 ?_
            refine a_one (i := 9) (by kernel_rfl) rfl ?_
            refine s_val (v := .pointer (some ⟨rg, offR o, none⟩)) (wt0 rfl) rfl rfl (x_nilCheck rfl rfl) ?_
            refine a_k cm12 ?_
            refine a_one (i := 10) (by kernel_rfl) rfl ?_
            refine s_val (v := .pointer (some ⟨rg, offR o + 4, none⟩)) (wt0 rfl) rfl rfl (x_fieldAddr rfl rfl fo57_4 rfl) ?_
            refine a_k cm12 ?_
            refine a_one (i := 11) (by kernel_rfl) rfl ?_
            refine s_store1 H80 3 (wt0 rfl) rfl rfl rfl rfl rfl sz54 rfl rfl (rgC_ol rfl rfl (by decide)) ?_
            intro wq81 H82
            rw [rgC_so rfl rfl (by decide)] at H82
            replace H82 : S wq81 [Ob g74 (.cells #[.int .i64 (m.i1)] 3 (0, 0)), Ob g12 (.cells #[.int .i64 (m.i1), .int .i64 (m.i2), .int .i64 (m.i3)] 49 (0, 0)), mgI g1 m, Ob rg (.cells (rgC o c [.bool ((a.bg || !quietB m.kind)), .bool (!(a.ck)), .bool a.wt, .string (a.fd), .slice p77 (a.al.length + 1) c78, .slice R.pw a.wa.length R.cw] [.bool b.bg, .bool (!(b.ck)), .bool b.wt, .string (b.fd), .slice R2.pa b.al.length R2.ca, .slice R2.pw b.wa.length R2.cw]) 59 (0, 0)), Rw 3 1 p77 (a.al.length + 1) c78 ((zV a.al) ++ [.int .i64 (m.i1)]), rqI R a, alR R2 b, rqI R2 b, olR w rg c o R R2 a b] := H82
            refine a_kt rfl ?_
            refine a_done (by kernel_rfl) ?_
            refine g_in ?_
            refine g_then ?_
            refine g_weak [] trivial ?_
            refine w_s ?_
            refine w_a ?_
            refine w_e ?_
            refine g_ret ?_
            refine fin_ret [.tmp 6] [.int .i64 0] rfl ⟨rfl, trivial⟩ ?_
            have hO : mayO c a b m = { (a.allow m.i1) with bg := (a.bg || !quietB m.kind) } := mayO_eq hz (by unfold ruleO; simp [hb23, hb29, hb32, hb35, hb38, hb45, hb52, hb59, hb66, hb71]) rfl
            have hQ : mayQ c a b m = b := mayQ_eq hz (by unfold ruleP; simp [hb23, hb29, hb32, hb35, hb38, hb45, hb52, hb59, hb66])
            have hzl : (a.al ++ [m.i1]).length = a.al.length + 1 := by simp
            exact ⟨⟨p77, c78, R.pw, R.cw⟩, ⟨R2.pa, R2.ca, R2.pw, R2.cw⟩, by rw [hz]; rfl, by rw [hO, hQ]; (try dsimp only [Wy.allow, rgI, alR]); rw [zV_app, hzl]; exact H82.takes [3, 4, 5, 6, 7, 8] (by decide)⟩
          ·
           refine g_cond_f rfl (decide_eq_false hb66) ?_
           refine w_s ?_
           refine w_b ?_
           refine w_a ?_
           refine w_e ?_
           by_cases hb83 : (m.kind : Int) = 8
           ·
            refine g_cond_t rfl (decide_eq_true hb83) ?_
            refine w_s ?_
            refine w_r3 ?_
            refine w_v (x_load1 H22 2 rfl rfl Tryz.underlying4 rfl rfl (rgC_c rfl)) ?_
            refine w_m ?_
            rcases Bool.eq_false_or_eq_true (c.ft) with hb84 | hb84
            ·
             refine w_n hb84 ?_
             refine w_n hb84 ?_
             refine w_n hb84 ?_
             refine w_n hb84 ?_
             refine w_v (v := .bool true) (x_pick_t rfl rfl hb84 rfl) ?_
             refine w_e ?_
             refine g_weak [(9, .pointer (some ⟨rg, offS o, none⟩)), (10, .pointer (some ⟨g12, 0, none⟩)), (141, .bool true)] ⟨rfl, rfl, rfl, trivial⟩ ?_
             refine g_cond_t rfl rfl ?_
             refine g_any [(9, .pointer (some ⟨rg, offS o, none⟩)), (10, .pointer (some ⟨g12, 0, none⟩)), (141, .bool true)] (fun wx => S wx [Ob g12 (.cells #[.int .i64 (m.i1), .int .i64 (m.i2), .int .i64 (m.i3)] 49 (0, 0)), Ob rg (.cells (rgC o c [.bool ((a.bg || !quietB m.kind)), .bool (!(a.ck)), .bool a.wt, .string (a.fd), .slice R.pa a.al.length R.ca, .slice R.pw a.wa.length R.cw] [.bool b.bg, .bool (!(b.ck)), .bool b.wt, .string (b.fd), .slice R2.pa b.al.length R2.ca, .slice R2.pw b.wa.length R2.cw]) 59 (0, 0))]) [11] (by kernel_rfl) H22 (fun wq85 H86 => ?_)
             have cm13 := H86.mask [true, false, true, false, false, false, false, false]
             refine w_t 0 rfl cm13 (fun _ _ => xm) ?_
             refine w_t 1 rfl cm13 (fun _ _ => xm) ?_
             refine w_t 2 rfl cm13 (fun _ _ => xn) ?_
             refine w_t 3 rfl cm13 (fun _ _ => xf (offS o + 5)) ?_
             refine w_t 4 rfl cm13 (fun _ H => x_load1 H 1 rfl rfl Tryz.underlying55 rfl rfl (rgC_p rfl rfl rfl)) ?_
             refine w_t (v := .agg #[.int .i64 (m.i1), .int .i64 (m.i2), .int .i64 (m.i3)]) 5 rfl cm13 (fun _ H => x_loadA H 0 rfl rfl Tryz.underlying49 rfl sz49 rfl rfl rfl) ?_
             refine w_t (v := .agg #[.int .i64 (m.i1), .int .i64 (m.i2), .int .i64 (m.i3), .bool false]) 6 rfl cm13 (fun _ _ => x_build (vs := [.agg #[.int .i64 (m.i1), .int .i64 (m.i2), .int .i64 (m.i3)]]) rfl rfl (cells := #[.int .i64 (m.i1), .int .i64 (m.i2), .int .i64 (m.i3), .bool false]) (by kernel_rfl)) ?_
             refine a_one (i := 7) (by kernel_rfl) rfl ?_
             refine s_buildSlice H86 (wt0 rfl) rfl rfl rfl (vs := [.agg #[.int .i64 (m.i1), .int .i64 (m.i2), .int .i64 (m.i3), .bool false]]) rfl Tryz.underlying55 sz65 ze65 rfl rfl (cells := #[.int .i64 (m.i1), .int .i64 (m.i2), .int .i64 (m.i3), .bool false]) (by kernel_rfl) ?_
             intro g87 wq88 H89
             refine a_k (H89.mask [false, true, false, true, false, false, false, false, false]) ?_
             refine a_one (i := 8) (by kernel_rfl) rfl ?_
             refine s_appendR (n := b.wa.length) (m := 1) (sc := R2.cw) (xs := (qV (rqs b))) (news := [.int .i64 (m.i1), .int .i64 (m.i2), .int .i64 (m.i3), .bool false]) (p := R2.pw) (ad := ⟨g87, 0, none⟩) H89 7 (wt0 rfl) rfl rfl rfl rfl rfl rfl Tryz.underlying55 inf65 rfl (by decide) (by decide) rfl (by decide) (news_ob H89 (j0 := 0) rfl) rfl (by omega) ?_
             intro p90 c91 wq92 (H93 : S wq92 [Ob g87 (.cells #[.int .i64 (m.i1), .int .i64 (m.i2), .int .i64 (m.i3), .bool false] 65 (0, 0)), Ob g12 (.cells #[.int .i64 (m.i1), .int .i64 (m.i2), .int .i64 (m.i3)] 49 (0, 0)), mgI g1 m, Ob rg (.cells (rgC o c [.bool ((a.bg || !quietB m.kind)), .bool (!(a.ck)), .bool a.wt, .string (a.fd), .slice R.pa a.al.length R.ca, .slice R.pw a.wa.length R.cw] [.bool b.bg, .bool (!(b.ck)), .bool b.wt, .string (b.fd), .slice R2.pa b.al.length R2.ca, .slice R2.pw b.wa.length R2.cw]) 59 (0, 0)), alR R a, rqI R a, alR R2 b, Rw 65 4 p90 (b.wa.length + 1) c91 ((qV (rqs b)) ++ [.int .i64 (m.i1), .int .i64 (m.i2), .int .i64 (m.i3), .bool false]), olR w rg c o R R2 a b])
             have cm14 := H93.mask [false, true, false, true, false, false, false, false, false]
             refine a_k cm14 ?_
             refine a_one (i := 9) (by kernel_rfl) rfl ?_
             refine s_val (v := .pointer (some ⟨rg, offS o, none⟩)) (wt0 rfl) rfl rfl (x_nilCheck rfl rfl) ?_
             refine a_k cm14 ?_
             refine a_one (i := 10) (by kernel_rfl) rfl ?_
             refine s_val (v := .pointer (some ⟨rg, offS o + 5, none⟩)) (wt0 rfl) rfl rfl (x_fieldAddr rfl rfl fo57_5 rfl) ?_
             refine a_k cm14 ?_
             refine a_one (i := 11) (by kernel_rfl) rfl ?_
             refine s_store1 H93 3 (wt0 rfl) rfl rfl rfl rfl rfl sz55 rfl rfl (rgC_pl rfl rfl (by decide)) ?_
             intro wq94 H95
             rw [rgC_sp rfl rfl (by decide)] at H95
             replace H95 : S wq94 [Ob g87 (.cells #[.int .i64 (m.i1), .int .i64 (m.i2), .int .i64 (m.i3), .bool false] 65 (0, 0)), Ob g12 (.cells #[.int .i64 (m.i1), .int .i64 (m.i2), .int .i64 (m.i3)] 49 (0, 0)), mgI g1 m, Ob rg (.cells (rgC o c [.bool ((a.bg || !quietB m.kind)), .bool (!(a.ck)), .bool a.wt, .string (a.fd), .slice R.pa a.al.length R.ca, .slice R.pw a.wa.length R.cw] [.bool b.bg, .bool (!(b.ck)), .bool b.wt, .string (b.fd), .slice R2.pa b.al.length R2.ca, .slice p90 (b.wa.length + 1) c91]) 59 (0, 0)), alR R a, rqI R a, alR R2 b, Rw 65 4 p90 (b.wa.length + 1) c91 ((qV (rqs b)) ++ [.int .i64 (m.i1), .int .i64 (m.i2), .int .i64 (m.i3), .bool false]), olR w rg c o R R2 a b] := H95
             refine a_kt rfl ?_
             refine a_done (by kernel_rfl) ?_
             refine g_in ?_
             refine g_then ?_
             refine g_weak [] trivial ?_
             refine w_s ?_
             refine w_a ?_
             refine w_e ?_
             refine g_ret ?_
             refine fin_ret [.tmp 6] [.int .i64 0] rfl ⟨rfl, trivial⟩ ?_
             have hgo := ask_facts hKb hz (by omega) (by simp [hb84])
             have hrq : rqs (b.ask (blk m)) = rqs b ++ [(blk m, false)] := rqs_ask hgo
             have hbn : (blk m).n = m.i3 := if_neg (by omega)
             have hO : mayO c a b m = { (a) with bg := (a.bg || !quietB m.kind) } := mayO_eq hz (by unfold ruleO; simp [hb23, hb29, hb32, hb35, hb38, hb45, hb52, hb59, hb66, hb83]) rfl
             have hQ : mayQ c a b m = b.ask (blk m) := mayQ_eq hz (by unfold ruleP; simp [hb23, hb29, hb32, hb35, hb38, hb45, hb52, hb59, hb66, hb83, hb84])
             have hwl2 : (b.ask (blk m)).wa.length = b.wa.length + 1 := by show (b.wa ++ [blk m]).length = _; simp
             exact ⟨⟨R.pa, R.ca, R.pw, R.cw⟩, ⟨R2.pa, R2.ca, p90, c91⟩, by rw [hz]; rfl, by rw [hO, hQ]; dsimp only [rgI, alR, rqI]; rw [hwl2, hrq, qV_app, show qV [(blk m, false)] = [.int .i64 (blk m).p, .int .i64 (blk m).b, .int .i64 (blk m).n, .bool false] from rfl, hbn]; exact H95.takes [3, 4, 5, 6, 7, 8] (by decide)⟩
            ·
             refine w_g hb84 xm ?_
             refine w_g hb84 xn ?_
             refine w_g hb84 (xf (offS o + 1)) ?_
             refine w_g hb84 (x_load1 H22 2 rfl rfl Tryz.underlying4 rfl rfl (rgC_p rfl rfl rfl)) ?_
             refine w_v (v := .bool (!(b.ck))) (x_pick_f rfl rfl hb84 rfl) ?_
             refine w_e ?_
             refine g_weak [(9, .pointer (some ⟨rg, offS o, none⟩)), (10, .pointer (some ⟨g12, 0, none⟩)), (141, .bool (!(b.ck)))] ⟨rfl, rfl, rfl, trivial⟩ ?_
             rcases Bool.eq_false_or_eq_true (b.ck) with hb96 | hb96
             ·
              refine g_cond_f rfl (neg_of hb96) ?_
              refine g_skip ?_
              refine g_in ?_
              refine g_then ?_
              refine w_s ?_
              refine w_a ?_
              refine w_e ?_
              refine g_ret ?_
              refine fin_ret [.tmp 6] [.int .i64 0] rfl ⟨rfl, trivial⟩ ?_
              have hO : mayO c a b m = { (a) with bg := (a.bg || !quietB m.kind) } := mayO_eq hz (by unfold ruleO; simp [hb23, hb29, hb32, hb35, hb38, hb45, hb52, hb59, hb66, hb83]) rfl
              have hQ : mayQ c a b m = b := mayQ_eq hz (by unfold ruleP; simp [hb23, hb29, hb32, hb35, hb38, hb45, hb52, hb59, hb66, hb83, hb84, hb96])
              exact ⟨⟨R.pa, R.ca, R.pw, R.cw⟩, ⟨R2.pa, R2.ca, R2.pw, R2.cw⟩, by rw [hz]; rfl, by rw [hO, hQ]; exact H22.takes [2, 3, 4, 5, 6, 7] (by decide)⟩
             ·
              refine g_cond_t rfl (neg_of hb96) ?_
              refine g_any [(9, .pointer (some ⟨rg, offS o, none⟩)), (10, .pointer (some ⟨g12, 0, none⟩)), (141, .bool (!(b.ck)))] (fun wx => S wx [Ob g12 (.cells #[.int .i64 (m.i1), .int .i64 (m.i2), .int .i64 (m.i3)] 49 (0, 0)), Ob rg (.cells (rgC o c [.bool ((a.bg || !quietB m.kind)), .bool (!(a.ck)), .bool a.wt, .string (a.fd), .slice R.pa a.al.length R.ca, .slice R.pw a.wa.length R.cw] [.bool b.bg, .bool (!(b.ck)), .bool b.wt, .string (b.fd), .slice R2.pa b.al.length R2.ca, .slice R2.pw b.wa.length R2.cw]) 59 (0, 0))]) [11] (by kernel_rfl) H22 (fun wq97 H98 => ?_)
              have cm15 := H98.mask [true, false, true, false, false, false, false, false]
              refine w_t 0 rfl cm15 (fun _ _ => xm) ?_
              refine w_t 1 rfl cm15 (fun _ _ => xm) ?_
              refine w_t 2 rfl cm15 (fun _ _ => xn) ?_
              refine w_t 3 rfl cm15 (fun _ _ => xf (offS o + 5)) ?_
              refine w_t 4 rfl cm15 (fun _ H => x_load1 H 1 rfl rfl Tryz.underlying55 rfl rfl (rgC_p rfl rfl rfl)) ?_
              refine w_t (v := .agg #[.int .i64 (m.i1), .int .i64 (m.i2), .int .i64 (m.i3)]) 5 rfl cm15 (fun _ H => x_loadA H 0 rfl rfl Tryz.underlying49 rfl sz49 rfl rfl rfl) ?_
              refine w_t (v := .agg #[.int .i64 (m.i1), .int .i64 (m.i2), .int .i64 (m.i3), .bool false]) 6 rfl cm15 (fun _ _ => x_build (vs := [.agg #[.int .i64 (m.i1), .int .i64 (m.i2), .int .i64 (m.i3)]]) rfl rfl (cells := #[.int .i64 (m.i1), .int .i64 (m.i2), .int .i64 (m.i3), .bool false]) (by kernel_rfl)) ?_
              refine a_one (i := 7) (by kernel_rfl) rfl ?_
              refine s_buildSlice H98 (wt0 rfl) rfl rfl rfl (vs := [.agg #[.int .i64 (m.i1), .int .i64 (m.i2), .int .i64 (m.i3), .bool false]]) rfl Tryz.underlying55 sz65 ze65 rfl rfl (cells := #[.int .i64 (m.i1), .int .i64 (m.i2), .int .i64 (m.i3), .bool false]) (by kernel_rfl) ?_
              intro g99 wq100 H101
              refine a_k (H101.mask [false, true, false, true, false, false, false, false, false]) ?_
              refine a_one (i := 8) (by kernel_rfl) rfl ?_
              refine s_appendR (n := b.wa.length) (m := 1) (sc := R2.cw) (xs := (qV (rqs b))) (news := [.int .i64 (m.i1), .int .i64 (m.i2), .int .i64 (m.i3), .bool false]) (p := R2.pw) (ad := ⟨g99, 0, none⟩) H101 7 (wt0 rfl) rfl rfl rfl rfl rfl rfl Tryz.underlying55 inf65 rfl (by decide) (by decide) rfl (by decide) (news_ob H101 (j0 := 0) rfl) rfl (by omega) ?_
              intro p102 c103 wq104 (H105 : S wq104 [Ob g99 (.cells #[.int .i64 (m.i1), .int .i64 (m.i2), .int .i64 (m.i3), .bool false] 65 (0, 0)), Ob g12 (.cells #[.int .i64 (m.i1), .int .i64 (m.i2), .int .i64 (m.i3)] 49 (0, 0)), mgI g1 m, Ob rg (.cells (rgC o c [.bool ((a.bg || !quietB m.kind)), .bool (!(a.ck)), .bool a.wt, .string (a.fd), .slice R.pa a.al.length R.ca, .slice R.pw a.wa.length R.cw] [.bool b.bg, .bool (!(b.ck)), .bool b.wt, .string (b.fd), .slice R2.pa b.al.length R2.ca, .slice R2.pw b.wa.length R2.cw]) 59 (0, 0)), alR R a, rqI R a, alR R2 b, Rw 65 4 p102 (b.wa.length + 1) c103 ((qV (rqs b)) ++ [.int .i64 (m.i1), .int .i64 (m.i2), .int .i64 (m.i3), .bool false]), olR w rg c o R R2 a b])
              have cm16 := H105.mask [false, true, false, true, false, false, false, false, false]
              refine a_k cm16 ?_
              refine a_one (i := 9) (by kernel_rfl) rfl ?_
              refine s_val (v := .pointer (some ⟨rg, offS o, none⟩)) (wt0 rfl) rfl rfl (x_nilCheck rfl rfl) ?_
              refine a_k cm16 ?_
              refine a_one (i := 10) (by kernel_rfl) rfl ?_
              refine s_val (v := .pointer (some ⟨rg, offS o + 5, none⟩)) (wt0 rfl) rfl rfl (x_fieldAddr rfl rfl fo57_5 rfl) ?_
              refine a_k cm16 ?_
              refine a_one (i := 11) (by kernel_rfl) rfl ?_
              refine s_store1 H105 3 (wt0 rfl) rfl rfl rfl rfl rfl sz55 rfl rfl (rgC_pl rfl rfl (by decide)) ?_
              intro wq106 H107
              rw [rgC_sp rfl rfl (by decide)] at H107
              replace H107 : S wq106 [Ob g99 (.cells #[.int .i64 (m.i1), .int .i64 (m.i2), .int .i64 (m.i3), .bool false] 65 (0, 0)), Ob g12 (.cells #[.int .i64 (m.i1), .int .i64 (m.i2), .int .i64 (m.i3)] 49 (0, 0)), mgI g1 m, Ob rg (.cells (rgC o c [.bool ((a.bg || !quietB m.kind)), .bool (!(a.ck)), .bool a.wt, .string (a.fd), .slice R.pa a.al.length R.ca, .slice R.pw a.wa.length R.cw] [.bool b.bg, .bool (!(b.ck)), .bool b.wt, .string (b.fd), .slice R2.pa b.al.length R2.ca, .slice p102 (b.wa.length + 1) c103]) 59 (0, 0)), alR R a, rqI R a, alR R2 b, Rw 65 4 p102 (b.wa.length + 1) c103 ((qV (rqs b)) ++ [.int .i64 (m.i1), .int .i64 (m.i2), .int .i64 (m.i3), .bool false]), olR w rg c o R R2 a b] := H107
              refine a_kt rfl ?_
              refine a_done (by kernel_rfl) ?_
              refine g_in ?_
              refine g_then ?_
              refine g_weak [] trivial ?_
              refine w_s ?_
              refine w_a ?_
              refine w_e ?_
              refine g_ret ?_
              refine fin_ret [.tmp 6] [.int .i64 0] rfl ⟨rfl, trivial⟩ ?_
              have hgo := ask_facts hKb hz (by omega) (by simp [hb84, hb96])
              have hrq : rqs (b.ask (blk m)) = rqs b ++ [(blk m, false)] := rqs_ask hgo
              have hbn : (blk m).n = m.i3 := if_neg (by omega)
              have hO : mayO c a b m = { (a) with bg := (a.bg || !quietB m.kind) } := mayO_eq hz (by unfold ruleO; simp [hb23, hb29, hb32, hb35, hb38, hb45, hb52, hb59, hb66, hb83]) rfl
              have hQ : mayQ c a b m = b.ask (blk m) := mayQ_eq hz (by unfold ruleP; simp [hb23, hb29, hb32, hb35, hb38, hb45, hb52, hb59, hb66, hb83, hb84, hb96])
              have hwl2 : (b.ask (blk m)).wa.length = b.wa.length + 1 := by show (b.wa ++ [blk m]).length = _; simp
              exact ⟨⟨R.pa, R.ca, R.pw, R.cw⟩, ⟨R2.pa, R2.ca, p102, c103⟩, by rw [hz]; rfl, by rw [hO, hQ]; dsimp only [rgI, alR, rqI]; rw [hwl2, hrq, qV_app, show qV [(blk m, false)] = [.int .i64 (blk m).p, .int .i64 (blk m).b, .int .i64 (blk m).n, .bool false] from rfl, hbn]; exact H107.takes [3, 4, 5, 6, 7, 8] (by decide)⟩
           ·
            refine g_cond_f rfl (decide_eq_false hb83) ?_
            refine w_s ?_
            refine w_b ?_
            refine w_a ?_
            refine w_e ?_
            by_cases hb108 : (m.kind : Int) = 9
            ·
             refine g_cond_t rfl (decide_eq_true hb108) ?_
             refine w_s ?_
             refine w_f 7 ?_
             refine w_1 H22 1 ?_
             refine w_v (v := .int .i64 ((m.data.size : Int))) (x_lens rfl rfl Tryz.underlying9) ?_
             refine w_f 2 ?_
             refine l_of (w_st #[.int .i64 (m.i1), .int .i64 (m.i2), .int .i64 ((m.data.size : Int))] H22 0 ?_)
             intro wq109 H110
             refine w_e ?_
             refine g_weak [(8, .pointer (some ⟨rg, offR o, none⟩)), (10, .pointer (some ⟨g12, 0, none⟩))] ⟨rfl, rfl, trivial⟩ ?_
             refine g_any [(8, .pointer (some ⟨rg, offR o, none⟩)), (10, .pointer (some ⟨g12, 0, none⟩))] (fun wx => S wx [Ob g12 (.cells #[.int .i64 (m.i1), .int .i64 (m.i2), .int .i64 ((m.data.size : Int))] 49 (0, 0)), Ob rg (.cells (rgC o c [.bool ((a.bg || !quietB m.kind)), .bool (!(a.ck)), .bool a.wt, .string (a.fd), .slice R.pa a.al.length R.ca, .slice R.pw a.wa.length R.cw] [.bool b.bg, .bool (!(b.ck)), .bool b.wt, .string (b.fd), .slice R2.pa b.al.length R2.ca, .slice R2.pw b.wa.length R2.cw]) 59 (0, 0))]) [14] (by kernel_rfl) H110 (fun wq111 H112 => ?_)
             have cm17 := H112.mask [true, false, true, false, false, false, false, false]
             refine w_t 0 rfl cm17 (fun _ _ => xm) ?_
             refine w_t 1 rfl cm17 (fun _ _ => xm) ?_
             refine w_t 2 rfl cm17 (fun _ _ => xn) ?_
             refine w_t 3 rfl cm17 (fun _ _ => xf (offR o + 5)) ?_
             refine w_t 4 rfl cm17 (fun _ H => x_load1 H 1 rfl rfl Tryz.underlying55 rfl rfl (rgC_o rfl rfl rfl)) ?_
             refine w_t 5 rfl cm17 (fun _ _ => xm) ?_
             refine w_t 6 rfl cm17 (fun _ _ => xn) ?_
             refine w_t 7 rfl cm17 (fun _ _ => xf (offR o + 5)) ?_
             refine w_t 8 rfl cm17 (fun _ H => x_load1 H 1 rfl rfl Tryz.underlying55 rfl rfl (rgC_o rfl rfl rfl)) ?_
             refine w_t (v := .agg #[.int .i64 (m.i1), .int .i64 (m.i2), .int .i64 ((m.data.size : Int))]) 9 rfl cm17 (fun _ H => x_loadA H 0 rfl rfl Tryz.underlying49 rfl sz49 rfl rfl rfl) ?_
             refine a_one (i := 10) (by kernel_rfl) rfl ?_
             have hfc113 := find_w a R.pw R.cw (blk m) (by omega) wq111 (H112.rwReads (k := 4) rfl)
             rw [show (blk m).n = (m.data.size : Int) from if_pos (by omega)] at hfc113
             refine s_call (wt0 rfl) (x_call' rfl rfl cl26) (hfc113) ?_
             rintro _ wq116 ⟨r114, rfl, hfr115, H117⟩
             replace H117 : S wq116 [Ob g12 (.cells #[.int .i64 (m.i1), .int .i64 (m.i2), .int .i64 ((m.data.size : Int))] 49 (0, 0)), mgI g1 m, Ob rg (.cells (rgC o c [.bool ((a.bg || !quietB m.kind)), .bool (!(a.ck)), .bool a.wt, .string (a.fd), .slice R.pa a.al.length R.ca, .slice R.pw a.wa.length R.cw] [.bool b.bg, .bool (!(b.ck)), .bool b.wt, .string (b.fd), .slice R2.pa b.al.length R2.ca, .slice R2.pw b.wa.length R2.cw]) 59 (0, 0)), alR R a, rqI R a, alR R2 b, rqI R2 b, olR w rg c o R R2 a b] := H112.absorb (new := []) H117
             refine b_ret rfl rfl ?_
             refine a_k (H117.mask [true, false, true, false, false, false, false, false]) ?_
             refine a_one (i := 11) (by kernel_rfl) rfl ?_
             obtain ⟨i, hri, hil, hix, hic⟩ : ∃ i : Nat, r114 = (i : Int) ∧ i < a.wa.length ∧ a.wa.getD i Ch.none = blk m ∧ chB a.wa (blk m) = true := by
              rcases hfr115 with ⟨q1, q2⟩ | q
              · exfalso; exact absurd (step_facts (may_ok hz).2).2.2 (by unfold ruleE; simp [hb23, hb29, hb32, hb35, hb38, hb45, hb52, hb59, hb66, hb83, hb108, q2]; try (split <;> decide))
              · exact q
             have hwo120 := without_w a R.pw R.cw i (blk m) (by omega) hKa.nd hil hix wq116 (H117.rwReads (k := 4) rfl)
             rw [← hri] at hwo120
             refine s_call (wt0 rfl) (x_call' rfl rfl cl25) (hwo120) ?_
             rintro _ wq121 ⟨p118, c119, rfl, H122⟩
             replace H122 : S wq121 [Rw 65 4 p118 (a.drop (blk m)).wa.length c119 (qV (rqs (a.drop (blk m)))), Ob g12 (.cells #[.int .i64 (m.i1), .int .i64 (m.i2), .int .i64 ((m.data.size : Int))] 49 (0, 0)), mgI g1 m, Ob rg (.cells (rgC o c [.bool ((a.bg || !quietB m.kind)), .bool (!(a.ck)), .bool a.wt, .string (a.fd), .slice R.pa a.al.length R.ca, .slice R.pw a.wa.length R.cw] [.bool b.bg, .bool (!(b.ck)), .bool b.wt, .string (b.fd), .slice R2.pa b.al.length R2.ca, .slice R2.pw b.wa.length R2.cw]) 59 (0, 0)), alR R a, rqI R a, alR R2 b, rqI R2 b, olR w rg c o R R2 a b] := H117.absorb (new := [Rw 65 4 p118 (a.drop (blk m)).wa.length c119 (qV (rqs (a.drop (blk m))))]) H122
             refine b_ret rfl rfl ?_
             have cm18 := H122.mask [false, true, false, true, false, false, false, false, false]
             refine a_k cm18 ?_
             refine a_one (i := 12) (by kernel_rfl) rfl ?_
             refine s_val (v := .pointer (some ⟨rg, offR o, none⟩)) (wt0 rfl) rfl rfl (x_nilCheck rfl rfl) ?_
             refine a_k cm18 ?_
             refine a_one (i := 13) (by kernel_rfl) rfl ?_
             refine s_val (v := .pointer (some ⟨rg, offR o + 5, none⟩)) (wt0 rfl) rfl rfl (x_fieldAddr rfl rfl fo57_5 rfl) ?_
             refine a_k cm18 ?_
             refine a_one (i := 14) (by kernel_rfl) rfl ?_
             refine s_store1 H122 3 (wt0 rfl) rfl rfl rfl rfl rfl sz55 rfl rfl (rgC_ol rfl rfl (by decide)) ?_
             intro wq123 H124
             rw [rgC_so rfl rfl (by decide)] at H124
             replace H124 : S wq123 [Rw 65 4 p118 (a.drop (blk m)).wa.length c119 (qV (rqs (a.drop (blk m)))), Ob g12 (.cells #[.int .i64 (m.i1), .int .i64 (m.i2), .int .i64 ((m.data.size : Int))] 49 (0, 0)), mgI g1 m, Ob rg (.cells (rgC o c [.bool ((a.bg || !quietB m.kind)), .bool (!(a.ck)), .bool a.wt, .string (a.fd), .slice R.pa a.al.length R.ca, .slice p118 (a.drop (blk m)).wa.length c119] [.bool b.bg, .bool (!(b.ck)), .bool b.wt, .string (b.fd), .slice R2.pa b.al.length R2.ca, .slice R2.pw b.wa.length R2.cw]) 59 (0, 0)), alR R a, rqI R a, alR R2 b, rqI R2 b, olR w rg c o R R2 a b] := H124
             refine a_kt rfl ?_
             refine a_done (by kernel_rfl) ?_
             refine g_in ?_
             refine g_then ?_
             refine g_weak [] trivial ?_
             refine w_s ?_
             refine w_a ?_
             refine w_e ?_
             refine g_ret ?_
             refine fin_ret [.tmp 6] [.int .i64 0] rfl ⟨rfl, trivial⟩ ?_
             have hO : mayO c a b m = { (a.drop (blk m)) with bg := (a.bg || !quietB m.kind) } := mayO_eq hz (by unfold ruleO; simp [hb23, hb29, hb32, hb35, hb38, hb45, hb52, hb59, hb66, hb83, hb108]) rfl
             have hQ : mayQ c a b m = b := mayQ_eq hz (by unfold ruleP; simp [hb23, hb29, hb32, hb35, hb38, hb45, hb52, hb59, hb66, hb83, hb108])
             exact ⟨⟨R.pa, R.ca, p118, c119⟩, ⟨R2.pa, R2.ca, R2.pw, R2.cw⟩, by rw [hz]; rfl, by rw [hO, hQ]; exact H124.takes [3, 4, 0, 6, 7, 8] (by decide)⟩
            ·
             refine g_cond_f rfl (decide_eq_false hb108) ?_
             refine w_s ?_
             refine w_b ?_
             refine w_a ?_
             refine w_e ?_
             by_cases hb125 : (m.kind : Int) = 15
             ·
              refine g_cond_t rfl (decide_eq_true hb125) ?_
              refine g_any [(0, .pointer (some ⟨rg, 0, none⟩)), (5, .pointer (some ⟨g1, 0, none⟩)), (8, .pointer (some ⟨rg, offR o, none⟩)), (9, .pointer (some ⟨rg, offS o, none⟩)), (10, .pointer (some ⟨g12, 0, none⟩)), (45, .int .i64 (m.kind)), (93, .bool (decide ((m.kind : Int) = 14))), (95, .bool (decide ((m.kind : Int) = 13))), (96, .bool (decide ((m.kind : Int) = 14))), (109, .bool (decide ((m.kind : Int) = 16))), (110, .bool (decide ((m.kind : Int) = 16))), (130, .bool (decide ((m.kind : Int) = 8))), (131, .bool (decide ((m.kind : Int) = 8))), (153, .bool (decide ((m.kind : Int) = 9))), (154, .bool (decide ((m.kind : Int) = 9))), (173, .bool (decide ((m.kind : Int) = 15))), (174, .bool (decide ((m.kind : Int) = 15)))] (fun wx => S wx [Ob g12 (.cells #[.int .i64 (m.i1), .int .i64 (m.i2), .int .i64 (m.i3)] 49 (0, 0)), Ob rg (.cells (rgC o c [.bool ((a.bg || !quietB m.kind)), .bool (!(a.ck)), .bool a.wt, .string (a.fd), .slice R.pa a.al.length R.ca, .slice R.pw a.wa.length R.cw] [.bool b.bg, .bool (!(b.ck)), .bool b.wt, .string (b.fd), .slice R2.pa b.al.length R2.ca, .slice R2.pw b.wa.length R2.cw]) 59 (0, 0))]) [14] (by kernel_rfl) H22 (fun wq126 H127 => ?_)
              have cm19 := H127.mask [true, false, true, false, false, false, false, false]
              refine w_t 0 rfl cm19 (fun _ _ => xm) ?_
              refine w_t 1 rfl cm19 (fun _ _ => xm) ?_
              refine w_t 2 rfl cm19 (fun _ _ => xn) ?_
              refine w_t 3 rfl cm19 (fun _ _ => xf (offR o + 5)) ?_
              refine w_t 4 rfl cm19 (fun _ H => x_load1 H 1 rfl rfl Tryz.underlying55 rfl rfl (rgC_o rfl rfl rfl)) ?_
              refine w_t 5 rfl cm19 (fun _ _ => xm) ?_
              refine w_t 6 rfl cm19 (fun _ _ => xn) ?_
              refine w_t 7 rfl cm19 (fun _ _ => xf (offR o + 5)) ?_
              refine w_t 8 rfl cm19 (fun _ H => x_load1 H 1 rfl rfl Tryz.underlying55 rfl rfl (rgC_o rfl rfl rfl)) ?_
              refine w_t (v := .agg #[.int .i64 (m.i1), .int .i64 (m.i2), .int .i64 (m.i3)]) 9 rfl cm19 (fun _ H => x_loadA H 0 rfl rfl Tryz.underlying49 rfl sz49 rfl rfl rfl) ?_
              refine a_one (i := 10) (by kernel_rfl) rfl ?_
              have hfc128 := find_w a R.pw R.cw (blk m) (by omega) wq126 (H127.rwReads (k := 4) rfl)
              rw [show (blk m).n = m.i3 from if_neg (by omega)] at hfc128
              refine s_call (wt0 rfl) (x_call' rfl rfl cl26) (hfc128) ?_
              rintro _ wq131 ⟨r129, rfl, hfr130, H132⟩
              replace H132 : S wq131 [Ob g12 (.cells #[.int .i64 (m.i1), .int .i64 (m.i2), .int .i64 (m.i3)] 49 (0, 0)), mgI g1 m, Ob rg (.cells (rgC o c [.bool ((a.bg || !quietB m.kind)), .bool (!(a.ck)), .bool a.wt, .string (a.fd), .slice R.pa a.al.length R.ca, .slice R.pw a.wa.length R.cw] [.bool b.bg, .bool (!(b.ck)), .bool b.wt, .string (b.fd), .slice R2.pa b.al.length R2.ca, .slice R2.pw b.wa.length R2.cw]) 59 (0, 0)), alR R a, rqI R a, alR R2 b, rqI R2 b, olR w rg c o R R2 a b] := H127.absorb (new := []) H132
              refine b_ret rfl rfl ?_
              refine a_k (H132.mask [true, false, true, false, false, false, false, false]) ?_
              refine a_one (i := 11) (by kernel_rfl) rfl ?_
              obtain ⟨i, hri, hil, hix, hic⟩ : ∃ i : Nat, r129 = (i : Int) ∧ i < a.wa.length ∧ a.wa.getD i Ch.none = blk m ∧ chB a.wa (blk m) = true := by
               rcases hfr130 with ⟨q1, q2⟩ | q
               · exfalso; exact absurd (step_facts (may_ok hz).2).2.2 (by unfold ruleE; simp [hb23, hb29, hb32, hb35, hb38, hb45, hb52, hb59, hb66, hb83, hb108, hb125, q2]; try (split <;> decide))
               · exact q
              have hwo135 := without_w a R.pw R.cw i (blk m) (by omega) hKa.nd hil hix wq131 (H132.rwReads (k := 4) rfl)
              rw [← hri] at hwo135
              refine s_call (wt0 rfl) (x_call' rfl rfl cl25) (hwo135) ?_
              rintro _ wq136 ⟨p133, c134, rfl, H137⟩
              replace H137 : S wq136 [Rw 65 4 p133 (a.drop (blk m)).wa.length c134 (qV (rqs (a.drop (blk m)))), Ob g12 (.cells #[.int .i64 (m.i1), .int .i64 (m.i2), .int .i64 (m.i3)] 49 (0, 0)), mgI g1 m, Ob rg (.cells (rgC o c [.bool ((a.bg || !quietB m.kind)), .bool (!(a.ck)), .bool a.wt, .string (a.fd), .slice R.pa a.al.length R.ca, .slice R.pw a.wa.length R.cw] [.bool b.bg, .bool (!(b.ck)), .bool b.wt, .string (b.fd), .slice R2.pa b.al.length R2.ca, .slice R2.pw b.wa.length R2.cw]) 59 (0, 0)), alR R a, rqI R a, alR R2 b, rqI R2 b, olR w rg c o R R2 a b] := H132.absorb (new := [Rw 65 4 p133 (a.drop (blk m)).wa.length c134 (qV (rqs (a.drop (blk m))))]) H137
              refine b_ret rfl rfl ?_
              have cm20 := H137.mask [false, true, false, true, false, false, false, false, false]
              refine a_k cm20 ?_
              refine a_one (i := 12) (by kernel_rfl) rfl ?_
              refine s_val (v := .pointer (some ⟨rg, offR o, none⟩)) (wt0 rfl) rfl rfl (x_nilCheck rfl rfl) ?_
              refine a_k cm20 ?_
              refine a_one (i := 13) (by kernel_rfl) rfl ?_
              refine s_val (v := .pointer (some ⟨rg, offR o + 5, none⟩)) (wt0 rfl) rfl rfl (x_fieldAddr rfl rfl fo57_5 rfl) ?_
              refine a_k cm20 ?_
              refine a_one (i := 14) (by kernel_rfl) rfl ?_
              refine s_store1 H137 3 (wt0 rfl) rfl rfl rfl rfl rfl sz55 rfl rfl (rgC_ol rfl rfl (by decide)) ?_
              intro wq138 H139
              rw [rgC_so rfl rfl (by decide)] at H139
              replace H139 : S wq138 [Rw 65 4 p133 (a.drop (blk m)).wa.length c134 (qV (rqs (a.drop (blk m)))), Ob g12 (.cells #[.int .i64 (m.i1), .int .i64 (m.i2), .int .i64 (m.i3)] 49 (0, 0)), mgI g1 m, Ob rg (.cells (rgC o c [.bool ((a.bg || !quietB m.kind)), .bool (!(a.ck)), .bool a.wt, .string (a.fd), .slice R.pa a.al.length R.ca, .slice p133 (a.drop (blk m)).wa.length c134] [.bool b.bg, .bool (!(b.ck)), .bool b.wt, .string (b.fd), .slice R2.pa b.al.length R2.ca, .slice R2.pw b.wa.length R2.cw]) 59 (0, 0)), alR R a, rqI R a, alR R2 b, rqI R2 b, olR w rg c o R R2 a b] := H139
              refine a_kt rfl ?_
              refine a_done (by kernel_rfl) ?_
              refine g_in ?_
              refine g_then ?_
              refine g_weak [] trivial ?_
              refine w_s ?_
              refine w_a ?_
              refine w_e ?_
              refine g_ret ?_
              refine fin_ret [.tmp 6] [.int .i64 0] rfl ⟨rfl, trivial⟩ ?_
              have hO : mayO c a b m = { (a.drop (blk m)) with bg := (a.bg || !quietB m.kind) } := mayO_eq hz (by unfold ruleO; simp [hb23, hb29, hb32, hb35, hb38, hb45, hb52, hb59, hb66, hb83, hb108, hb125]) rfl
              have hQ : mayQ c a b m = b := mayQ_eq hz (by unfold ruleP; simp [hb23, hb29, hb32, hb35, hb38, hb45, hb52, hb59, hb66, hb83, hb108, hb125])
              exact ⟨⟨R.pa, R.ca, p133, c134⟩, ⟨R2.pa, R2.ca, R2.pw, R2.cw⟩, by rw [hz]; rfl, by rw [hO, hQ]; exact H139.takes [3, 4, 0, 6, 7, 8] (by decide)⟩
             ·
              refine g_cond_f rfl (decide_eq_false hb125) ?_
              refine w_s ?_
              refine w_b ?_
              refine w_a ?_
              refine w_e ?_
              refine g_weak [(0, .pointer (some ⟨rg, 0, none⟩)), (9, .pointer (some ⟨rg, offS o, none⟩)), (10, .pointer (some ⟨g12, 0, none⟩)), (189, .bool (decide ((m.kind : Int) = 10)))] ⟨rfl, rfl, rfl, rfl, trivial⟩ ?_
              by_cases hb140 : (m.kind : Int) = 10
              ·
               refine g_cond_t rfl (decide_eq_true hb140) ?_
               refine g_seq ?_
               refine g_any [(0, .pointer (some ⟨rg, 0, none⟩)), (9, .pointer (some ⟨rg, offS o, none⟩)), (10, .pointer (some ⟨g12, 0, none⟩)), (189, .bool (decide ((m.kind : Int) = 10)))] (fun wx => S wx [Ob g12 (.cells #[.int .i64 (m.i1), .int .i64 (m.i2), .int .i64 (m.i3)] 49 (0, 0)), Ob rg (.cells (rgC o c [.bool ((a.bg || !quietB m.kind)), .bool (!(a.ck)), .bool a.wt, .string (a.fd), .slice R.pa a.al.length R.ca, .slice R.pw a.wa.length R.cw] [.bool b.bg, .bool (!(b.ck)), .bool b.wt, .string (b.fd), .slice R2.pa b.al.length R2.ca, .slice R2.pw b.wa.length R2.cw]) 59 (0, 0))]) [] (by kernel_rfl) H22 (fun wq141 H142 => ?_)
               have cm21 := H142.mask [true, false, true, false, false, false, false, false]
               refine w_t 0 rfl cm21 (fun _ _ => xm) ?_
               refine w_t 1 rfl cm21 (fun _ _ => xn) ?_
               refine w_t 2 rfl cm21 (fun _ _ => xf (offS o + 5)) ?_
               refine w_t 3 rfl cm21 (fun _ H => x_load1 H 1 rfl rfl Tryz.underlying55 rfl rfl (rgC_p rfl rfl rfl)) ?_
               refine w_t (v := .agg #[.int .i64 (m.i1), .int .i64 (m.i2), .int .i64 (m.i3)]) 4 rfl cm21 (fun _ H => x_loadA H 0 rfl rfl Tryz.underlying49 rfl sz49 rfl rfl rfl) ?_
               refine a_one (i := 5) (by kernel_rfl) rfl ?_
               have hfc143 := find_w b R2.pw R2.cw (blk m) (by omega) wq141 (H142.rwReads (k := 6) rfl)
               rw [show (blk m).n = m.i3 from if_neg (by omega)] at hfc143
               refine s_call (wt0 rfl) (x_call' rfl rfl cl26) (hfc143) ?_
               rintro _ wq146 ⟨r144, rfl, hfr145, H147⟩
               replace H147 : S wq146 [Ob g12 (.cells #[.int .i64 (m.i1), .int .i64 (m.i2), .int .i64 (m.i3)] 49 (0, 0)), mgI g1 m, Ob rg (.cells (rgC o c [.bool ((a.bg || !quietB m.kind)), .bool (!(a.ck)), .bool a.wt, .string (a.fd), .slice R.pa a.al.length R.ca, .slice R.pw a.wa.length R.cw] [.bool b.bg, .bool (!(b.ck)), .bool b.wt, .string (b.fd), .slice R2.pa b.al.length R2.ca, .slice R2.pw b.wa.length R2.cw]) 59 (0, 0)), alR R a, rqI R a, alR R2 b, rqI R2 b, olR w rg c o R R2 a b] := H142.absorb (new := []) H147
               refine b_ret rfl rfl ?_
               have cm22 := H147.mask [true, false, true, false, false, false, false, false]
               refine a_k cm22 ?_
               refine w_t 6 rfl cm22 (fun _ _ => xa) ?_
               refine a_done (by kernel_rfl) ?_
               refine g_then ?_
               refine g_block ?_
               refine w_s ?_
               refine w_m ?_
               refine w_b ?_
               refine w_a ?_
               refine w_e ?_
               by_cases hb148 : (r144 : Int) < 0
               ·
                refine g_cond_t rfl (decide_eq_true hb148) ?_
                refine g_skip ?_
                refine g_in ?_
                refine g_in ?_
                refine g_then ?_
                refine g_weak [] trivial ?_
                refine w_s ?_
                refine w_a ?_
                refine w_e ?_
                refine g_ret ?_
                refine fin_ret [.tmp 6] [.int .i64 0] rfl ⟨rfl, trivial⟩ ?_
                have hcb : chB b.wa (blk m) = false := by rcases hfr145 with ⟨q1, q2⟩ | ⟨i, q1, q2, q3, q4⟩ <;> first | exact q2 | (exfalso; omega)
                have hO : mayO c a b m = { (a) with bg := (a.bg || !quietB m.kind) } := mayO_eq hz (by unfold ruleO; simp [hb23, hb29, hb32, hb35, hb38, hb45, hb52, hb59, hb66, hb83, hb108, hb125, hb140]) rfl
                have hQ : mayQ c a b m = b := mayQ_eq hz (by unfold ruleP; simp [hb23, hb29, hb32, hb35, hb38, hb45, hb52, hb59, hb66, hb83, hb108, hb125, hb140, hcb])
                exact ⟨⟨R.pa, R.ca, R.pw, R.cw⟩, ⟨R2.pa, R2.ca, R2.pw, R2.cw⟩, by rw [hz]; rfl, by rw [hO, hQ]; exact H147.takes [2, 3, 4, 5, 6, 7] (by decide)⟩
               ·
                refine g_cond_f rfl (decide_eq_false hb148) ?_
                refine w_s ?_
                refine w_r3 ?_
                refine w_v (x_load1 H147 2 rfl rfl Tryz.underlying4 rfl rfl (rgC_c rfl)) ?_
                refine w_a ?_
                refine w_e ?_
                refine g_weak [(9, .pointer (some ⟨rg, offS o, none⟩)), (11, .int .i64 r144), (209, .bool c.ft)] ⟨rfl, rfl, rfl, trivial⟩ ?_
                rcases Bool.eq_false_or_eq_true (c.ft) with hb149 | hb149
                ·
                 refine g_cond_t rfl hb149 ?_
                 refine w_s ?_
                 refine w_m ?_
                 refine l_of (s_buildSlice0 H147 (wt0 rfl) rfl rfl rfl Tryz.underlying55 sz65 ?_)
                 intro g150 wq151 H153
                 have H152 : S wq151 [Rw 65 4 (some ⟨g150, 0, none⟩) 0 0 (qV []), Ob g12 (.cells #[.int .i64 (m.i1), .int .i64 (m.i2), .int .i64 (m.i3)] 49 (0, 0)), mgI g1 m, Ob rg (.cells (rgC o c [.bool ((a.bg || !quietB m.kind)), .bool (!(a.ck)), .bool a.wt, .string (a.fd), .slice R.pa a.al.length R.ca, .slice R.pw a.wa.length R.cw] [.bool b.bg, .bool (!(b.ck)), .bool b.wt, .string (b.fd), .slice R2.pa b.al.length R2.ca, .slice R2.pw b.wa.length R2.cw]) 59 (0, 0)), alR R a, rqI R a, alR R2 b, rqI R2 b, olR w rg c o R R2 a b] := H153.obRw (k := 0) (n := 0) (size := 4) rfl rfl (by decide)
                 refine w_r2 ?_
                 refine w_f (offS o + 5) ?_
                 refine w_v (x_load1 H152 3 rfl rfl Tryz.underlying55 rfl rfl (rgC_p rfl rfl rfl)) ?_
                 refine l_of (s_appendW (n := 0) (m := b.wa.length) (sc := 0) (xs := qV []) (news := qV (rqs b)) (p := (some ⟨g150, 0, none⟩)) (q := R2.pw) H152 0 (wt0 rfl) rfl rfl rfl rfl rfl rfl Tryz.underlying55 inf65 rfl (by decide) (by decide) (H152.rwReads (k := 7) rfl) (qV_one _) (by omega) ?_)
                 intro p154 c155 wq156 H157
                 rw [Nat.zero_add] at H157 ⊢
                 replace H157 : S wq156 [Rw 65 4 p154 b.wa.length c155 (qV (rqs b)), Ob g12 (.cells #[.int .i64 (m.i1), .int .i64 (m.i2), .int .i64 (m.i3)] 49 (0, 0)), mgI g1 m, Ob rg (.cells (rgC o c [.bool ((a.bg || !quietB m.kind)), .bool (!(a.ck)), .bool a.wt, .string (a.fd), .slice R.pa a.al.length R.ca, .slice R.pw a.wa.length R.cw] [.bool b.bg, .bool (!(b.ck)), .bool b.wt, .string (b.fd), .slice R2.pa b.al.length R2.ca, .slice R2.pw b.wa.length R2.cw]) 59 (0, 0)), alR R a, rqI R a, alR R2 b, rqI R2 b, olR w rg c o R R2 a b] := H157
                 refine w_v xn ?_
                 refine w_f (offS o + 5) ?_
                 refine l_of (s_store1 H157 3 (wt0 rfl) rfl rfl rfl rfl rfl sz55 rfl rfl (rgC_pl rfl rfl (by decide)) ?_)
                 intro wq158 H159
                 rw [rgC_sp rfl rfl (by decide)] at H159
                 replace H159 : S wq158 [Rw 65 4 p154 b.wa.length c155 (qV (rqs b)), Ob g12 (.cells #[.int .i64 (m.i1), .int .i64 (m.i2), .int .i64 (m.i3)] 49 (0, 0)), mgI g1 m, Ob rg (.cells (rgC o c [.bool ((a.bg || !quietB m.kind)), .bool (!(a.ck)), .bool a.wt, .string (a.fd), .slice R.pa a.al.length R.ca, .slice R.pw a.wa.length R.cw] [.bool b.bg, .bool (!(b.ck)), .bool b.wt, .string (b.fd), .slice R2.pa b.al.length R2.ca, .slice p154 b.wa.length c155]) 59 (0, 0)), alR R a, rqI R a, alR R2 b, rqI R2 b, olR w rg c o R R2 a b] := H159
                 refine w_e ?_
                 refine g_region ?_
                 refine w_r2 ?_
                 refine w_f (offS o + 5) ?_
                 refine w_v (x_load1 H159 3 rfl rfl Tryz.underlying55 rfl rfl (rgC_p rfl rfl rfl)) ?_
                 refine w_m ?_
                 obtain ⟨i, hri, hil, hix, hic⟩ : ∃ i : Nat, r144 = (i : Int) ∧ i < b.wa.length ∧ b.wa.getD i Ch.none = blk m ∧ chB b.wa (blk m) = true := by
                  rcases hfr145 with ⟨q1, q2⟩ | q
                  · omega
                  · exact q
                 refine w_v (v := .pointer ((p154).map fun z => z.add (i * 4))) (x_idxR i (H159.rwReads (k := 0) rfl) rfl rfl rfl Tryz.underlying55 sz65 ⟨hri, hil⟩) ?_
                 have hpq : ∃ g o, p154 = some ⟨g, o, none⟩ := row_at (H159.rw (k := 0) rfl) (by omega)
                 refine w_v (v := .pointer ((p154).map fun z => z.add (i * 4 + 3))) (x_fieldAddrR hpq rfl rfl fo65_1) ?_
                 refine l_of (s_storeWC H159 0 (wt0 rfl) rfl rfl rfl rfl rfl sz4 rfl rfl (by omega) ?_)
                 intro wq160 H161
                 replace H161 : S wq160 [Rw 65 4 p154 b.wa.length c155 (qV (rqs (b.cancel (blk m)))), Ob g12 (.cells #[.int .i64 (m.i1), .int .i64 (m.i2), .int .i64 (m.i3)] 49 (0, 0)), mgI g1 m, Ob rg (.cells (rgC o c [.bool ((a.bg || !quietB m.kind)), .bool (!(a.ck)), .bool a.wt, .string (a.fd), .slice R.pa a.al.length R.ca, .slice R.pw a.wa.length R.cw] [.bool b.bg, .bool (!(b.ck)), .bool b.wt, .string (b.fd), .slice R2.pa b.al.length R2.ca, .slice p154 b.wa.length c155]) 59 (0, 0)), alR R a, rqI R a, alR R2 b, rqI R2 b, olR w rg c o R R2 a b] := by have h9 := H161; rw [qV_set (by rw [rqs_len]; exact hil), rqs_get hil, hix, rqs_cancel hKb.nd hil hix] at h9; exact h9
                 refine g_nil ?_
                 refine g_in ?_
                 refine g_in ?_
                 refine g_then ?_
                 refine g_weak [] trivial ?_
                 refine w_s ?_
                 refine w_a ?_
                 refine w_e ?_
                 refine g_ret ?_
                 refine fin_ret [.tmp 6] [.int .i64 0] rfl ⟨rfl, trivial⟩ ?_
                 have hcb : chB b.wa (blk m) = true := by rcases hfr145 with ⟨q1, q2⟩ | ⟨i, q1, q2, q3, q4⟩ <;> first | exact q4 | (exfalso; omega)
                 have hO : mayO c a b m = { (a) with bg := (a.bg || !quietB m.kind) } := mayO_eq hz (by unfold ruleO; simp [hb23, hb29, hb32, hb35, hb38, hb45, hb52, hb59, hb66, hb83, hb108, hb125, hb140]) rfl
                 have hQ : mayQ c a b m = b.cancel (blk m) := mayQ_eq hz (by unfold ruleP; simp [hb23, hb29, hb32, hb35, hb38, hb45, hb52, hb59, hb66, hb83, hb108, hb125, hb140, hcb, hb149])
                 exact ⟨⟨R.pa, R.ca, R.pw, R.cw⟩, ⟨R2.pa, R2.ca, p154, c155⟩, by rw [hz]; rfl, by rw [hO, hQ]; exact H161.takes [3, 4, 5, 6, 0, 8] (by decide)⟩
                ·
                 refine g_cond_f rfl hb149 ?_
                 refine g_region ?_
                 refine w_r3 ?_
                 refine w_f (offS o + 5) ?_
                 refine w_v (x_load1 H147 2 rfl rfl Tryz.underlying55 rfl rfl (rgC_p rfl rfl rfl)) ?_
                 refine w_m ?_
                 obtain ⟨i, hri, hil, hix, hic⟩ : ∃ i : Nat, r144 = (i : Int) ∧ i < b.wa.length ∧ b.wa.getD i Ch.none = blk m ∧ chB b.wa (blk m) = true := by
                  rcases hfr145 with ⟨q1, q2⟩ | q
                  · omega
                  · exact q
                 have hwo164 := without_w b R2.pw R2.cw i (blk m) (by omega) hKb.nd hil hix wq146 (H147.rwReads (k := 6) rfl)
                 rw [← hri] at hwo164
                 refine l_of (s_call (wt0 rfl) (x_call' rfl rfl cl25) (hwo164) ?_)
                 rintro _ wq165 ⟨p162, c163, rfl, H166⟩
                 replace H166 : S wq165 [Rw 65 4 p162 (b.drop (blk m)).wa.length c163 (qV (rqs (b.drop (blk m)))), Ob g12 (.cells #[.int .i64 (m.i1), .int .i64 (m.i2), .int .i64 (m.i3)] 49 (0, 0)), mgI g1 m, Ob rg (.cells (rgC o c [.bool ((a.bg || !quietB m.kind)), .bool (!(a.ck)), .bool a.wt, .string (a.fd), .slice R.pa a.al.length R.ca, .slice R.pw a.wa.length R.cw] [.bool b.bg, .bool (!(b.ck)), .bool b.wt, .string (b.fd), .slice R2.pa b.al.length R2.ca, .slice R2.pw b.wa.length R2.cw]) 59 (0, 0)), alR R a, rqI R a, alR R2 b, rqI R2 b, olR w rg c o R R2 a b] := H147.absorb (new := [Rw 65 4 p162 (b.drop (blk m)).wa.length c163 (qV (rqs (b.drop (blk m))))]) H166
                 refine b_ret rfl rfl ?_
                 refine w_v xn ?_
                 refine w_f (offS o + 5) ?_
                 refine l_of (s_store1 H166 3 (wt0 rfl) rfl rfl rfl rfl rfl sz55 rfl rfl (rgC_pl rfl rfl (by decide)) ?_)
                 intro wq167 H168
                 rw [rgC_sp rfl rfl (by decide)] at H168
                 replace H168 : S wq167 [Rw 65 4 p162 (b.drop (blk m)).wa.length c163 (qV (rqs (b.drop (blk m)))), Ob g12 (.cells #[.int .i64 (m.i1), .int .i64 (m.i2), .int .i64 (m.i3)] 49 (0, 0)), mgI g1 m, Ob rg (.cells (rgC o c [.bool ((a.bg || !quietB m.kind)), .bool (!(a.ck)), .bool a.wt, .string (a.fd), .slice R.pa a.al.length R.ca, .slice R.pw a.wa.length R.cw] [.bool b.bg, .bool (!(b.ck)), .bool b.wt, .string (b.fd), .slice R2.pa b.al.length R2.ca, .slice p162 (b.drop (blk m)).wa.length c163]) 59 (0, 0)), alR R a, rqI R a, alR R2 b, rqI R2 b, olR w rg c o R R2 a b] := H168
                 refine g_nil ?_
                 refine g_in ?_
                 refine g_in ?_
                 refine g_then ?_
                 refine g_weak [] trivial ?_
                 refine w_s ?_
                 refine w_a ?_
                 refine w_e ?_
                 refine g_ret ?_
                 refine fin_ret [.tmp 6] [.int .i64 0] rfl ⟨rfl, trivial⟩ ?_
                 have hcb : chB b.wa (blk m) = true := by rcases hfr145 with ⟨q1, q2⟩ | ⟨i, q1, q2, q3, q4⟩ <;> first | exact q4 | (exfalso; omega)
                 have hO : mayO c a b m = { (a) with bg := (a.bg || !quietB m.kind) } := mayO_eq hz (by unfold ruleO; simp [hb23, hb29, hb32, hb35, hb38, hb45, hb52, hb59, hb66, hb83, hb108, hb125, hb140]) rfl
                 have hQ : mayQ c a b m = b.drop (blk m) := mayQ_eq hz (by unfold ruleP; simp [hb23, hb29, hb32, hb35, hb38, hb45, hb52, hb59, hb66, hb83, hb108, hb125, hb140, hcb, hb149])
                 exact ⟨⟨R.pa, R.ca, R.pw, R.cw⟩, ⟨R2.pa, R2.ca, p162, c163⟩, by rw [hz]; rfl, by rw [hO, hQ]; exact H168.takes [3, 4, 5, 6, 0, 8] (by decide)⟩
              ·
               refine g_cond_f rfl (decide_eq_false hb140) ?_
               refine g_skip ?_
               refine g_in ?_
               refine g_then ?_
               refine w_s ?_
               refine w_a ?_
               refine w_e ?_
               refine g_ret ?_
               refine fin_ret [.tmp 6] [.int .i64 0] rfl ⟨rfl, trivial⟩ ?_
               have hO : mayO c a b m = { (a) with bg := (a.bg || !quietB m.kind) } := mayO_eq hz (by unfold ruleO; simp [hb23, hb29, hb32, hb35, hb38, hb45, hb52, hb59, hb66, hb83, hb108, hb125, hb140]) rfl
               have hQ : mayQ c a b m = b := mayQ_eq hz (by unfold ruleP; simp [hb23, hb29, hb32, hb35, hb38, hb45, hb52, hb59, hb66, hb83, hb108, hb125, hb140])
               exact ⟨⟨R.pa, R.ca, R.pw, R.cw⟩, ⟨R2.pa, R2.ca, R2.pw, R2.cw⟩, by rw [hz]; rfl, by rw [hO, hQ]; exact H22.takes [2, 3, 4, 5, 6, 7] (by decide)⟩
 ·
  refine g_cond_t rfl (nt hb7) ?_
  refine w_s ?_
  refine w_r2 ?_
  refine w_e ?_
  refine g_weak [(6, .int .i64 ((mayE c a b m)))] ⟨rfl, trivial⟩ ?_
  refine g_ret ?_
  refine g_then_ret ?_
  refine fin_ret [.tmp 6] [.int .i64 ((mayE c a b m))] rfl ⟨rfl, trivial⟩ ?_
  obtain ⟨q1, q2⟩ := may_refused (hb7 : ¬ mayE c a b m = 0)
  exact ⟨R, R2, rfl, by rw [q1, q2]; exact (H6.takes [1, 2, 3, 4, 5, 6] (by decide))⟩
end Go.Proofs.YtdkfkdekiljcoaaGreat
