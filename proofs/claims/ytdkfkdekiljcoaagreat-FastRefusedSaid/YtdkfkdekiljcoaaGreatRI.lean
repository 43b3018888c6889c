import Derived.Test.YtdkfkdekiljcoaaGreatRH
set_option linter.unusedSimpArgs false
set_option linter.unusedVariables false
namespace Go.Proofs.YtdkfkdekiljcoaaGreat
open Go.RowKit

theorem cl26 : callable Tryz.prog 26 = true := by kernel_rfl
theorem cl46 : callable Tryz.prog 46 = true := by kernel_rfl
theorem cl48 : callable Tryz.prog 48 = true := by kernel_rfl
theorem fo59_3 : foO Tryz.prog 59 3 = some 3 := by kernel_rfl
theorem erase_nodup : ∀ {l : List Ch} {i : Nat} {x : Ch}, l.Nodup → l[i]? = some x → l.eraseIdx i = dropS l x
  | [], _, _, _, h => by simp at h
  | a :: l, 0, x, hn, h => by
    have h : a = x := by simpa using h
    subst h
    have ha : ¬ a ∈ l := (List.nodup_cons.1 hn).1
    rw [List.eraseIdx_cons_zero]
    unfold dropS
    rw [List.filter_cons, if_neg (by simp)]
    exact (drop_none ha).symm
  | a :: l, i + 1, x, hn, h => by
    have h : l[i]? = some x := by simpa using h
    have hx : x ∈ l := List.mem_of_getElem? h
    have ha : ¬ a = x := fun e => (List.nodup_cons.1 hn).1 (e ▸ hx)
    rw [List.eraseIdx_cons_succ, erase_nodup (List.nodup_cons.1 hn).2 h]
    unfold dropS
    rw [List.filter_cons, if_pos (decide_eq_true ha)]
theorem getD_some {l : List Ch} {i : Nat} {x : Ch} (hi : i < l.length) (h : l.getD i Ch.none = x) : l[i]? = some x := by
  rw [List.getD_eq_getElem?_getD, List.getElem?_eq_getElem hi] at h
  rw [List.getElem?_eq_getElem hi]; exact congrArg some h
theorem rqs_drop {a : Wy} {i : Nat} {x : Ch} (hn : a.wa.Nodup) (hi : i < a.wa.length) (hx : a.wa.getD i Ch.none = x) : (rqs a).eraseIdx i = rqs (a.drop x) := by
  unfold rqs
  rw [← map_erase, erase_nodup hn (getD_some hi hx)]
  show (dropS a.wa x).map _ = (dropS a.wa x).map _
  refine List.map_congr_left fun y hy => ?_
  have hne : ¬ y = x := of_decide_eq_true (List.mem_filter.1 hy).2
  show (y, (a.go y).getD false) = (y, (delM a.go x y).getD false)
  unfold delM; rw [if_neg hne]
theorem rqs_cancel {a : Wy} {i : Nat} {x : Ch} (hn : a.wa.Nodup) (hi : i < a.wa.length) (hx : a.wa.getD i Ch.none = x) : (rqs a).set i (x, true) = rqs (a.cancel x) := by
  have h1 := getD_some hi hx
  unfold rqs
  show _ = a.wa.map _
  refine List.ext_getElem? fun j => ?_
  rw [List.getElem?_set, List.length_map]
  by_cases hj : i = j
  · subst hj
    rw [if_pos rfl, if_pos hi, List.getElem?_map, h1]
    show some (x, true) = some (x, (upM a.go x true x).getD false)
    unfold upM; rw [if_pos rfl]; rfl
  · rw [if_neg hj, List.getElem?_map, List.getElem?_map]
    cases hq : a.wa[j]? with
    | none => rfl
    | some y =>
      have hne : ¬ y = x := fun e => hj ((nodup_at (f := fun z : Ch => z) (by rw [List.map_id']; exact hn) h1 hq e.symm))
      show some (y, (a.go y).getD false) = some (y, (upM a.go x true y).getD false)
      unfold upM; rw [if_neg hne]
theorem rqs_ask {a : Wy} {x : Ch} (hg : a.go x = none) : rqs (a.ask x) = rqs a ++ [(x, false)] := by
  unfold rqs
  show (a.wa ++ [x]).map _ = _
  rw [List.map_append]
  show _ ++ [(x, (a.go x).getD false)] = _
  rw [hg]; rfl
theorem rqs_get {a : Wy} {i : Nat} (hi : i < a.wa.length) : ((rqs a).getD i Q0).1 = a.wa.getD i Ch.none := by
  unfold rqs
  rw [List.getD_eq_getElem?_getD, List.getElem?_map, List.getElem?_eq_getElem hi, List.getD_eq_getElem?_getD, List.getElem?_eq_getElem hi]; rfl
theorem find_w (a : Wy) (p : Option Addr) (c : Nat) (x : Ch) (hm : a.wa.length ≤ 1099511627776) (w : World) (hr : Reads w p a.wa.length c 4 (qV (rqs a))) : Calls Tryz.prog 26 #[.slice p a.wa.length c, .agg #[.int .i64 x.p, .int .i64 x.b, .int .i64 x.n]] w fun e w' =>
    ∃ r : Int, e = .returned (.int .i64 r) ∧ ((r = -1 ∧ chB a.wa x = false) ∨ ∃ i : Nat, r = (i : Int) ∧ i < a.wa.length ∧ a.wa.getD i Ch.none = x ∧ chB a.wa x = true) ∧ S w' [Old w no] := by
  have h := find_r (rqs a) p c x (by rw [rqs_len]; exact hm) w (by rw [rqs_len]; exact hr)
  rw [rqs_len] at h
  refine h.mono ?_
  rintro e w' ⟨r, rfl, hq, hS⟩
  refine ⟨r, rfl, ?_, hS⟩
  rcases hq with ⟨h1, h2⟩ | ⟨i, h1, h2, h3, _⟩
  · refine .inl ⟨h1, decide_eq_false fun hx => ?_⟩
    exact h2 (x, (a.go x).getD false) (List.mem_map.2 ⟨x, hx, rfl⟩) rfl
  · rw [rqs_get h2] at h3
    exact .inr ⟨i, h1, h2, h3, decide_eq_true (List.mem_of_getElem? (getD_some h2 h3))⟩
theorem without_w (a : Wy) (p : Option Addr) (c i : Nat) (x : Ch) (hm : a.wa.length ≤ 1099511627776) (hn : a.wa.Nodup) (hi : i < a.wa.length) (hx : a.wa.getD i Ch.none = x) (w : World) (hr : Reads w p a.wa.length c 4 (qV (rqs a))) : Calls Tryz.prog 25 #[.slice p a.wa.length c, .int .i64 (i : Int)] w fun e w' =>
    ∃ p' c', e = .returned (.slice p' (a.drop x).wa.length c') ∧ S w' ([Rw 65 4 p' (a.drop x).wa.length c' (qV (rqs (a.drop x)))] ++ [Old w no]) := by
  have h := without_r (rqs a) p c i (by rw [rqs_len]; exact hm) (by rw [rqs_len]; exact hi) w (by rw [rqs_len]; exact hr)
  rw [rqs_len, rqs_drop hn hi hx, rqs_len] at h
  exact h
theorem bsV_set {l : List Bool} {i : Nat} (h : i < l.length) : (bsV l).take (i * 1) ++ (Value.bool true).cells.toList ++ (bsV l).drop (i * 1 + 1) = bsV (l.set i true) := by
  unfold bsV
  rw [List.set_eq_take_append_cons_drop, if_pos h, List.map_append, List.map_cons, Nat.mul_one, List.map_take, List.map_drop]
  simp [Value.cells]
set_option maxRecDepth 20000 in
set_option maxHeartbeats 4000000 in
theorem set_rr (m : Nat) (s : ByteArray) (i : Int) (hm : m ≤ 4096) (hV : Vf m s) (hi : 0 ≤ i ∧ i < (m : Int)) (w : World) : Calls Tryz.prog 22 #[.int .i64 ((m : Int)), .string s, .int .i64 i, .bool true] w fun e w' => e = .returned (.tuple #[.string (setB s i.toNat), .int .i64 0]) ∧ S w' [Old w no] := by
 have H0 := S.old w
 refine enter 32 Tryz.func22 rfl rfl rfl ?_
 refine g_weak [(0, .int .i64 ((m : Int))), (1, .string s), (2, .int .i64 i), (3, .bool true)] ⟨rfl, rfl, rfl, rfl, trivial⟩ ?_
 refine w_s ?_
 refine w_r2 ?_
 refine w_e ?_
 refine g_seq ?_
 refine w_s ?_
 refine w_r3 ?_
 refine l_of (s_call0 H0 (wt0 rfl) (x_call' rfl rfl cl62) (has_r m s i hm hV.1 (hV.check hm) _) rfl rfl ?_)
 intro wq1 H2
 refine w_r5 ?_
 refine w_e ?_
 refine w_s ?_
 refine w_m ?_
 refine w_b (v := .bool (!decide (((hasE m i) : Int) = 0))) (hb := b_neq) ?_
 refine w_e ?_
 refine g_cond_f rfl (nf (has_in (s := s) hi).2) ?_
 refine g_skip ?_
 refine g_then ?_
 refine g_weak [(0, .int .i64 ((m : Int))), (1, .string s), (2, .int .i64 i), (3, .bool true)] ⟨rfl, rfl, rfl, rfl, trivial⟩ ?_
 refine w_s ?_
 refine w_r2 ?_
 refine l_of (s_call (wt0 rfl) (x_call' rfl rfl cl63) (truths_r m s hm hV.1 _) ?_)
 rintro _ wq5 ⟨p3, c4, rfl, H6⟩
 replace H6 : S wq5 [Rw 4 1 p3 m c4 (bsV (truthsS m s)), Old w no] := H2.absorb (new := [Rw 4 1 p3 m c4 (bsV (truthsS m s))]) H6
 refine b_ret rfl rfl ?_
 refine w_a ?_
 refine w_e ?_
 refine w_s ?_
 refine w_r3 ?_
 refine w_v (v := .pointer ((p3).map fun q => q.add (((i).toNat) * 1))) (x_idxR ((i).toNat) (H6.rwReads (k := 0) rfl) rfl rfl rfl Tryz.underlying99 sz4 (by omega)) ?_
 refine l_of (s_storeW (j := i.toNat) H6 0 (wt0 rfl) rfl rfl rfl rfl rfl sz4 rfl rfl (by omega) ?_)
 intro wq7 H8
 replace H8 : S wq7 [Rw 4 1 p3 m c4 (bsV ((truthsS m s).set i.toNat true)), Old w no] := by have h9 := H8; rw [← bsV_set (by rw [truths_len]; omega)]; exact h9
 refine w_e ?_
 refine w_s ?_
 refine w_m ?_
 have hfb9 := fieldB_r ((truthsS m s).set i.toNat true) m c4 p3 (by rw [List.length_set, truths_len]) hm wq7 (H8.rwReads (k := 0) rfl)
 rw [set_law hV (by omega)] at hfb9
 refine l_of (s_call0 H8 (wt0 rfl) (x_call' rfl rfl cl64) (hfb9) rfl rfl ?_)
 intro wq10 H11
 refine w_r2 ?_
 refine w_e ?_
 refine g_weak [(8, .string ((setB s i.toNat))), (9, .int .i64 0)] ⟨rfl, rfl, trivial⟩ ?_
 refine g_ret ?_
 refine fin_ret [.tmp 8, .tmp 9] [.string ((setB s i.toNat)), .int .i64 0] rfl ⟨rfl, rfl, trivial⟩ ?_
 exact ⟨rfl, H11.mask [false, true]⟩
theorem valid_rS (m : M) (w : World) : Calls Tryz.prog 45 #[.agg m.cells] w fun e w' => e = .returned (.bool (validP m)) ∧ S w' [Old w no] := (valid_r m w).mono fun e w' h => ⟨h.1, S.of_below h.2⟩
set_option maxRecDepth 20000 in
set_option maxHeartbeats 4000000 in
theorem mayR_o (rg : Nat) (c : Co) (o : Bool) (R R2 : RAd) (a b : Wy) (m : M) (hn : 1 ≤ c.n ∧ c.n ≤ 4096) (hVa : Vf c.n.toNat a.fd) (hVb : Vf c.n.toNat b.fd) (hal : a.al.length ≤ 1099511627776) (hwa : a.wa.length ≤ 1099511627776) (hwb : b.wa.length ≤ 1099511627776) (w : World) (HS : S w [rgI rg c o R R2 a b, alR R a, rqI R a, alR R2 b, rqI R2 b]) : Calls Tryz.prog 13 #[.pointer (some ⟨rg, 0, none⟩), .bool o, .agg m.cells] w fun e w' => e = .returned (.int .i64 (mayE c a b m)) ∧ S w' ([rgI rg c o R R2 a b, alR R a, rqI R a, alR R2 b, rqI R2 b] ++ [olR w rg c o R R2 a b]) := by
 have H0 := HS.beginI
 have hn0 : 0 ≤ c.n ∧ c.n ≤ 4096 := ⟨by omega, hn.2⟩
 refine enter 193 Tryz.func13 rfl rfl rfl ?_
 refine g_weak [(0, .pointer (some ⟨rg, 0, none⟩)), (1, .bool o), (2, .agg m.cells)] ⟨rfl, rfl, rfl, trivial⟩ ?_
 refine w_s ?_
 refine l_of (s_box H0 (wt0 rfl) rfl rfl rfl rfl ?_)
 intro g1 wq2 H3
 refine w_a ?_
 refine w_e ?_
 refine w_s ?_
 refine w_r2 ?_
 refine l_of (s_call0 H3 (wt0 rfl) (x_call' rfl rfl cl21) (of_o rg o _) rfl rfl ?_)
 intro wq4 H5
 refine w_r2 ?_
 refine w_v (v := .bool (!o)) (x_not (b := o) rfl rfl) ?_
 refine l_of (s_call0 H5 (wt0 rfl) (x_call' rfl rfl cl21) (of_p rg o _) rfl rfl ?_)
 intro wq6 H7
 refine w_r2 ?_
 refine w_e ?_
 refine g_seq ?_
 refine w_s ?_
 refine w_v (v := .agg m.cells) (x_loadA H7 0 rfl rfl Tryz.underlying26 rfl sz26 rfl rfl rfl) ?_
 refine l_of (s_call0 H7 (wt0 rfl) (x_call' rfl rfl cl45) (valid_rS m _) rfl rfl ?_)
 intro wq8 H9
 refine w_v (v := .bool (!((validP m)))) (x_not (b := (validP m)) rfl rfl) ?_
 refine w_e ?_
 refine g_weak [(0, .pointer (some ⟨rg, 0, none⟩)), (5, .pointer (some ⟨g1, 0, none⟩)), (7, .pointer (some ⟨rg, offR o, none⟩)), (8, .pointer (some ⟨rg, offS o, none⟩)), (20, .bool (!((validP m))))] ⟨rfl, rfl, rfl, rfl, rfl, trivial⟩ ?_
 rcases Bool.eq_false_or_eq_true ((validP m)) with hb10 | hb10
 ·
  refine g_cond_f rfl (neg_of hb10) ?_
  refine g_skip ?_
  refine g_then ?_
  refine g_seq ?_
  refine g_cut (ι := Unit) (fun _ => [(0, .pointer (some ⟨rg, 0, none⟩)), (5, .pointer (some ⟨g1, 0, none⟩)), (7, .pointer (some ⟨rg, offR o, none⟩)), (8, .pointer (some ⟨rg, offS o, none⟩))]) (fun _ wx => ((c.ft || !extraB m.kind) = true) ∧ S wx [mgI g1 m, rgI rg c o R R2 a b, alR R a, rqI R a, alR R2 b, rqI R2 b, olR w rg c o R R2 a b]) ?_ ?_
  ·
   refine w_s ?_
   refine w_f 0 ?_
   refine w_1 H9 0 ?_
   refine w_e ?_
   refine g_block ?_
   refine g_seq ?_
   refine w_s ?_
   refine w_b ?_
   refine w_a ?_
   refine w_e ?_
   by_cases hb11 : (m.kind : Int) = 12
   ·
    refine g_cond_t rfl (decide_eq_true hb11) ?_
    refine g_skip ?_
    refine g_then ?_
    refine g_cond_t rfl (decide_eq_true hb11) ?_
    refine w_s ?_
    refine w_r3 ?_
    refine w_v (x_load1 H9 1 rfl rfl Tryz.underlying4 rfl rfl (rgC_c rfl)) ?_
    refine w_v (v := .bool (!(c.ft))) (x_not (b := c.ft) rfl rfl) ?_
    refine w_e ?_
    rcases Bool.eq_false_or_eq_true (c.ft) with hb12 | hb12
    ·
     refine g_cond_f rfl (neg_of hb12) ?_
     refine g_skip ?_
     refine g_in ?_
     refine g_then ?_
     refine g_mid () ?_ ?_
     · exact ⟨rfl, rfl, rfl, rfl, trivial⟩
     · exact ⟨(by unfold extraB inB; simp [hb10, hb11, hb12]), H9⟩
    ·
     refine g_cond_t rfl (neg_of hb12) ?_
     refine w_s ?_
     refine w_a ?_
     refine w_e ?_
     refine g_weak [(6, .int .i64 10)] ⟨rfl, trivial⟩ ?_
     refine g_ret ?_
     refine g_in_ret ?_
     refine g_then_ret ?_
     refine fin_ret [.tmp 6] [.int .i64 10] rfl ⟨rfl, trivial⟩ ?_
     have hE : stepE c a b m = 10 := by unfold stepE; rw [if_pos (by unfold extraB inB; simp [hb10, hb11, hb12])]
     have hM : mayE c a b m = 10 := by unfold mayE; rw [if_pos hb10, hE]
     exact ⟨by rw [hM]; rfl, (H9.takes [1, 2, 3, 4, 5, 6] (by decide))⟩
   ·
    refine g_cond_f rfl (decide_eq_false hb11) ?_
    refine w_s ?_
    refine w_b ?_
    refine w_a ?_
    refine w_e ?_
    by_cases hb13 : (m.kind : Int) = 13
    ·
     refine g_cond_t rfl (decide_eq_true hb13) ?_
     refine g_skip ?_
     refine g_then ?_
     refine g_cond_t rfl (decide_eq_true hb13) ?_
     refine w_s ?_
     refine w_r3 ?_
     refine w_v (x_load1 H9 1 rfl rfl Tryz.underlying4 rfl rfl (rgC_c rfl)) ?_
     refine w_v (v := .bool (!(c.ft))) (x_not (b := c.ft) rfl rfl) ?_
     refine w_e ?_
     rcases Bool.eq_false_or_eq_true (c.ft) with hb14 | hb14
     ·
      refine g_cond_f rfl (neg_of hb14) ?_
      refine g_skip ?_
      refine g_in ?_
      refine g_then ?_
      refine g_mid () ?_ ?_
      · exact ⟨rfl, rfl, rfl, rfl, trivial⟩
      · exact ⟨(by unfold extraB inB; simp [hb10, hb11, hb13, hb14]), H9⟩
     ·
      refine g_cond_t rfl (neg_of hb14) ?_
      refine w_s ?_
      refine w_a ?_
      refine w_e ?_
      refine g_weak [(6, .int .i64 10)] ⟨rfl, trivial⟩ ?_
      refine g_ret ?_
      refine g_in_ret ?_
      refine g_then_ret ?_
      refine fin_ret [.tmp 6] [.int .i64 10] rfl ⟨rfl, trivial⟩ ?_
      have hE : stepE c a b m = 10 := by unfold stepE; rw [if_pos (by unfold extraB inB; simp [hb10, hb11, hb13, hb14])]
      have hM : mayE c a b m = 10 := by unfold mayE; rw [if_pos hb10, hE]
      exact ⟨by rw [hM]; rfl, (H9.takes [1, 2, 3, 4, 5, 6] (by decide))⟩
    ·
     refine g_cond_f rfl (decide_eq_false hb13) ?_
     refine w_s ?_
     refine w_b ?_
     refine w_a ?_
     refine w_e ?_
     by_cases hb15 : (m.kind : Int) = 14
     ·
      refine g_cond_t rfl (decide_eq_true hb15) ?_
      refine g_skip ?_
      refine g_then ?_
      refine g_cond_t rfl (decide_eq_true hb15) ?_
      refine w_s ?_
      refine w_r3 ?_
      refine w_v (x_load1 H9 1 rfl rfl Tryz.underlying4 rfl rfl (rgC_c rfl)) ?_
      refine w_v (v := .bool (!(c.ft))) (x_not (b := c.ft) rfl rfl) ?_
      refine w_e ?_
      rcases Bool.eq_false_or_eq_true (c.ft) with hb16 | hb16
      ·
       refine g_cond_f rfl (neg_of hb16) ?_
       refine g_skip ?_
       refine g_in ?_
       refine g_then ?_
       refine g_mid () ?_ ?_
       · exact ⟨rfl, rfl, rfl, rfl, trivial⟩
       · exact ⟨(by unfold extraB inB; simp [hb10, hb11, hb13, hb15, hb16]), H9⟩
      ·
       refine g_cond_t rfl (neg_of hb16) ?_
       refine w_s ?_
       refine w_a ?_
       refine w_e ?_
       refine g_weak [(6, .int .i64 10)] ⟨rfl, trivial⟩ ?_
       refine g_ret ?_
       refine g_in_ret ?_
       refine g_then_ret ?_
       refine fin_ret [.tmp 6] [.int .i64 10] rfl ⟨rfl, trivial⟩ ?_
       have hE : stepE c a b m = 10 := by unfold stepE; rw [if_pos (by unfold extraB inB; simp [hb10, hb11, hb13, hb15, hb16])]
       have hM : mayE c a b m = 10 := by unfold mayE; rw [if_pos hb10, hE]
       exact ⟨by rw [hM]; rfl, (H9.takes [1, 2, 3, 4, 5, 6] (by decide))⟩
     ·
      refine g_cond_f rfl (decide_eq_false hb15) ?_
      refine w_s ?_
      refine w_b ?_
      refine w_a ?_
      refine w_e ?_
      by_cases hb17 : (m.kind : Int) = 15
      ·
       refine g_cond_t rfl (decide_eq_true hb17) ?_
       refine g_skip ?_
       refine g_then ?_
       refine g_cond_t rfl (decide_eq_true hb17) ?_
       refine w_s ?_
       refine w_r3 ?_
       refine w_v (x_load1 H9 1 rfl rfl Tryz.underlying4 rfl rfl (rgC_c rfl)) ?_
       refine w_v (v := .bool (!(c.ft))) (x_not (b := c.ft) rfl rfl) ?_
       refine w_e ?_
       refine g_weak [(0, .pointer (some ⟨rg, 0, none⟩)), (5, .pointer (some ⟨g1, 0, none⟩)), (7, .pointer (some ⟨rg, offR o, none⟩)), (8, .pointer (some ⟨rg, offS o, none⟩)), (33, .bool (!(c.ft)))] ⟨rfl, rfl, rfl, rfl, rfl, trivial⟩ ?_
       rcases Bool.eq_false_or_eq_true (c.ft) with hb18 | hb18
       ·
        refine g_cond_f rfl (neg_of hb18) ?_
        refine g_skip ?_
        refine g_in ?_
        refine g_then ?_
        refine g_mid () ?_ ?_
        · exact ⟨rfl, rfl, rfl, rfl, trivial⟩
        · exact ⟨(by unfold extraB inB; simp [hb10, hb11, hb13, hb15, hb17, hb18]), H9⟩
       ·
        refine g_cond_t rfl (neg_of hb18) ?_
        refine w_s ?_
        refine w_a ?_
        refine w_e ?_
        refine g_ret ?_
        refine g_in_ret ?_
        refine g_then_ret ?_
        refine fin_ret [.tmp 6] [.int .i64 10] rfl ⟨rfl, trivial⟩ ?_
        have hE : stepE c a b m = 10 := by unfold stepE; rw [if_pos (by unfold extraB inB; simp [hb10, hb11, hb13, hb15, hb17, hb18])]
        have hM : mayE c a b m = 10 := by unfold mayE; rw [if_pos hb10, hE]
        exact ⟨by rw [hM]; rfl, (H9.takes [1, 2, 3, 4, 5, 6] (by decide))⟩
      ·
       refine g_cond_f rfl (decide_eq_false hb17) ?_
       refine g_region ?_
       refine w_b ?_
       refine w_a ?_
       refine w_e ?_
       by_cases hb19 : (m.kind : Int) = 16
       ·
        refine g_cond_t rfl (decide_eq_true hb19) ?_
        refine w_s ?_
        refine w_r3 ?_
        refine w_v (x_load1 H9 1 rfl rfl Tryz.underlying4 rfl rfl (rgC_c rfl)) ?_
        refine w_v (v := .bool (!(c.ft))) (x_not (b := c.ft) rfl rfl) ?_
        refine w_e ?_
        refine g_weak [(0, .pointer (some ⟨rg, 0, none⟩)), (5, .pointer (some ⟨g1, 0, none⟩)), (7, .pointer (some ⟨rg, offR o, none⟩)), (8, .pointer (some ⟨rg, offS o, none⟩)), (33, .bool (!(c.ft)))] ⟨rfl, rfl, rfl, rfl, rfl, trivial⟩ ?_
        rcases Bool.eq_false_or_eq_true (c.ft) with hb20 | hb20
        ·
         refine g_cond_f rfl (neg_of hb20) ?_
         refine g_skip ?_
         refine g_in ?_
         refine g_then ?_
         refine g_mid () ?_ ?_
         · exact ⟨rfl, rfl, rfl, rfl, trivial⟩
         · exact ⟨(by unfold extraB inB; simp [hb10, hb11, hb13, hb15, hb17, hb19, hb20]), H9⟩
        ·
         refine g_cond_t rfl (neg_of hb20) ?_
         refine w_s ?_
         refine w_a ?_
         refine w_e ?_
         refine g_ret ?_
         refine g_in_ret ?_
         refine g_then_ret ?_
         refine fin_ret [.tmp 6] [.int .i64 10] rfl ⟨rfl, trivial⟩ ?_
         have hE : stepE c a b m = 10 := by unfold stepE; rw [if_pos (by unfold extraB inB; simp [hb10, hb11, hb13, hb15, hb17, hb19, hb20])]
         have hM : mayE c a b m = 10 := by unfold mayE; rw [if_pos hb10, hE]
         exact ⟨by rw [hM]; rfl, (H9.takes [1, 2, 3, 4, 5, 6] (by decide))⟩
       ·
        refine g_cond_f rfl (decide_eq_false hb19) ?_
        refine g_skip ?_
        refine g_in ?_
        refine g_then ?_
        refine g_mid () ?_ ?_
        · exact ⟨rfl, rfl, rfl, rfl, trivial⟩
        · exact ⟨(by unfold extraB inB; simp [hb10, hb11, hb13, hb15, hb17, hb19]), H9⟩
  rintro _ wq21 ⟨h1, H22⟩
  refine g_weak [(0, .pointer (some ⟨rg, 0, none⟩)), (5, .pointer (some ⟨g1, 0, none⟩)), (7, .pointer (some ⟨rg, offR o, none⟩)), (8, .pointer (some ⟨rg, offS o, none⟩))] ⟨rfl, rfl, rfl, rfl, trivial⟩ ?_
  refine g_seq ?_
  refine g_cut (ι := Unit) (fun _ => [(0, .pointer (some ⟨rg, 0, none⟩)), (5, .pointer (some ⟨g1, 0, none⟩)), (7, .pointer (some ⟨rg, offR o, none⟩)), (8, .pointer (some ⟨rg, offS o, none⟩)), (9, .bool ((quietB m.kind)))]) (fun _ wx => S wx [mgI g1 m, rgI rg c o R R2 a b, alR R a, rqI R a, alR R2 b, rqI R2 b, olR w rg c o R R2 a b]) ?_ ?_
  ·
   refine g_region ?_
   refine w_f 0 ?_
   refine w_1 H22 0 ?_
   refine w_b ?_
   refine w_m ?_
   by_cases hb23 : (m.kind : Int) = 1
   ·
    refine w_n (decide_eq_true hb23) ?_
    refine w_n (decide_eq_true hb23) ?_
    refine w_n (decide_eq_true hb23) ?_
    refine w_v (v := .bool true) (x_pick_t rfl rfl (decide_eq_true hb23) rfl) ?_
    have hqu24 : (true) = quietB m.kind := by unfold quietB; simp [hb23]
    refine w_v (x_assign rfl (congrArg (fun b => some (Value.bool b)) hqu24)) ?_
    refine w_e ?_
    refine g_mid () ?_ ?_
    · exact ⟨rfl, rfl, rfl, rfl, rfl, trivial⟩
    · exact H22
   ·
    refine w_g (decide_eq_false hb23) (xf 0) ?_
    refine w_g (decide_eq_false hb23) (xl H22 0) ?_
    refine w_g (decide_eq_false hb23) (x_bin rfl rfl rfl b_eql) ?_
    refine w_v (v := .bool (decide ((m.kind : Int) = 17))) (x_pick_f rfl rfl (decide_eq_false hb23) rfl) ?_
    have hqu25 : (decide ((m.kind : Int) = 17)) = quietB m.kind := by unfold quietB; simp [hb23]
    refine w_v (x_assign rfl (congrArg (fun b => some (Value.bool b)) hqu25)) ?_
    refine w_e ?_
    refine g_mid () ?_ ?_
    · exact ⟨rfl, rfl, rfl, rfl, rfl, trivial⟩
    · exact H22
  rintro _ wq26 H27
  refine g_weak [(0, .pointer (some ⟨rg, 0, none⟩)), (5, .pointer (some ⟨g1, 0, none⟩)), (7, .pointer (some ⟨rg, offR o, none⟩)), (8, .pointer (some ⟨rg, offS o, none⟩)), (9, .bool ((quietB m.kind)))] ⟨rfl, rfl, rfl, rfl, rfl, trivial⟩ ?_
  refine g_seq ?_
  refine g_cut (ι := Unit) (fun _ => [(0, .pointer (some ⟨rg, 0, none⟩)), (5, .pointer (some ⟨g1, 0, none⟩)), (7, .pointer (some ⟨rg, offR o, none⟩)), (8, .pointer (some ⟨rg, offS o, none⟩))]) (fun _ wx => ((!tellB m.kind || !a.bg) = true ∧ (!c.ft || a.bg || quietB m.kind || tellB m.kind) = true) ∧ S wx [mgI g1 m, rgI rg c o R R2 a b, alR R a, rqI R a, alR R2 b, rqI R2 b, olR w rg c o R R2 a b]) ?_ ?_
  ·
   refine w_s ?_
   refine w_f 0 ?_
   refine w_1 H27 0 ?_
   refine l_of (s_call0 H27 (wt0 rfl) (x_call' rfl rfl cl46) (field_rs m.kind _) rfl rfl ?_)
   intro wq28 H29
   refine w_m ?_
   rcases Bool.eq_false_or_eq_true ((tellB m.kind)) with hb30 | hb30
   ·
    refine w_g hb30 xm ?_
    refine w_g hb30 xn ?_
    refine w_g hb30 (xf (offR o + 0)) ?_
    refine w_g hb30 (x_load1 H29 1 rfl rfl Tryz.underlying4 rfl rfl (rgC_o rfl rfl rfl)) ?_
    refine w_v (v := .bool a.bg) (x_pick_t rfl rfl hb30 rfl) ?_
    refine w_m ?_
    rcases Bool.eq_false_or_eq_true (a.bg) with hb31 | hb31
    ·
     refine w_n hb31 ?_
     refine w_n hb31 ?_
     refine w_n hb31 ?_
     refine w_n hb31 ?_
     refine w_n hb31 ?_
     refine l_of (s_not (wn2 rfl rfl rfl rfl) rfl rfl ?_)
     refine l_of (s_not (wn2 rfl rfl rfl rfl) rfl rfl ?_)
     refine w_n hb31 ?_
     refine w_n hb31 ?_
     refine l_of (s_not (wn2 rfl rfl rfl rfl) rfl rfl ?_)
     refine l_of (s_not (wn2 rfl rfl rfl rfl) rfl rfl ?_)
     refine l_of (s_not (wn2 rfl rfl rfl rfl) rfl rfl ?_)
     refine l_of (s_not (wn2 rfl rfl rfl rfl) rfl rfl ?_)
     refine l_of (s_not (wn2 rfl rfl rfl rfl) rfl rfl ?_)
     refine w_n hb31 ?_
     refine w_n hb31 ?_
     refine l_of (s_not (wn2 rfl rfl rfl rfl) rfl rfl ?_)
     refine l_of (s_not (wn2 rfl rfl rfl rfl) rfl rfl ?_)
     refine l_of (s_not (wn2 rfl rfl rfl rfl) rfl rfl ?_)
     refine l_of (s_not (wn2 rfl rfl rfl rfl) rfl rfl ?_)
     refine w_n hb31 ?_
     refine w_v (v := .bool true) (x_pick_t rfl rfl hb31 rfl) ?_
     refine w_e ?_
     refine g_weak [(0, .pointer (some ⟨rg, 0, none⟩)), (5, .pointer (some ⟨g1, 0, none⟩)), (7, .pointer (some ⟨rg, offR o, none⟩)), (8, .pointer (some ⟨rg, offS o, none⟩)), (73, .bool true)] ⟨rfl, rfl, rfl, rfl, rfl, trivial⟩ ?_
     refine g_cond_t rfl rfl ?_
     refine w_s ?_
     refine w_a ?_
     refine w_e ?_
     refine g_ret ?_
     refine g_then_ret ?_
     refine fin_ret [.tmp 6] [.int .i64 10] rfl ⟨rfl, trivial⟩ ?_
     have hE : stepE c a b m = 10 := by unfold stepE; rw [if_neg (by rw [h1]; simp)]; simp [hb10, hb30, hb31]
     have hM : mayE c a b m = 10 := by unfold mayE; rw [if_pos hb10, hE]
     exact ⟨by rw [hM]; rfl, (H29.takes [1, 2, 3, 4, 5, 6] (by decide))⟩
    ·
     refine w_g hb31 (xf 0) ?_
     refine w_g hb31 (xl H29 0) ?_
     refine l_of (s_call0 H29 (wt1 rfl rfl rfl rfl hb31) (x_call' rfl rfl cl46) (field_rs m.kind _) rfl rfl ?_)
     intro wq32 H33
     refine w_g (v := .bool (!((tellB m.kind)))) hb31 (x_not (b := (tellB m.kind)) rfl rfl) ?_
     refine w_g hb31 xm ?_
     refine w_n (neg_of hb30) ?_
     refine w_n (neg_of hb30) ?_
     refine w_g (v := .bool false) hb31 (x_pick_f rfl rfl (neg_of hb30) rfl) ?_
     refine w_g hb31 xm ?_
     refine w_n rfl ?_
     refine w_n rfl ?_
     refine w_n rfl ?_
     refine w_n rfl ?_
     refine w_n rfl ?_
     refine w_g (v := .bool false) hb31 (x_pick_f rfl rfl rfl rfl) ?_
     refine w_g hb31 xm ?_
     refine w_n rfl ?_
     refine w_n rfl ?_
     refine w_n rfl ?_
     refine w_n rfl ?_
     refine w_g (v := .bool false) hb31 (x_pick_f rfl rfl rfl rfl) ?_
     refine w_v (v := .bool false) (x_pick_f rfl rfl hb31 rfl) ?_
     refine w_e ?_
     refine g_weak [(0, .pointer (some ⟨rg, 0, none⟩)), (5, .pointer (some ⟨g1, 0, none⟩)), (7, .pointer (some ⟨rg, offR o, none⟩)), (8, .pointer (some ⟨rg, offS o, none⟩)), (73, .bool false)] ⟨rfl, rfl, rfl, rfl, rfl, trivial⟩ ?_
     refine g_cond_f rfl rfl ?_
     refine g_skip ?_
     refine g_then ?_
     refine g_mid () ?_ ?_
     · exact ⟨rfl, rfl, rfl, rfl, trivial⟩
     · exact ⟨(by simp [hb10, hb30, hb31]), H33⟩
   ·
    refine w_n hb30 ?_
    refine w_n hb30 ?_
    refine w_n hb30 ?_
    refine w_n hb30 ?_
    refine w_v (v := .bool false) (x_pick_f rfl rfl hb30 rfl) ?_
    refine w_m ?_
    refine w_g rfl (xf 0) ?_
    refine w_g rfl (xl H29 0) ?_
    refine l_of (s_call0 H29 (wt1 rfl rfl rfl rfl rfl) (x_call' rfl rfl cl46) (field_rs m.kind _) rfl rfl ?_)
    intro wq34 H35
    refine w_g (v := .bool (!((tellB m.kind)))) rfl (x_not (b := (tellB m.kind)) rfl rfl) ?_
    refine w_g rfl xm ?_
    refine w_g (neg_of hb30) xm ?_
    refine w_g (v := .bool (!((quietB m.kind)))) (neg_of hb30) (x_not (b := (quietB m.kind)) rfl rfl) ?_
    refine w_g (v := .bool (!((quietB m.kind)))) rfl (x_pick_t rfl rfl (neg_of hb30) rfl) ?_
    refine w_g rfl xm ?_
    rcases Bool.eq_false_or_eq_true ((quietB m.kind)) with hb36 | hb36
    ·
     refine w_n (neg_of hb36) ?_
     refine w_n (neg_of hb36) ?_
     refine w_n (neg_of hb36) ?_
     refine w_n (neg_of hb36) ?_
     refine w_n (neg_of hb36) ?_
     refine w_g (v := .bool false) rfl (x_pick_f rfl rfl (neg_of hb36) rfl) ?_
     refine w_g rfl xm ?_
     refine w_n rfl ?_
     refine w_n rfl ?_
     refine w_n rfl ?_
     refine w_n rfl ?_
     refine w_g (v := .bool false) rfl (x_pick_f rfl rfl rfl rfl) ?_
     refine w_v (v := .bool false) (x_pick_f rfl rfl rfl rfl) ?_
     refine w_e ?_
     refine g_weak [(0, .pointer (some ⟨rg, 0, none⟩)), (5, .pointer (some ⟨g1, 0, none⟩)), (7, .pointer (some ⟨rg, offR o, none⟩)), (8, .pointer (some ⟨rg, offS o, none⟩)), (73, .bool false)] ⟨rfl, rfl, rfl, rfl, rfl, trivial⟩ ?_
     refine g_cond_f rfl rfl ?_
     refine g_skip ?_
     refine g_then ?_
     refine g_mid () ?_ ?_
     · exact ⟨rfl, rfl, rfl, rfl, trivial⟩
     · exact ⟨(by simp [hb10, hb30, hb36]), H35⟩
    ·
     refine w_g (neg_of hb36) xm ?_
     refine w_g (neg_of hb36) xn ?_
     refine w_g (neg_of hb36) (xf (offR o + 0)) ?_
     refine w_g (neg_of hb36) (x_load1 H35 1 rfl rfl Tryz.underlying4 rfl rfl (rgC_o rfl rfl rfl)) ?_
     refine w_g (v := .bool (!(a.bg))) (neg_of hb36) (x_not (b := a.bg) rfl rfl) ?_
     refine w_g (v := .bool (!(a.bg))) rfl (x_pick_t rfl rfl (neg_of hb36) rfl) ?_
     refine w_g rfl xm ?_
     rcases Bool.eq_false_or_eq_true (a.bg) with hb37 | hb37
     ·
      refine w_n (neg_of hb37) ?_
      refine w_n (neg_of hb37) ?_
      refine w_n (neg_of hb37) ?_
      refine w_n (neg_of hb37) ?_
      refine w_g (v := .bool false) rfl (x_pick_f rfl rfl (neg_of hb37) rfl) ?_
      refine w_v (v := .bool false) (x_pick_f rfl rfl rfl rfl) ?_
      refine w_e ?_
      refine g_weak [(0, .pointer (some ⟨rg, 0, none⟩)), (5, .pointer (some ⟨g1, 0, none⟩)), (7, .pointer (some ⟨rg, offR o, none⟩)), (8, .pointer (some ⟨rg, offS o, none⟩)), (73, .bool false)] ⟨rfl, rfl, rfl, rfl, rfl, trivial⟩ ?_
      refine g_cond_f rfl rfl ?_
      refine g_skip ?_
      refine g_then ?_
      refine g_mid () ?_ ?_
      · exact ⟨rfl, rfl, rfl, rfl, trivial⟩
      · exact ⟨(by simp [hb10, hb30, hb36, hb37]), H35⟩
     ·
      refine w_g (neg_of hb37) xm ?_
      refine w_g (neg_of hb37) xn ?_
      refine w_g (neg_of hb37) (xf 4) ?_
      refine w_g (neg_of hb37) (x_load1 H35 1 rfl rfl Tryz.underlying4 rfl rfl (rgC_c rfl)) ?_
      refine w_g (v := .bool c.ft) rfl (x_pick_t rfl rfl (neg_of hb37) rfl) ?_
      refine w_v (v := .bool c.ft) (x_pick_f rfl rfl rfl rfl) ?_
      refine w_e ?_
      refine g_weak [(0, .pointer (some ⟨rg, 0, none⟩)), (5, .pointer (some ⟨g1, 0, none⟩)), (7, .pointer (some ⟨rg, offR o, none⟩)), (8, .pointer (some ⟨rg, offS o, none⟩)), (73, .bool c.ft)] ⟨rfl, rfl, rfl, rfl, rfl, trivial⟩ ?_
      rcases Bool.eq_false_or_eq_true (c.ft) with hb38 | hb38
      ·
       refine g_cond_t rfl hb38 ?_
       refine w_s ?_
       refine w_a ?_
       refine w_e ?_
       refine g_ret ?_
       refine g_then_ret ?_
       refine fin_ret [.tmp 6] [.int .i64 10] rfl ⟨rfl, trivial⟩ ?_
       have hE : stepE c a b m = 10 := by unfold stepE; rw [if_neg (by rw [h1]; simp)]; simp [hb10, hb30, hb36, hb37, hb38]
       have hM : mayE c a b m = 10 := by unfold mayE; rw [if_pos hb10, hE]
       exact ⟨by rw [hM]; rfl, (H35.takes [1, 2, 3, 4, 5, 6] (by decide))⟩
      ·
       refine g_cond_f rfl hb38 ?_
       refine g_skip ?_
       refine g_then ?_
       refine g_mid () ?_ ?_
       · exact ⟨rfl, rfl, rfl, rfl, trivial⟩
       · exact ⟨(by simp [hb10, hb30, hb36, hb37, hb38]), H35⟩
  rintro _ wq39 ⟨h2, H40⟩
  refine g_weak [(0, .pointer (some ⟨rg, 0, none⟩)), (5, .pointer (some ⟨g1, 0, none⟩)), (7, .pointer (some ⟨rg, offR o, none⟩)), (8, .pointer (some ⟨rg, offS o, none⟩))] ⟨rfl, rfl, rfl, rfl, trivial⟩ ?_
  refine g_seq ?_
  refine g_cut (ι := Unit) (fun _ => [(0, .pointer (some ⟨rg, 0, none⟩)), (5, .pointer (some ⟨g1, 0, none⟩)), (7, .pointer (some ⟨rg, offR o, none⟩)), (8, .pointer (some ⟨rg, offS o, none⟩))]) (fun _ wx => (¬ (m.kind = 7 ∧ validF c.n m.data = false)) ∧ S wx [mgI g1 m, rgI rg c o R R2 a b, alR R a, rqI R a, alR R2 b, rqI R2 b, olR w rg c o R R2 a b]) ?_ ?_
  ·
   refine g_seq ?_
   refine g_any [(0, .pointer (some ⟨rg, 0, none⟩)), (5, .pointer (some ⟨g1, 0, none⟩)), (7, .pointer (some ⟨rg, offR o, none⟩)), (8, .pointer (some ⟨rg, offS o, none⟩))] (fun wx => S wx [mgI g1 m, rgI rg c o R R2 a b]) [] (by kernel_rfl) H40 (fun wq41 H42 => ?_)
   have cm1 := H42.mask [true, true, false, false, false, false, false]
   refine w_t 0 rfl cm1 (fun _ _ => xf 0) ?_
   refine w_t 1 rfl cm1 (fun _ H => xl H 0) ?_
   refine w_t 2 rfl cm1 (fun _ _ => x_bin rfl rfl rfl b_eql) ?_
   refine w_t 3 rfl cm1 (fun _ _ => xm) ?_
   by_cases hb43 : (m.kind : Int) = 7
   ·
    have cm2 := H42.mask [true, true, false, false, false, false, false]
    refine w_tg 4 rfl (decide_eq_true hb43) cm2 (fun _ _ => xm) ?_
    refine w_tg 5 rfl (decide_eq_true hb43) cm2 (fun _ _ => xn) ?_
    refine w_tg 6 rfl (decide_eq_true hb43) cm2 (fun _ _ => xf 0) ?_
    refine w_tg 7 rfl (decide_eq_true hb43) cm2 (fun _ H => x_load1 H 1 rfl rfl Tryz.underlying3 rfl rfl (rgC_c rfl)) ?_
    refine w_tg 8 rfl (decide_eq_true hb43) cm2 (fun _ _ => xf 7) ?_
    refine w_tg 9 rfl (decide_eq_true hb43) cm2 (fun _ H => xl H 0) ?_
    refine a_one (i := 10) (by kernel_rfl) rfl ?_
    refine s_call0 H42 (wt1 rfl rfl rfl rfl (decide_eq_true hb43)) (x_call' rfl rfl cl47) (valid_fr c.n m.data _) rfl rfl ?_
    intro wq44 H45
    have cm3 := H45.mask [true, true, false, false, false, false, false]
    refine a_k cm3 ?_
    refine w_tg (v := .bool (!((validF c.n m.data)))) 11 rfl (decide_eq_true hb43) cm3 (fun _ _ => x_not (b := (validF c.n m.data)) rfl rfl) ?_
    refine w_t (v := .bool (!((validF c.n m.data)))) 12 rfl cm3 (fun _ _ => x_pick_t rfl rfl (decide_eq_true hb43) rfl) ?_
    refine a_done (by kernel_rfl) ?_
    refine g_then ?_
    refine g_weak [(0, .pointer (some ⟨rg, 0, none⟩)), (5, .pointer (some ⟨g1, 0, none⟩)), (7, .pointer (some ⟨rg, offR o, none⟩)), (8, .pointer (some ⟨rg, offS o, none⟩)), (86, .bool (!((validF c.n m.data))))] ⟨rfl, rfl, rfl, rfl, rfl, trivial⟩ ?_
    rcases Bool.eq_false_or_eq_true ((validF c.n m.data)) with hb46 | hb46
    ·
     refine g_cond_f rfl (neg_of hb46) ?_
     refine g_skip ?_
     refine g_then ?_
     refine g_mid () ?_ ?_
     · exact ⟨rfl, rfl, rfl, rfl, trivial⟩
     · exact ⟨(by simp [hb10, hb43, hb46]), H45⟩
    ·
     refine g_cond_t rfl (neg_of hb46) ?_
     refine w_s ?_
     refine w_a ?_
     refine w_e ?_
     refine g_ret ?_
     refine g_then_ret ?_
     refine fin_ret [.tmp 6] [.int .i64 12] rfl ⟨rfl, trivial⟩ ?_
     have hE : stepE c a b m = 12 := by unfold stepE; rw [if_neg (by rw [h1]; simp), if_neg (by rw [h2.1]; simp), if_neg (by rw [h2.2]; simp), if_pos (by simp [hb10, hb43, hb46])]
     have hM : mayE c a b m = 12 := by unfold mayE; rw [if_pos hb10, hE]
     exact ⟨by rw [hM]; rfl, (H45.takes [1, 2, 3, 4, 5, 6] (by decide))⟩
   ·
    have cm4 := H42.mask [true, true, false, false, false, false, false]
    refine w_tn 4 rfl (decide_eq_false hb43) cm4 ?_
    refine w_tn 5 rfl (decide_eq_false hb43) cm4 ?_
    refine w_tn 6 rfl (decide_eq_false hb43) cm4 ?_
    refine w_tn 7 rfl (decide_eq_false hb43) cm4 ?_
    refine w_tn 8 rfl (decide_eq_false hb43) cm4 ?_
    refine w_tn 9 rfl (decide_eq_false hb43) cm4 ?_
    refine a_one (i := 10) (by kernel_rfl) rfl ?_
    refine s_not (wn1 rfl rfl rfl rfl (decide_eq_false hb43)) rfl rfl ?_
    refine a_k cm4 ?_
    refine w_tn 11 rfl (decide_eq_false hb43) cm4 ?_
    refine w_t (v := .bool false) 12 rfl cm4 (fun _ _ => x_pick_f rfl rfl (decide_eq_false hb43) rfl) ?_
    refine a_done (by kernel_rfl) ?_
    refine g_then ?_
    refine g_weak [(0, .pointer (some ⟨rg, 0, none⟩)), (5, .pointer (some ⟨g1, 0, none⟩)), (7, .pointer (some ⟨rg, offR o, none⟩)), (8, .pointer (some ⟨rg, offS o, none⟩)), (86, .bool false)] ⟨rfl, rfl, rfl, rfl, rfl, trivial⟩ ?_
    refine g_cond_f rfl rfl ?_
    refine g_skip ?_
    refine g_then ?_
    refine g_mid () ?_ ?_
    · exact ⟨rfl, rfl, rfl, rfl, trivial⟩
    · exact ⟨(by simp [hb10, hb43]), H42⟩
  rintro _ wq47 ⟨h4, H48⟩
  refine g_weak [(0, .pointer (some ⟨rg, 0, none⟩)), (5, .pointer (some ⟨g1, 0, none⟩)), (7, .pointer (some ⟨rg, offR o, none⟩)), (8, .pointer (some ⟨rg, offS o, none⟩))] ⟨rfl, rfl, rfl, rfl, trivial⟩ ?_
  refine g_seq ?_
  refine g_cut (ι := Unit) (fun _ => [(0, .pointer (some ⟨rg, 0, none⟩)), (5, .pointer (some ⟨g1, 0, none⟩)), (7, .pointer (some ⟨rg, offR o, none⟩)), (8, .pointer (some ⟨rg, offS o, none⟩))]) (fun _ wx => (fitsS m c.n c.pi c.la = true) ∧ S wx [mgI g1 m, rgI rg c o R R2 a b, alR R a, rqI R a, alR R2 b, rqI R2 b, olR w rg c o R R2 a b]) ?_ ?_
  ·
   refine g_seq ?_
   refine g_any [(0, .pointer (some ⟨rg, 0, none⟩)), (5, .pointer (some ⟨g1, 0, none⟩)), (7, .pointer (some ⟨rg, offR o, none⟩)), (8, .pointer (some ⟨rg, offS o, none⟩))] (fun wx => S wx [mgI g1 m, rgI rg c o R R2 a b]) [] (by kernel_rfl) H48 (fun wq49 H50 => ?_)
   have cm5 := H50.mask [true, true, false, false, false, false, false]
   refine w_t (v := .agg m.cells) 0 rfl cm5 (fun _ H => x_loadA H 0 rfl rfl Tryz.underlying26 rfl sz26 rfl rfl rfl) ?_
   refine w_t 1 rfl cm5 (fun _ _ => xm) ?_
   refine w_t 2 rfl cm5 (fun _ _ => xn) ?_
   refine w_t 3 rfl cm5 (fun _ _ => xf 0) ?_
   refine w_t 4 rfl cm5 (fun _ H => x_load1 H 1 rfl rfl Tryz.underlying3 rfl rfl (rgC_c rfl)) ?_
   refine w_t 5 rfl cm5 (fun _ _ => xm) ?_
   refine w_t 6 rfl cm5 (fun _ _ => xn) ?_
   refine w_t 7 rfl cm5 (fun _ _ => xf 1) ?_
   refine w_t 8 rfl cm5 (fun _ H => x_load1 H 1 rfl rfl Tryz.underlying3 rfl rfl (rgC_c rfl)) ?_
   refine w_t 9 rfl cm5 (fun _ _ => xm) ?_
   refine w_t 10 rfl cm5 (fun _ _ => xn) ?_
   refine w_t 11 rfl cm5 (fun _ _ => xf 2) ?_
   refine w_t 12 rfl cm5 (fun _ H => x_load1 H 1 rfl rfl Tryz.underlying3 rfl rfl (rgC_c rfl)) ?_
   refine a_one (i := 13) (by kernel_rfl) rfl ?_
   refine s_call0 H50 (wt0 rfl) (x_call' rfl rfl cl48) (fitsM_r m c.n c.pi c.la _) rfl rfl ?_
   intro wq51 H52
   have cm6 := H52.mask [true, true, false, false, false, false, false]
   refine a_k cm6 ?_
   refine w_t (v := .bool (!((fitsS m c.n c.pi c.la)))) 14 rfl cm6 (fun _ _ => x_not (b := (fitsS m c.n c.pi c.la)) rfl rfl) ?_
   refine a_done (by kernel_rfl) ?_
   refine g_then ?_
   refine g_weak [(0, .pointer (some ⟨rg, 0, none⟩)), (5, .pointer (some ⟨g1, 0, none⟩)), (7, .pointer (some ⟨rg, offR o, none⟩)), (8, .pointer (some ⟨rg, offS o, none⟩)), (101, .bool (!((fitsS m c.n c.pi c.la))))] ⟨rfl, rfl, rfl, rfl, rfl, trivial⟩ ?_
   rcases Bool.eq_false_or_eq_true ((fitsS m c.n c.pi c.la)) with hb53 | hb53
   ·
    refine g_cond_f rfl (neg_of hb53) ?_
    refine g_skip ?_
    refine g_then ?_
    refine g_mid () ?_ ?_
    · exact ⟨rfl, rfl, rfl, rfl, trivial⟩
    · exact ⟨(by simp [hb10, hb53]), H52⟩
   ·
    refine g_cond_t rfl (neg_of hb53) ?_
    refine w_s ?_
    refine w_a ?_
    refine w_e ?_
    refine g_ret ?_
    refine g_then_ret ?_
    refine fin_ret [.tmp 6] [.int .i64 7] rfl ⟨rfl, trivial⟩ ?_
    have hE : stepE c a b m = 7 := by unfold stepE; rw [if_neg (by rw [h1]; simp), if_neg (by rw [h2.1]; simp), if_neg (by rw [h2.2]; simp), if_neg h4, if_pos (by simp [hb10, hb53])]
    have hM : mayE c a b m = 7 := by unfold mayE; rw [if_pos hb10, hE]
    exact ⟨by rw [hM]; rfl, (H52.takes [1, 2, 3, 4, 5, 6] (by decide))⟩
  rintro _ wq54 ⟨h5, H55⟩
  refine g_weak [(0, .pointer (some ⟨rg, 0, none⟩)), (5, .pointer (some ⟨g1, 0, none⟩)), (7, .pointer (some ⟨rg, offR o, none⟩)), (8, .pointer (some ⟨rg, offS o, none⟩))] ⟨rfl, rfl, rfl, rfl, trivial⟩ ?_
  refine w_s ?_
  refine w_f 1 ?_
  refine w_1 H55 0 ?_
  refine w_f 2 ?_
  refine w_1 H55 0 ?_
  refine w_f 3 ?_
  refine w_1 H55 0 ?_
  refine w_v (v := .agg #[.int .i64 (m.i1), .int .i64 (m.i2), .int .i64 (m.i3)]) (x_build (vs := [.int .i64 (m.i1), .int .i64 (m.i2), .int .i64 (m.i3)]) rfl rfl (cells := #[.int .i64 (m.i1), .int .i64 (m.i2), .int .i64 (m.i3)]) (by kernel_rfl)) ?_
  refine l_of (s_alloc H55 (wt0 rfl) rfl rfl rfl ze49 ?_)
  intro g56 wq57 H58
  refine l_of (w_st #[.int .i64 (m.i1), .int .i64 (m.i2), .int .i64 (m.i3)] H58 0 ?_)
  intro wq59 H60
  refine w_e ?_
  refine g_seq ?_
  refine w_s ?_
  refine w_f 0 ?_
  refine w_1 H60 1 ?_
  refine w_e ?_
  refine g_block ?_
  refine w_s ?_
  refine w_b ?_
  refine w_a ?_
  refine w_e ?_
  by_cases hb61 : (m.kind : Int) = 8
  ·
   refine g_cond_t rfl (decide_eq_true hb61) ?_
   refine g_seq ?_
   refine w_s ?_
   refine w_r3 ?_
   refine w_1 H60 1 ?_
   refine l_of (s_callK H60 [2, 3, 4, 5, 6] [5, 6, 0, 1, 2, 3, 4, 7] (by decide) rfl (wt0 rfl) (x_call' rfl rfl cl49) (fun _ => hasRR_p rg c o R R2 a b m.i1 hn0 hVb _ (H60.takes [2, 3, 4, 5, 6] (by decide))) (by decide) rfl rfl ?_)
   intro wq62 H64
   refine w_v (v := .bool (!((hasB c.n.toNat b.fd m.i1)))) (x_not (b := (hasB c.n.toNat b.fd m.i1)) rfl rfl) ?_
   refine w_e ?_
   refine g_weak [(0, .pointer (some ⟨rg, 0, none⟩)), (8, .pointer (some ⟨rg, offS o, none⟩)), (10, .pointer (some ⟨g56, 0, none⟩)), (118, .bool (!((hasB c.n.toNat b.fd m.i1))))] ⟨rfl, rfl, rfl, rfl, trivial⟩ ?_
   rcases Bool.eq_false_or_eq_true ((hasB c.n.toNat b.fd m.i1)) with hb65 | hb65
   ·
    refine g_cond_f rfl (neg_of hb65) ?_
    refine g_skip ?_
    refine g_then ?_
    refine g_seq ?_
    refine w_s ?_
    refine w_r3 ?_
    refine w_v (x_load1 H64 2 rfl rfl Tryz.underlying4 rfl rfl (rgC_c rfl)) ?_
    refine w_v (v := .bool (!(c.ft))) (x_not (b := c.ft) rfl rfl) ?_
    refine w_m ?_
    rcases Bool.eq_false_or_eq_true (c.ft) with hb66 | hb66
    ·
     refine w_n (neg_of hb66) ?_
     refine w_n (neg_of hb66) ?_
     refine w_n (neg_of hb66) ?_
     refine w_n (neg_of hb66) ?_
     refine w_n (neg_of hb66) ?_
     refine w_v (v := .bool false) (x_pick_f rfl rfl (neg_of hb66) rfl) ?_
     refine w_e ?_
     refine g_weak [(0, .pointer (some ⟨rg, 0, none⟩)), (8, .pointer (some ⟨rg, offS o, none⟩)), (10, .pointer (some ⟨g56, 0, none⟩)), (130, .bool false)] ⟨rfl, rfl, rfl, rfl, trivial⟩ ?_
     refine g_cond_f rfl rfl ?_
     refine g_skip ?_
     refine g_then ?_
     refine g_seq ?_
     refine g_seq ?_
     refine g_any [(0, .pointer (some ⟨rg, 0, none⟩)), (8, .pointer (some ⟨rg, offS o, none⟩)), (10, .pointer (some ⟨g56, 0, none⟩)), (130, .bool false)] (fun wx => S wx [Ob g56 (.cells #[.int .i64 (m.i1), .int .i64 (m.i2), .int .i64 (m.i3)] 49 (0, 0)), rgI rg c o R R2 a b]) [] (by kernel_rfl) H64 (fun wq67 H68 => ?_)
     have cm7 := H68.mask [true, false, true, false, false, false, false, false]
     refine w_t 0 rfl cm7 (fun _ _ => xm) ?_
     refine w_t 1 rfl cm7 (fun _ _ => xn) ?_
     refine w_t 2 rfl cm7 (fun _ _ => xf (offS o + 5)) ?_
     refine w_t 3 rfl cm7 (fun _ H => x_load1 H 1 rfl rfl Tryz.underlying55 rfl rfl (rgC_p rfl rfl rfl)) ?_
     refine w_t (v := .agg #[.int .i64 (m.i1), .int .i64 (m.i2), .int .i64 (m.i3)]) 4 rfl cm7 (fun _ H => x_loadA H 0 rfl rfl Tryz.underlying49 rfl sz49 rfl rfl rfl) ?_
     refine a_one (i := 5) (by kernel_rfl) rfl ?_
     have hfc69 := find_w b R2.pw R2.cw (blk m) (by omega) wq67 (H68.rwReads (k := 6) rfl)
     rw [show (blk m).n = m.i3 from if_neg (by omega)] at hfc69
     refine s_call (wt0 rfl) (x_call' rfl rfl cl26) (hfc69) ?_
     rintro _ wq72 ⟨r70, rfl, hfr71, H73⟩
     replace H73 : S wq72 [Ob g56 (.cells #[.int .i64 (m.i1), .int .i64 (m.i2), .int .i64 (m.i3)] 49 (0, 0)), mgI g1 m, rgI rg c o R R2 a b, alR R a, rqI R a, alR R2 b, rqI R2 b, olR w rg c o R R2 a b] := H68.absorb (new := []) H73
     refine b_ret rfl rfl ?_
     have cm8 := H73.mask [true, false, true, false, false, false, false, false]
     refine a_k cm8 ?_
     refine w_t 6 rfl cm8 (fun _ _ => x_bin rfl rfl rfl b_geq) ?_
     refine a_done (by kernel_rfl) ?_
     refine g_then ?_
     by_cases hb74 : (0 : Int) ≤ r70
     ·
      refine g_cond_t rfl (decide_eq_true hb74) ?_
      refine w_s ?_
      refine w_a ?_
      refine w_e ?_
      refine g_ret ?_
      refine g_then_ret ?_
      refine g_in_ret ?_
      refine g_then_ret ?_
      refine fin_ret [.tmp 6] [.int .i64 6] rfl ⟨rfl, trivial⟩ ?_
      have hcb : chB b.wa (blk m) = true := by rcases hfr71 with ⟨q1, q2⟩ | ⟨i, q1, q2, q3, q4⟩ <;> first | exact q4 | (exfalso; omega)
      have hE : stepE c a b m = 6 := by unfold stepE; rw [if_neg (by rw [h1]; simp), if_neg (by rw [h2.1]; simp), if_neg (by rw [h2.2]; simp), if_neg h4, if_neg (by rw [h5]; simp)]; unfold ruleE; simp [hb10, hb61, hb65, hb66, hb74, hcb]
      have hM : mayE c a b m = 6 := by unfold mayE; rw [if_pos hb10, hE]
      exact ⟨by rw [hM]; rfl, (H73.takes [2, 3, 4, 5, 6, 7] (by decide))⟩
     ·
      refine g_cond_f rfl (decide_eq_false hb74) ?_
      refine g_skip ?_
      refine g_then ?_
      refine g_seq ?_
      refine g_quiet (by kernel_rfl) (by kernel_rfl) H73 ?_
      refine q_val (v := .pointer (some ⟨rg, offS o, none⟩)) (wt0 rfl) rfl rfl (fun wx H => x_move rfl rfl) ?_
      refine q_val (v := .pointer (some ⟨rg, offS o, none⟩)) (wt0 rfl) rfl rfl (fun wx H => x_nilCheck rfl rfl) ?_
      refine q_val (v := .pointer (some ⟨rg, offS o + 5, none⟩)) (wt0 rfl) rfl rfl (fun wx H => x_fieldAddr rfl rfl fo57_5 rfl) ?_
      refine q_val (v := .slice R2.pw b.wa.length R2.cw) (wt0 rfl) rfl rfl (fun wx H => x_load1 H 2 rfl rfl Tryz.underlying55 rfl rfl (rgC_p rfl rfl rfl)) ?_
      refine q_val (v := .int .i64 ((b.wa.length : Int))) (wt0 rfl) rfl rfl (fun wx H => x_lenl rfl rfl Tryz.underlying55) ?_
      refine q_val (v := .pointer (some ⟨rg, 0, none⟩)) (wt0 rfl) rfl rfl (fun wx H => x_move rfl rfl) ?_
      refine q_val (v := .pointer (some ⟨rg, 0, none⟩)) (wt0 rfl) rfl rfl (fun wx H => x_nilCheck rfl rfl) ?_
      refine q_val (v := .pointer (some ⟨rg, 3, none⟩)) (wt0 rfl) rfl rfl (fun wx H => x_fieldAddr rfl rfl fo59_3 rfl) ?_
      refine q_val (v := .int .i64 (c.qu)) (wt0 rfl) rfl rfl (fun wx H => x_load1 H 2 rfl rfl Tryz.underlying3 rfl rfl (rgC_c rfl)) ?_
      refine q_val (v := .bool (decide ((c.qu : Int) ≤ (b.wa.length : Int)))) (wt0 rfl) rfl rfl (fun wx H => x_bin rfl rfl rfl b_geq) ?_
      refine q_nil (fun wq75 H76 => ?_)
      refine g_then ?_
      refine g_weak [(147, .bool (decide ((c.qu : Int) ≤ (b.wa.length : Int))))] ⟨rfl, trivial⟩ ?_
      by_cases hb77 : (c.qu : Int) ≤ (b.wa.length : Int)
      ·
       refine g_cond_t rfl (decide_eq_true hb77) ?_
       refine w_s ?_
       refine w_a ?_
       refine w_e ?_
       refine g_ret ?_
       refine g_in_ret ?_
       refine g_then_ret ?_
       refine fin_ret [.tmp 6] [.int .i64 14] rfl ⟨rfl, trivial⟩ ?_
       have hcb : chB b.wa (blk m) = false := by rcases hfr71 with ⟨q1, q2⟩ | ⟨i, q1, q2, q3, q4⟩ <;> first | exact q2 | (exfalso; omega)
       have hE : stepE c a b m = 14 := by unfold stepE; rw [if_neg (by rw [h1]; simp), if_neg (by rw [h2.1]; simp), if_neg (by rw [h2.2]; simp), if_neg h4, if_neg (by rw [h5]; simp)]; unfold ruleE; simp [hb10, hb61, hb65, hb66, hb74, hb77, hcb]
       have hM : mayE c a b m = 14 := by unfold mayE; rw [if_pos hb10, hE]
       exact ⟨by rw [hM]; rfl, (H76.takes [2, 3, 4, 5, 6, 7] (by decide))⟩
      ·
       refine g_cond_f rfl (decide_eq_false hb77) ?_
       refine g_skip ?_
       refine g_in ?_
       refine g_then ?_
       refine w_s ?_
       refine w_a ?_
       refine w_e ?_
       refine g_ret ?_
       refine fin_ret [.tmp 6] [.int .i64 0] rfl ⟨rfl, trivial⟩ ?_
       have hcb : chB b.wa (blk m) = false := by rcases hfr71 with ⟨q1, q2⟩ | ⟨i, q1, q2, q3, q4⟩ <;> first | exact q2 | (exfalso; omega)
       have hE : stepE c a b m = 0 := by unfold stepE; rw [if_neg (by rw [h1]; simp), if_neg (by rw [h2.1]; simp), if_neg (by rw [h2.2]; simp), if_neg h4, if_neg (by rw [h5]; simp)]; unfold ruleE; simp [hb10, hb61, hb65, hb66, hb74, hb77, hcb]
       have hM : mayE c a b m = 0 := by unfold mayE; rw [if_pos hb10, hE]
       exact ⟨by rw [hM]; rfl, (H76.takes [2, 3, 4, 5, 6, 7] (by decide))⟩
    ·
     refine w_g (neg_of hb66) xm ?_
     refine w_g (neg_of hb66) xn ?_
     refine w_g (neg_of hb66) (xf (offS o + 1)) ?_
     refine w_g (neg_of hb66) (x_load1 H64 2 rfl rfl Tryz.underlying4 rfl rfl (rgC_p rfl rfl rfl)) ?_
     refine w_g (v := .bool (!(!(b.ck)))) (neg_of hb66) (x_not (b := !(b.ck)) rfl rfl) ?_
     refine w_v (v := .bool (!(!(b.ck)))) (x_pick_t rfl rfl (neg_of hb66) rfl) ?_
     refine w_e ?_
     refine g_weak [(0, .pointer (some ⟨rg, 0, none⟩)), (8, .pointer (some ⟨rg, offS o, none⟩)), (10, .pointer (some ⟨g56, 0, none⟩)), (130, .bool (!(!(b.ck))))] ⟨rfl, rfl, rfl, rfl, trivial⟩ ?_
     rcases Bool.eq_false_or_eq_true (b.ck) with hb78 | hb78
     ·
      refine g_cond_t rfl (neg_of (neg_of hb78)) ?_
      refine w_s ?_
      refine w_a ?_
      refine w_e ?_
      refine g_ret ?_
      refine g_then_ret ?_
      refine g_in_ret ?_
      refine g_then_ret ?_
      refine fin_ret [.tmp 6] [.int .i64 0] rfl ⟨rfl, trivial⟩ ?_
      have hE : stepE c a b m = 0 := by unfold stepE; rw [if_neg (by rw [h1]; simp), if_neg (by rw [h2.1]; simp), if_neg (by rw [h2.2]; simp), if_neg h4, if_neg (by rw [h5]; simp)]; unfold ruleE; simp [hb10, hb61, hb65, hb66, hb78]
      have hM : mayE c a b m = 0 := by unfold mayE; rw [if_pos hb10, hE]
      exact ⟨by rw [hM]; rfl, (H64.takes [2, 3, 4, 5, 6, 7] (by decide))⟩
     ·
      refine g_cond_f rfl (neg_of (neg_of hb78)) ?_
      refine g_skip ?_
      refine g_then ?_
      refine g_seq ?_
      refine g_seq ?_
      refine g_any [(0, .pointer (some ⟨rg, 0, none⟩)), (8, .pointer (some ⟨rg, offS o, none⟩)), (10, .pointer (some ⟨g56, 0, none⟩)), (130, .bool (!(!(b.ck))))] (fun wx => S wx [Ob g56 (.cells #[.int .i64 (m.i1), .int .i64 (m.i2), .int .i64 (m.i3)] 49 (0, 0)), rgI rg c o R R2 a b]) [] (by kernel_rfl) H64 (fun wq79 H80 => ?_)
      have cm9 := H80.mask [true, false, true, false, false, false, false, false]
      refine w_t 0 rfl cm9 (fun _ _ => xm) ?_
      refine w_t 1 rfl cm9 (fun _ _ => xn) ?_
      refine w_t 2 rfl cm9 (fun _ _ => xf (offS o + 5)) ?_
      refine w_t 3 rfl cm9 (fun _ H => x_load1 H 1 rfl rfl Tryz.underlying55 rfl rfl (rgC_p rfl rfl rfl)) ?_
      refine w_t (v := .agg #[.int .i64 (m.i1), .int .i64 (m.i2), .int .i64 (m.i3)]) 4 rfl cm9 (fun _ H => x_loadA H 0 rfl rfl Tryz.underlying49 rfl sz49 rfl rfl rfl) ?_
      refine a_one (i := 5) (by kernel_rfl) rfl ?_
      have hfc81 := find_w b R2.pw R2.cw (blk m) (by omega) wq79 (H80.rwReads (k := 6) rfl)
      rw [show (blk m).n = m.i3 from if_neg (by omega)] at hfc81
      refine s_call (wt0 rfl) (x_call' rfl rfl cl26) (hfc81) ?_
      rintro _ wq84 ⟨r82, rfl, hfr83, H85⟩
      replace H85 : S wq84 [Ob g56 (.cells #[.int .i64 (m.i1), .int .i64 (m.i2), .int .i64 (m.i3)] 49 (0, 0)), mgI g1 m, rgI rg c o R R2 a b, alR R a, rqI R a, alR R2 b, rqI R2 b, olR w rg c o R R2 a b] := H80.absorb (new := []) H85
      refine b_ret rfl rfl ?_
      have cm10 := H85.mask [true, false, true, false, false, false, false, false]
      refine a_k cm10 ?_
      refine w_t 6 rfl cm10 (fun _ _ => x_bin rfl rfl rfl b_geq) ?_
      refine a_done (by kernel_rfl) ?_
      refine g_then ?_
      by_cases hb86 : (0 : Int) ≤ r82
      ·
       refine g_cond_t rfl (decide_eq_true hb86) ?_
       refine w_s ?_
       refine w_a ?_
       refine w_e ?_
       refine g_ret ?_
       refine g_then_ret ?_
       refine g_in_ret ?_
       refine g_then_ret ?_
       refine fin_ret [.tmp 6] [.int .i64 6] rfl ⟨rfl, trivial⟩ ?_
       have hcb : chB b.wa (blk m) = true := by rcases hfr83 with ⟨q1, q2⟩ | ⟨i, q1, q2, q3, q4⟩ <;> first | exact q4 | (exfalso; omega)
       have hE : stepE c a b m = 6 := by unfold stepE; rw [if_neg (by rw [h1]; simp), if_neg (by rw [h2.1]; simp), if_neg (by rw [h2.2]; simp), if_neg h4, if_neg (by rw [h5]; simp)]; unfold ruleE; simp [hb10, hb61, hb65, hb66, hb78, hb86, hcb]
       have hM : mayE c a b m = 6 := by unfold mayE; rw [if_pos hb10, hE]
       exact ⟨by rw [hM]; rfl, (H85.takes [2, 3, 4, 5, 6, 7] (by decide))⟩
      ·
       refine g_cond_f rfl (decide_eq_false hb86) ?_
       refine g_skip ?_
       refine g_then ?_
       refine g_seq ?_
       refine g_quiet (by kernel_rfl) (by kernel_rfl) H85 ?_
       refine q_val (v := .pointer (some ⟨rg, offS o, none⟩)) (wt0 rfl) rfl rfl (fun wx H => x_move rfl rfl) ?_
       refine q_val (v := .pointer (some ⟨rg, offS o, none⟩)) (wt0 rfl) rfl rfl (fun wx H => x_nilCheck rfl rfl) ?_
       refine q_val (v := .pointer (some ⟨rg, offS o + 5, none⟩)) (wt0 rfl) rfl rfl (fun wx H => x_fieldAddr rfl rfl fo57_5 rfl) ?_
       refine q_val (v := .slice R2.pw b.wa.length R2.cw) (wt0 rfl) rfl rfl (fun wx H => x_load1 H 2 rfl rfl Tryz.underlying55 rfl rfl (rgC_p rfl rfl rfl)) ?_
       refine q_val (v := .int .i64 ((b.wa.length : Int))) (wt0 rfl) rfl rfl (fun wx H => x_lenl rfl rfl Tryz.underlying55) ?_
       refine q_val (v := .pointer (some ⟨rg, 0, none⟩)) (wt0 rfl) rfl rfl (fun wx H => x_move rfl rfl) ?_
       refine q_val (v := .pointer (some ⟨rg, 0, none⟩)) (wt0 rfl) rfl rfl (fun wx H => x_nilCheck rfl rfl) ?_
       refine q_val (v := .pointer (some ⟨rg, 3, none⟩)) (wt0 rfl) rfl rfl (fun wx H => x_fieldAddr rfl rfl fo59_3 rfl) ?_
       refine q_val (v := .int .i64 (c.qu)) (wt0 rfl) rfl rfl (fun wx H => x_load1 H 2 rfl rfl Tryz.underlying3 rfl rfl (rgC_c rfl)) ?_
       refine q_val (v := .bool (decide ((c.qu : Int) ≤ (b.wa.length : Int)))) (wt0 rfl) rfl rfl (fun wx H => x_bin rfl rfl rfl b_geq) ?_
       refine q_nil (fun wq87 H88 => ?_)
       refine g_then ?_
       refine g_weak [(147, .bool (decide ((c.qu : Int) ≤ (b.wa.length : Int))))] ⟨rfl, trivial⟩ ?_
       by_cases hb89 : (c.qu : Int) ≤ (b.wa.length : Int)
       ·
        refine g_cond_t rfl (decide_eq_true hb89) ?_
        refine w_s ?_
        refine w_a ?_
        refine w_e ?_
        refine g_ret ?_
        refine g_in_ret ?_
        refine g_then_ret ?_
        refine fin_ret [.tmp 6] [.int .i64 14] rfl ⟨rfl, trivial⟩ ?_
        have hcb : chB b.wa (blk m) = false := by rcases hfr83 with ⟨q1, q2⟩ | ⟨i, q1, q2, q3, q4⟩ <;> first | exact q2 | (exfalso; omega)
        have hE : stepE c a b m = 14 := by unfold stepE; rw [if_neg (by rw [h1]; simp), if_neg (by rw [h2.1]; simp), if_neg (by rw [h2.2]; simp), if_neg h4, if_neg (by rw [h5]; simp)]; unfold ruleE; simp [hb10, hb61, hb65, hb66, hb78, hb86, hb89, hcb]
        have hM : mayE c a b m = 14 := by unfold mayE; rw [if_pos hb10, hE]
        exact ⟨by rw [hM]; rfl, (H88.takes [2, 3, 4, 5, 6, 7] (by decide))⟩
       ·
        refine g_cond_f rfl (decide_eq_false hb89) ?_
        refine g_skip ?_
        refine g_in ?_
        refine g_then ?_
        refine w_s ?_
        refine w_a ?_
        refine w_e ?_
        refine g_ret ?_
        refine fin_ret [.tmp 6] [.int .i64 0] rfl ⟨rfl, trivial⟩ ?_
        have hcb : chB b.wa (blk m) = false := by rcases hfr83 with ⟨q1, q2⟩ | ⟨i, q1, q2, q3, q4⟩ <;> first | exact q2 | (exfalso; omega)
        have hE : stepE c a b m = 0 := by unfold stepE; rw [if_neg (by rw [h1]; simp), if_neg (by rw [h2.1]; simp), if_neg (by rw [h2.2]; simp), if_neg h4, if_neg (by rw [h5]; simp)]; unfold ruleE; simp [hb10, hb61, hb65, hb66, hb78, hb86, hb89, hcb]
        have hM : mayE c a b m = 0 := by unfold mayE; rw [if_pos hb10, hE]
        exact ⟨by rw [hM]; rfl, (H88.takes [2, 3, 4, 5, 6, 7] (by decide))⟩
   ·
    refine g_cond_t rfl (neg_of hb65) ?_
    refine w_s ?_
    refine w_a ?_
    refine w_e ?_
    refine g_ret ?_
    refine g_then_ret ?_
    refine g_in_ret ?_
    refine g_then_ret ?_
    refine fin_ret [.tmp 6] [.int .i64 9] rfl ⟨rfl, trivial⟩ ?_
    have hE : stepE c a b m = 9 := by unfold stepE; rw [if_neg (by rw [h1]; simp), if_neg (by rw [h2.1]; simp), if_neg (by rw [h2.2]; simp), if_neg h4, if_neg (by rw [h5]; simp)]; unfold ruleE; simp [hb10, hb61, hb65]
    have hM : mayE c a b m = 9 := by unfold mayE; rw [if_pos hb10, hE]
    exact ⟨by rw [hM]; rfl, (H64.takes [2, 3, 4, 5, 6, 7] (by decide))⟩
  ·
   refine g_cond_f rfl (decide_eq_false hb61) ?_
   refine w_s ?_
   refine w_b ?_
   refine w_a ?_
   refine w_e ?_
   refine g_weak [(0, .pointer (some ⟨rg, 0, none⟩)), (5, .pointer (some ⟨g1, 0, none⟩)), (7, .pointer (some ⟨rg, offR o, none⟩)), (10, .pointer (some ⟨g56, 0, none⟩)), (110, .int .i64 (m.kind)), (148, .bool (decide ((m.kind : Int) = 9)))] ⟨rfl, rfl, rfl, rfl, rfl, rfl, trivial⟩ ?_
   by_cases hb90 : (m.kind : Int) = 9
   ·
    refine g_cond_t rfl (decide_eq_true hb90) ?_
    refine g_seq ?_
    refine g_seq ?_
    refine g_any [(0, .pointer (some ⟨rg, 0, none⟩)), (5, .pointer (some ⟨g1, 0, none⟩)), (7, .pointer (some ⟨rg, offR o, none⟩)), (10, .pointer (some ⟨g56, 0, none⟩)), (110, .int .i64 (m.kind)), (148, .bool (decide ((m.kind : Int) = 9)))] (fun wx => S wx [mgI g1 m, rgI rg c o R R2 a b]) [] (by kernel_rfl) H60 (fun wq91 H92 => ?_)
    have cm11 := H92.mask [false, true, true, false, false, false, false, false]
    refine w_t 0 rfl cm11 (fun _ _ => xm) ?_
    refine w_t 1 rfl cm11 (fun _ _ => xn) ?_
    refine w_t 2 rfl cm11 (fun _ _ => xf (offR o + 1)) ?_
    refine w_t 3 rfl cm11 (fun _ H => x_load1 H 1 rfl rfl Tryz.underlying4 rfl rfl (rgC_o rfl rfl rfl)) ?_
    refine w_t (v := .bool (!(!(a.ck)))) 4 rfl cm11 (fun _ _ => x_not (b := !(a.ck)) rfl rfl) ?_
    refine w_t 5 rfl cm11 (fun _ _ => xm) ?_
    rcases Bool.eq_false_or_eq_true (a.ck) with hb93 | hb93
    ·
     have cm12 := H92.mask [false, true, true, false, false, false, false, false]
     refine w_tg 6 rfl (neg_of (neg_of hb93)) cm12 (fun _ _ => xm) ?_
     refine w_tg 7 rfl (neg_of (neg_of hb93)) cm12 (fun _ _ => xn) ?_
     refine w_tg 8 rfl (neg_of (neg_of hb93)) cm12 (fun _ _ => xf (offR o + 4)) ?_
     refine w_tg 9 rfl (neg_of (neg_of hb93)) cm12 (fun _ H => x_load1 H 1 rfl rfl Tryz.underlying54 rfl rfl (rgC_o rfl rfl rfl)) ?_
     refine w_tg 10 rfl (neg_of (neg_of hb93)) cm12 (fun _ _ => xf 1) ?_
     refine w_tg 11 rfl (neg_of (neg_of hb93)) cm12 (fun _ H => xl H 0) ?_
     refine a_one (i := 12) (by kernel_rfl) rfl ?_
     refine s_call0 H92 (wt1 rfl rfl rfl rfl (neg_of (neg_of hb93))) (x_call' rfl rfl cl24) (in_r a.al R.pa R.ca m.i1 (by omega) _ (H92.rwReads (k := 3) rfl)) rfl rfl ?_
     intro wq94 H95
     have cm13 := H95.mask [false, true, true, false, false, false, false, false]
     refine a_k cm13 ?_
     refine w_tg (v := .bool (!((inB a.al m.i1)))) 13 rfl (neg_of (neg_of hb93)) cm13 (fun _ _ => x_not (b := (inB a.al m.i1)) rfl rfl) ?_
     refine w_t (v := .bool (!((inB a.al m.i1)))) 14 rfl cm13 (fun _ _ => x_pick_t rfl rfl (neg_of (neg_of hb93)) rfl) ?_
     refine a_done (by kernel_rfl) ?_
     refine g_then ?_
     refine g_weak [(5, .pointer (some ⟨g1, 0, none⟩)), (7, .pointer (some ⟨rg, offR o, none⟩)), (10, .pointer (some ⟨g56, 0, none⟩)), (164, .bool (!((inB a.al m.i1))))] ⟨rfl, rfl, rfl, rfl, trivial⟩ ?_
     rcases Bool.eq_false_or_eq_true ((inB a.al m.i1)) with hb96 | hb96
     ·
      refine g_cond_f rfl (neg_of hb96) ?_
      refine g_skip ?_
      refine g_then ?_
      refine w_s ?_
      refine w_f 7 ?_
      refine w_1 H95 1 ?_
      refine w_v (v := .int .i64 ((m.data.size : Int))) (x_lens rfl rfl Tryz.underlying9) ?_
      refine w_f 2 ?_
      refine l_of (w_st #[.int .i64 (m.i1), .int .i64 (m.i2), .int .i64 ((m.data.size : Int))] H95 0 ?_)
      intro wq97 H98
      refine w_e ?_
      refine g_seq ?_
      refine g_any [(5, .pointer (some ⟨g1, 0, none⟩)), (7, .pointer (some ⟨rg, offR o, none⟩)), (10, .pointer (some ⟨g56, 0, none⟩)), (164, .bool (!((inB a.al m.i1)))), (165, .pointer (some ⟨g1, 7, none⟩)), (166, .string (m.data)), (167, .int .i64 ((m.data.size : Int))), (168, .pointer (some ⟨g56, 2, none⟩))] (fun wx => S wx [Ob g56 (.cells #[.int .i64 (m.i1), .int .i64 (m.i2), .int .i64 ((m.data.size : Int))] 49 (0, 0)), rgI rg c o R R2 a b]) [] (by kernel_rfl) H98 (fun wq99 H100 => ?_)
      have cm14 := H100.mask [true, false, true, false, false, false, false, false]
      refine w_t 0 rfl cm14 (fun _ _ => xm) ?_
      refine w_t 1 rfl cm14 (fun _ _ => xn) ?_
      refine w_t 2 rfl cm14 (fun _ _ => xf (offR o + 5)) ?_
      refine w_t 3 rfl cm14 (fun _ H => x_load1 H 1 rfl rfl Tryz.underlying55 rfl rfl (rgC_o rfl rfl rfl)) ?_
      refine w_t (v := .agg #[.int .i64 (m.i1), .int .i64 (m.i2), .int .i64 ((m.data.size : Int))]) 4 rfl cm14 (fun _ H => x_loadA H 0 rfl rfl Tryz.underlying49 rfl sz49 rfl rfl rfl) ?_
      refine a_one (i := 5) (by kernel_rfl) rfl ?_
      have hfc101 := find_w a R.pw R.cw (blk m) (by omega) wq99 (H100.rwReads (k := 4) rfl)
      rw [show (blk m).n = (m.data.size : Int) from if_pos (by omega)] at hfc101
      refine s_call (wt0 rfl) (x_call' rfl rfl cl26) (hfc101) ?_
      rintro _ wq104 ⟨r102, rfl, hfr103, H105⟩
      replace H105 : S wq104 [Ob g56 (.cells #[.int .i64 (m.i1), .int .i64 (m.i2), .int .i64 ((m.data.size : Int))] 49 (0, 0)), mgI g1 m, rgI rg c o R R2 a b, alR R a, rqI R a, alR R2 b, rqI R2 b, olR w rg c o R R2 a b] := H100.absorb (new := []) H105
      refine b_ret rfl rfl ?_
      have cm15 := H105.mask [true, false, true, false, false, false, false, false]
      refine a_k cm15 ?_
      refine w_t 6 rfl cm15 (fun _ _ => x_bin rfl rfl rfl b_lss) ?_
      refine a_done (by kernel_rfl) ?_
      refine g_then ?_
      refine g_weak [(175, .bool (decide ((r102 : Int) < 0)))] ⟨rfl, trivial⟩ ?_
      by_cases hb106 : (r102 : Int) < 0
      ·
       refine g_cond_t rfl (decide_eq_true hb106) ?_
       refine w_s ?_
       refine w_a ?_
       refine w_e ?_
       refine g_ret ?_
       refine g_in_ret ?_
       refine g_then_ret ?_
       refine fin_ret [.tmp 6] [.int .i64 8] rfl ⟨rfl, trivial⟩ ?_
       have hcb : chB a.wa (blk m) = false := by rcases hfr103 with ⟨q1, q2⟩ | ⟨i, q1, q2, q3, q4⟩ <;> first | exact q2 | (exfalso; omega)
       have hE : stepE c a b m = 8 := by unfold stepE; rw [if_neg (by rw [h1]; simp), if_neg (by rw [h2.1]; simp), if_neg (by rw [h2.2]; simp), if_neg h4, if_neg (by rw [h5]; simp)]; unfold ruleE openB; rw [show (blk m).p = m.i1 from rfl]; simp [hb10, hb61, hb90, hb93, hb96, hb106, hcb]
       have hM : mayE c a b m = 8 := by unfold mayE; rw [if_pos hb10, hE]
       exact ⟨by rw [hM]; rfl, (H105.takes [2, 3, 4, 5, 6, 7] (by decide))⟩
      ·
       refine g_cond_f rfl (decide_eq_false hb106) ?_
       refine g_skip ?_
       refine g_in ?_
       refine g_then ?_
       refine w_s ?_
       refine w_a ?_
       refine w_e ?_
       refine g_ret ?_
       refine fin_ret [.tmp 6] [.int .i64 0] rfl ⟨rfl, trivial⟩ ?_
       have hcb : chB a.wa (blk m) = true := by rcases hfr103 with ⟨q1, q2⟩ | ⟨i, q1, q2, q3, q4⟩ <;> first | exact q4 | (exfalso; omega)
       have hE : stepE c a b m = 0 := by unfold stepE; rw [if_neg (by rw [h1]; simp), if_neg (by rw [h2.1]; simp), if_neg (by rw [h2.2]; simp), if_neg h4, if_neg (by rw [h5]; simp)]; unfold ruleE openB; rw [show (blk m).p = m.i1 from rfl]; simp [hb10, hb61, hb90, hb93, hb96, hb106, hcb]
       have hM : mayE c a b m = 0 := by unfold mayE; rw [if_pos hb10, hE]
       exact ⟨by rw [hM]; rfl, (H105.takes [2, 3, 4, 5, 6, 7] (by decide))⟩
     ·
      refine g_cond_t rfl (neg_of hb96) ?_
      refine w_s ?_
      refine w_a ?_
      refine w_e ?_
      refine g_ret ?_
      refine g_then_ret ?_
      refine g_in_ret ?_
      refine g_then_ret ?_
      refine fin_ret [.tmp 6] [.int .i64 9] rfl ⟨rfl, trivial⟩ ?_
      have hE : stepE c a b m = 9 := by unfold stepE; rw [if_neg (by rw [h1]; simp), if_neg (by rw [h2.1]; simp), if_neg (by rw [h2.2]; simp), if_neg h4, if_neg (by rw [h5]; simp)]; unfold ruleE openB; rw [show (blk m).p = m.i1 from rfl]; simp [hb10, hb61, hb90, hb93, hb96]
      have hM : mayE c a b m = 9 := by unfold mayE; rw [if_pos hb10, hE]
      exact ⟨by rw [hM]; rfl, (H95.takes [2, 3, 4, 5, 6, 7] (by decide))⟩
    ·
     have cm16 := H92.mask [false, true, true, false, false, false, false, false]
     refine w_tn 6 rfl (neg_of (neg_of hb93)) cm16 ?_
     refine w_tn 7 rfl (neg_of (neg_of hb93)) cm16 ?_
     refine w_tn 8 rfl (neg_of (neg_of hb93)) cm16 ?_
     refine w_tn 9 rfl (neg_of (neg_of hb93)) cm16 ?_
     refine w_tn 10 rfl (neg_of (neg_of hb93)) cm16 ?_
     refine w_tn 11 rfl (neg_of (neg_of hb93)) cm16 ?_
     refine a_one (i := 12) (by kernel_rfl) rfl ?_
     refine s_not (wn1 rfl rfl rfl rfl (neg_of (neg_of hb93))) rfl rfl ?_
     refine a_k cm16 ?_
     refine w_tn 13 rfl (neg_of (neg_of hb93)) cm16 ?_
     refine w_t (v := .bool false) 14 rfl cm16 (fun _ _ => x_pick_f rfl rfl (neg_of (neg_of hb93)) rfl) ?_
     refine a_done (by kernel_rfl) ?_
     refine g_then ?_
     refine g_weak [(5, .pointer (some ⟨g1, 0, none⟩)), (7, .pointer (some ⟨rg, offR o, none⟩)), (10, .pointer (some ⟨g56, 0, none⟩)), (164, .bool false)] ⟨rfl, rfl, rfl, rfl, trivial⟩ ?_
     refine g_cond_f rfl rfl ?_
     refine g_skip ?_
     refine g_then ?_
     refine w_s ?_
     refine w_f 7 ?_
     refine w_1 H92 1 ?_
     refine w_v (v := .int .i64 ((m.data.size : Int))) (x_lens rfl rfl Tryz.underlying9) ?_
     refine w_f 2 ?_
     refine l_of (w_st #[.int .i64 (m.i1), .int .i64 (m.i2), .int .i64 ((m.data.size : Int))] H92 0 ?_)
     intro wq107 H108
     refine w_e ?_
     refine g_seq ?_
     refine g_any [(5, .pointer (some ⟨g1, 0, none⟩)), (7, .pointer (some ⟨rg, offR o, none⟩)), (10, .pointer (some ⟨g56, 0, none⟩)), (164, .bool false), (165, .pointer (some ⟨g1, 7, none⟩)), (166, .string (m.data)), (167, .int .i64 ((m.data.size : Int))), (168, .pointer (some ⟨g56, 2, none⟩))] (fun wx => S wx [Ob g56 (.cells #[.int .i64 (m.i1), .int .i64 (m.i2), .int .i64 ((m.data.size : Int))] 49 (0, 0)), rgI rg c o R R2 a b]) [] (by kernel_rfl) H108 (fun wq109 H110 => ?_)
     have cm17 := H110.mask [true, false, true, false, false, false, false, false]
     refine w_t 0 rfl cm17 (fun _ _ => xm) ?_
     refine w_t 1 rfl cm17 (fun _ _ => xn) ?_
     refine w_t 2 rfl cm17 (fun _ _ => xf (offR o + 5)) ?_
     refine w_t 3 rfl cm17 (fun _ H => x_load1 H 1 rfl rfl Tryz.underlying55 rfl rfl (rgC_o rfl rfl rfl)) ?_
     refine w_t (v := .agg #[.int .i64 (m.i1), .int .i64 (m.i2), .int .i64 ((m.data.size : Int))]) 4 rfl cm17 (fun _ H => x_loadA H 0 rfl rfl Tryz.underlying49 rfl sz49 rfl rfl rfl) ?_
     refine a_one (i := 5) (by kernel_rfl) rfl ?_
     have hfc111 := find_w a R.pw R.cw (blk m) (by omega) wq109 (H110.rwReads (k := 4) rfl)
     rw [show (blk m).n = (m.data.size : Int) from if_pos (by omega)] at hfc111
     refine s_call (wt0 rfl) (x_call' rfl rfl cl26) (hfc111) ?_
     rintro _ wq114 ⟨r112, rfl, hfr113, H115⟩
     replace H115 : S wq114 [Ob g56 (.cells #[.int .i64 (m.i1), .int .i64 (m.i2), .int .i64 ((m.data.size : Int))] 49 (0, 0)), mgI g1 m, rgI rg c o R R2 a b, alR R a, rqI R a, alR R2 b, rqI R2 b, olR w rg c o R R2 a b] := H110.absorb (new := []) H115
     refine b_ret rfl rfl ?_
     have cm18 := H115.mask [true, false, true, false, false, false, false, false]
     refine a_k cm18 ?_
     refine w_t 6 rfl cm18 (fun _ _ => x_bin rfl rfl rfl b_lss) ?_
     refine a_done (by kernel_rfl) ?_
     refine g_then ?_
     refine g_weak [(175, .bool (decide ((r112 : Int) < 0)))] ⟨rfl, trivial⟩ ?_
     by_cases hb116 : (r112 : Int) < 0
     ·
      refine g_cond_t rfl (decide_eq_true hb116) ?_
      refine w_s ?_
      refine w_a ?_
      refine w_e ?_
      refine g_ret ?_
      refine g_in_ret ?_
      refine g_then_ret ?_
      refine fin_ret [.tmp 6] [.int .i64 8] rfl ⟨rfl, trivial⟩ ?_
      have hcb : chB a.wa (blk m) = false := by rcases hfr113 with ⟨q1, q2⟩ | ⟨i, q1, q2, q3, q4⟩ <;> first | exact q2 | (exfalso; omega)
      have hE : stepE c a b m = 8 := by unfold stepE; rw [if_neg (by rw [h1]; simp), if_neg (by rw [h2.1]; simp), if_neg (by rw [h2.2]; simp), if_neg h4, if_neg (by rw [h5]; simp)]; unfold ruleE openB; rw [show (blk m).p = m.i1 from rfl]; simp [hb10, hb61, hb90, hb93, hb116, hcb]
      have hM : mayE c a b m = 8 := by unfold mayE; rw [if_pos hb10, hE]
      exact ⟨by rw [hM]; rfl, (H115.takes [2, 3, 4, 5, 6, 7] (by decide))⟩
     ·
      refine g_cond_f rfl (decide_eq_false hb116) ?_
      refine g_skip ?_
      refine g_in ?_
      refine g_then ?_
      refine w_s ?_
      refine w_a ?_
      refine w_e ?_
      refine g_ret ?_
      refine fin_ret [.tmp 6] [.int .i64 0] rfl ⟨rfl, trivial⟩ ?_
      have hcb : chB a.wa (blk m) = true := by rcases hfr113 with ⟨q1, q2⟩ | ⟨i, q1, q2, q3, q4⟩ <;> first | exact q4 | (exfalso; omega)
      have hE : stepE c a b m = 0 := by unfold stepE; rw [if_neg (by rw [h1]; simp), if_neg (by rw [h2.1]; simp), if_neg (by rw [h2.2]; simp), if_neg h4, if_neg (by rw [h5]; simp)]; unfold ruleE openB; rw [show (blk m).p = m.i1 from rfl]; simp [hb10, hb61, hb90, hb93, hb116, hcb]
      have hM : mayE c a b m = 0 := by unfold mayE; rw [if_pos hb10, hE]
      exact ⟨by rw [hM]; rfl, (H115.takes [2, 3, 4, 5, 6, 7] (by decide))⟩
   ·
    refine g_cond_f rfl (decide_eq_false hb90) ?_
    refine w_s ?_
    refine w_b ?_
    refine w_a ?_
    refine w_e ?_
    by_cases hb117 : (m.kind : Int) = 15
    ·
     refine g_cond_t rfl (decide_eq_true hb117) ?_
     refine g_seq ?_
     refine g_any [(0, .pointer (some ⟨rg, 0, none⟩)), (5, .pointer (some ⟨g1, 0, none⟩)), (7, .pointer (some ⟨rg, offR o, none⟩)), (10, .pointer (some ⟨g56, 0, none⟩)), (110, .int .i64 (m.kind)), (148, .bool (decide ((m.kind : Int) = 9))), (176, .bool (decide ((m.kind : Int) = 15))), (177, .bool (decide ((m.kind : Int) = 15)))] (fun wx => S wx [Ob g56 (.cells #[.int .i64 (m.i1), .int .i64 (m.i2), .int .i64 (m.i3)] 49 (0, 0)), rgI rg c o R R2 a b]) [] (by kernel_rfl) H60 (fun wq118 H119 => ?_)
     have cm19 := H119.mask [true, false, true, false, false, false, false, false]
     refine w_t 0 rfl cm19 (fun _ _ => xm) ?_
     refine w_t 1 rfl cm19 (fun _ _ => xn) ?_
     refine w_t 2 rfl cm19 (fun _ _ => xf (offR o + 5)) ?_
     refine w_t 3 rfl cm19 (fun _ H => x_load1 H 1 rfl rfl Tryz.underlying55 rfl rfl (rgC_o rfl rfl rfl)) ?_
     refine w_t (v := .agg #[.int .i64 (m.i1), .int .i64 (m.i2), .int .i64 (m.i3)]) 4 rfl cm19 (fun _ H => x_loadA H 0 rfl rfl Tryz.underlying49 rfl sz49 rfl rfl rfl) ?_
     refine a_one (i := 5) (by kernel_rfl) rfl ?_
     have hfc120 := find_w a R.pw R.cw (blk m) (by omega) wq118 (H119.rwReads (k := 4) rfl)
     rw [show (blk m).n = m.i3 from if_neg (by omega)] at hfc120
     refine s_call (wt0 rfl) (x_call' rfl rfl cl26) (hfc120) ?_
     rintro _ wq123 ⟨r121, rfl, hfr122, H124⟩
     replace H124 : S wq123 [Ob g56 (.cells #[.int .i64 (m.i1), .int .i64 (m.i2), .int .i64 (m.i3)] 49 (0, 0)), mgI g1 m, rgI rg c o R R2 a b, alR R a, rqI R a, alR R2 b, rqI R2 b, olR w rg c o R R2 a b] := H119.absorb (new := []) H124
     refine b_ret rfl rfl ?_
     have cm20 := H124.mask [true, false, true, false, false, false, false, false]
     refine a_k cm20 ?_
     refine w_t 6 rfl cm20 (fun _ _ => x_bin rfl rfl rfl b_lss) ?_
     refine a_done (by kernel_rfl) ?_
     refine g_then ?_
     refine g_weak [(184, .bool (decide ((r121 : Int) < 0)))] ⟨rfl, trivial⟩ ?_
     by_cases hb125 : (r121 : Int) < 0
     ·
      refine g_cond_t rfl (decide_eq_true hb125) ?_
      refine w_s ?_
      refine w_a ?_
      refine w_e ?_
      refine g_ret ?_
      refine g_in_ret ?_
      refine g_then_ret ?_
      refine fin_ret [.tmp 6] [.int .i64 8] rfl ⟨rfl, trivial⟩ ?_
      have hcb : chB a.wa (blk m) = false := by rcases hfr122 with ⟨q1, q2⟩ | ⟨i, q1, q2, q3, q4⟩ <;> first | exact q2 | (exfalso; omega)
      have hE : stepE c a b m = 8 := by unfold stepE; rw [if_neg (by rw [h1]; simp), if_neg (by rw [h2.1]; simp), if_neg (by rw [h2.2]; simp), if_neg h4, if_neg (by rw [h5]; simp)]; unfold ruleE; simp [hb10, hb61, hb90, hb117, hb125, hcb]
      have hM : mayE c a b m = 8 := by unfold mayE; rw [if_pos hb10, hE]
      exact ⟨by rw [hM]; rfl, (H124.takes [2, 3, 4, 5, 6, 7] (by decide))⟩
     ·
      refine g_cond_f rfl (decide_eq_false hb125) ?_
      refine g_skip ?_
      refine g_in ?_
      refine g_then ?_
      refine w_s ?_
      refine w_a ?_
      refine w_e ?_
      refine g_ret ?_
      refine fin_ret [.tmp 6] [.int .i64 0] rfl ⟨rfl, trivial⟩ ?_
      have hcb : chB a.wa (blk m) = true := by rcases hfr122 with ⟨q1, q2⟩ | ⟨i, q1, q2, q3, q4⟩ <;> first | exact q4 | (exfalso; omega)
      have hE : stepE c a b m = 0 := by unfold stepE; rw [if_neg (by rw [h1]; simp), if_neg (by rw [h2.1]; simp), if_neg (by rw [h2.2]; simp), if_neg h4, if_neg (by rw [h5]; simp)]; unfold ruleE; simp [hb10, hb61, hb90, hb117, hb125, hcb]
      have hM : mayE c a b m = 0 := by unfold mayE; rw [if_pos hb10, hE]
      exact ⟨by rw [hM]; rfl, (H124.takes [2, 3, 4, 5, 6, 7] (by decide))⟩
    ·
     refine g_cond_f rfl (decide_eq_false hb117) ?_
     refine w_s ?_
     refine w_b ?_
     refine w_a ?_
     refine w_e ?_
     by_cases hb126 : (m.kind : Int) = 12
     ·
      refine g_cond_t rfl (decide_eq_true hb126) ?_
      refine w_s ?_
      refine w_r3 ?_
      refine w_1 H60 1 ?_
      refine l_of (s_callK H60 [2, 3, 4, 5, 6] [5, 6, 0, 1, 2, 3, 4, 7] (by decide) rfl (wt0 rfl) (x_call' rfl rfl cl49) (fun _ => hasRR_o rg c o R R2 a b m.i1 hn0 hVa _ (H60.takes [2, 3, 4, 5, 6] (by decide))) (by decide) rfl rfl ?_)
      intro wq127 H129
      refine w_v (v := .bool (!((hasB c.n.toNat a.fd m.i1)))) (x_not (b := (hasB c.n.toNat a.fd m.i1)) rfl rfl) ?_
      refine w_e ?_
      refine g_weak [(192, .bool (!((hasB c.n.toNat a.fd m.i1))))] ⟨rfl, trivial⟩ ?_
      rcases Bool.eq_false_or_eq_true ((hasB c.n.toNat a.fd m.i1)) with hb130 | hb130
      ·
       refine g_cond_f rfl (neg_of hb130) ?_
       refine g_skip ?_
       refine g_in ?_
       refine g_then ?_
       refine w_s ?_
       refine w_a ?_
       refine w_e ?_
       refine g_ret ?_
       refine fin_ret [.tmp 6] [.int .i64 0] rfl ⟨rfl, trivial⟩ ?_
       have hE : stepE c a b m = 0 := by unfold stepE; rw [if_neg (by rw [h1]; simp), if_neg (by rw [h2.1]; simp), if_neg (by rw [h2.2]; simp), if_neg h4, if_neg (by rw [h5]; simp)]; unfold ruleE; simp [hb10, hb61, hb90, hb117, hb126, hb130]
       have hM : mayE c a b m = 0 := by unfold mayE; rw [if_pos hb10, hE]
       exact ⟨by rw [hM]; rfl, (H129.takes [2, 3, 4, 5, 6, 7] (by decide))⟩
      ·
       refine g_cond_t rfl (neg_of hb130) ?_
       refine w_s ?_
       refine w_a ?_
       refine w_e ?_
       refine g_ret ?_
       refine g_in_ret ?_
       refine g_then_ret ?_
       refine fin_ret [.tmp 6] [.int .i64 9] rfl ⟨rfl, trivial⟩ ?_
       have hE : stepE c a b m = 9 := by unfold stepE; rw [if_neg (by rw [h1]; simp), if_neg (by rw [h2.1]; simp), if_neg (by rw [h2.2]; simp), if_neg h4, if_neg (by rw [h5]; simp)]; unfold ruleE; simp [hb10, hb61, hb90, hb117, hb126, hb130]
       have hM : mayE c a b m = 9 := by unfold mayE; rw [if_pos hb10, hE]
       exact ⟨by rw [hM]; rfl, (H129.takes [2, 3, 4, 5, 6, 7] (by decide))⟩
     ·
      refine g_cond_f rfl (decide_eq_false hb126) ?_
      refine g_skip ?_
      refine g_in ?_
      refine g_then ?_
      refine w_s ?_
      refine w_a ?_
      refine w_e ?_
      refine g_ret ?_
      refine fin_ret [.tmp 6] [.int .i64 0] rfl ⟨rfl, trivial⟩ ?_
      have hE : stepE c a b m = 0 := by unfold stepE; rw [if_neg (by rw [h1]; simp), if_neg (by rw [h2.1]; simp), if_neg (by rw [h2.2]; simp), if_neg h4, if_neg (by rw [h5]; simp)]; unfold ruleE; simp [hb10, hb61, hb90, hb117, hb126]
      have hM : mayE c a b m = 0 := by unfold mayE; rw [if_pos hb10, hE]
      exact ⟨by rw [hM]; rfl, (H60.takes [2, 3, 4, 5, 6, 7] (by decide))⟩
 ·
  refine g_cond_t rfl (neg_of hb10) ?_
  refine w_s ?_
  refine w_a ?_
  refine w_e ?_
  refine g_ret ?_
  refine g_then_ret ?_
  refine fin_ret [.tmp 6] [.int .i64 1] rfl ⟨rfl, trivial⟩ ?_
  have hM : mayE c a b m = 1 := by unfold mayE; rw [if_neg (by rw [hb10]; exact Bool.false_ne_true)]
  exact ⟨by rw [hM]; rfl, (H9.takes [1, 2, 3, 4, 5, 6] (by decide))⟩
end Go.Proofs.YtdkfkdekiljcoaaGreat
