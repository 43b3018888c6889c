import Derived.Test.YtdkfkdekiljcoaaTA
set_option linter.unusedSimpArgs false
set_option linter.unusedVariables false
namespace Go.Proofs.Ytdkfkdekiljcoaa
open Go.RowKit

theorem cntT : MapTy Try.prog 31 4 3 Value.bool (fun _ => True) := ⟨Try.underlying31, Go.Maps.bool_keyed Try.underlying4, fun x _ => ⟨_, Go.Maps.keyOf_bool_mk Try.underlying4 x⟩, fun x y _ _ h => by cases h; rfl⟩
theorem look_I {o : Option Int} {v : Int} (h : o.getD 0 = v) : (o.map (Value.int .i64)).getD (.int .i64 0) = .int .i64 v := by
  subst h; cases o <;> rfl
theorem dropS_size {x : Ch} : ∀ {l : List Ch}, l.Nodup → x ∈ l → (dropS l x).length + 1 = l.length
  | [], _, h => absurd h (List.not_mem_nil)
  | y :: r, hn, hx => by
    have hn2 := List.nodup_cons.1 hn
    by_cases e : y = x
    · subst e
      have : dropS (y :: r) y = dropS r y := by unfold dropS; rw [List.filter_cons_of_neg (by simp)]
      rw [this, drop_none hn2.1]; rfl
    · have hr : x ∈ r := (List.mem_cons.1 hx).resolve_left fun h => e h.symm
      have : dropS (y :: r) x = y :: dropS r x := by unfold dropS; rw [List.filter_cons_of_pos (by simp [e])]
      rw [this, List.length_cons, List.length_cons, dropS_size hn2.2 hr]
def ownD (k : Int) : Int := if k = 9 then 1 else if k = 15 then 1 else 0
def peerD (k : Int) : Int := if k = 8 then 1 else 0
theorem rule_ans {c : Co} {a b : Wy} {m : M} (hf : c.ft = true) (hn : a.wa.Nodup) (he : ruleE c a b m = 0) : ((ruleO c a m).wa.length : Int) = a.wa.length - ownD m.kind ∧ ((ruleP c b m).wa.length : Int) = b.wa.length + peerD m.kind := by
  have hd : (m.kind = 9 ∨ m.kind = 15) → (dropS a.wa (blk m)).length + 1 = a.wa.length := fun hk => by
    refine dropS_size hn ?_
    have : chB a.wa (blk m) = true := by
      rcases Bool.eq_false_or_eq_true (chB a.wa (blk m)) with h | h
      · exact h
      · exfalso
        unfold ruleE at he
        rcases hk with hk | hk
        · rw [if_neg (by omega), if_pos hk] at he
          split at he
          · cases he
          · first | (rw [if_pos h] at he; cases he) | cases he
        · rw [if_neg (by omega), if_neg (by omega), if_pos hk, if_pos h] at he; cases he
    exact of_decide_eq_true this
  constructor
  · unfold ruleO ownD
    by_cases h9 : m.kind = 9
    · rw [if_neg (by omega), if_neg (by omega), if_neg (by omega), if_neg (by omega), if_neg (by omega), if_neg (by omega), if_pos (.inl h9), if_pos h9]
      have := hd (.inl h9); show ((dropS a.wa (blk m)).length : Int) = _; omega
    · by_cases h15 : m.kind = 15
      · rw [if_neg (by omega), if_neg (by omega), if_neg (by omega), if_neg (by omega), if_neg (by omega), if_neg (by omega), if_pos (.inr h15), if_neg h9, if_pos h15]
        have := hd (.inr h15); show ((dropS a.wa (blk m)).length : Int) = _; omega
      · rw [if_neg h9, if_neg h15, Int.sub_zero]
        rw [if_neg (show ¬ (m.kind = 9 ∨ m.kind = 15) from fun h => h.elim h9 h15)]
        rw [if_pos hf]
        repeat (split; · rfl)
        split
        · split <;> rfl
        · rfl
  · unfold ruleP peerD
    by_cases h8 : m.kind = 8
    · rw [if_pos h8, if_pos h8, if_neg (by rw [hf]; exact fun h => Bool.noConfusion h.1)]
      show ((b.wa ++ [blk m]).length : Int) = _
      rw [List.length_append]; simp
    · rw [if_neg h8, if_neg h8, Int.add_zero]
      split
      · split
        · rfl
        · first | rfl | (rw [if_pos hf]; rfl)
      · rfl
theorem ruleE_of {c : Co} {a b : Wy} {m : M} (h : stepE c a b m = 0) : ruleE c a b m = 0 := by
  unfold stepE at h
  repeat (split at h; · cases h)
  exact h
theorem ans_len {c : Co} {a b : Wy} {m : M} (hf : c.ft = true) (hn : a.wa.Nodup) (he : mayE c a b m = 0) : ((mayO c a b m).wa.length : Int) = a.wa.length - ownD m.kind ∧ ((mayQ c a b m).wa.length : Int) = b.wa.length + peerD m.kind := by
  unfold mayE at he
  unfold mayO mayQ
  by_cases hv : validP m = true
  · rw [if_pos hv] at he ⊢
    rw [if_pos hv]
    unfold stepO stepP
    rw [if_pos he, if_pos he]
    exact rule_ans hf hn (ruleE_of he)
  · rw [if_neg hv] at he; cases he
set_option maxRecDepth 20000 in
set_option maxHeartbeats 4000000 in
theorem answered_law (n p l q : Int) (ft : Bool) (ls : List Sn) (pl : Option Addr) (cl : Nat) (hm : ls.length ≤ 9223372036854775807) (w : World) (hr : Reads w pl ls.length cl 9 (snV ls)) : Calls Try.prog 3 #[.agg #[.int .i64 n, .int .i64 p, .int .i64 l, .int .i64 q, .bool ft], .slice pl ls.length cl] w fun e w' => e = .returned (.bool true) ∧ S w' [Old w no] := by
 have H0 := S.old w
 refine enter 82 Try.func3 rfl rfl rfl ?_
 refine g_weak [(0, .agg #[.int .i64 n, .int .i64 p, .int .i64 l, .int .i64 q, .bool ft]), (1, .slice pl ls.length cl)] ⟨rfl, rfl, trivial⟩ ?_
 refine w_s ?_
 refine l_of (s_box H0 (wt0 rfl) rfl rfl rfl rfl ?_)
 intro g1 wq2 H3
 refine w_a ?_
 refine w_e ?_
 refine g_seq ?_
 refine w_s ?_
 refine w_m ?_
 refine l_of (s_call (wt0 rfl) (x_call' rfl rfl cl5) (light_s ls pl cl hm _ (H3.oldReads (k := 1) rfl hr)) ?_)
 rintro _ wq4 ⟨bl, rfl, hbl, H5⟩
 replace H5 : S wq4 [Ob g1 (.cells #[.int .i64 n, .int .i64 p, .int .i64 l, .int .i64 q, .bool ft] 23 (0, 0)), Old w no] := H3.absorb (new := []) H5
 refine b_ret rfl rfl ?_
 refine w_v (v := .bool (!bl)) (x_not (b := bl) rfl rfl) ?_
 refine w_e ?_
 rcases Bool.eq_false_or_eq_true (bl) with hb6 | hb6
 ·
  have h60 := hbl hb6
  refine g_cond_f rfl (neg_of hb6) ?_
  refine g_skip ?_
  refine g_then ?_
  refine w_s ?_
  refine w_f 0 ?_
  refine w_1 H5 0 ?_
  refine w_f 1 ?_
  refine w_1 H5 0 ?_
  refine w_f 2 ?_
  refine w_1 H5 0 ?_
  refine w_f 3 ?_
  refine w_1 H5 0 ?_
  by_cases hg : goodU n p l q
  ·
   refine l_of (s_call (wt0 rfl) (x_call' rfl rfl cl7) (newF_ok true hg _) ?_)
   rintro _ wq7 ⟨sg9, B10, B11, rfl, H8⟩
   replace H8 : S wq7 [sgI sg9 (Co.mk n p l q true) true B11 B10 (Wy.new n) (Wy.new n), alI B11 (Wy.new n), waI B11 (Wy.new n), goI B11 (Wy.new n), alI B10 (Wy.new n), waI B10 (Wy.new n), goI B10 (Wy.new n), Ob g1 (.cells #[.int .i64 n, .int .i64 p, .int .i64 l, .int .i64 q, .bool ft] 23 (0, 0)), Old w no] := H5.absorb (new := [sgI sg9 (Co.mk n p l q true) true B11 B10 (Wy.new n) (Wy.new n), alI B11 (Wy.new n), waI B11 (Wy.new n), goI B11 (Wy.new n), alI B10 (Wy.new n), waI B10 (Wy.new n), goI B10 (Wy.new n)]) H8
   have hn : 1 ≤ (Co.mk n p l q true).n ∧ (Co.mk n p l q true).n ≤ 4096 := ⟨hg.1, hg.2.1⟩
   have hw00 : WK (Co.mk n p l q true) 0 (Wy.new n) := WK.new (c := (Co.mk n p l q true)) (show 0 ≤ n ∧ n ≤ 4096 from ⟨by have := hg.1; omega, hg.2.1⟩)
   refine b_ret rfl rfl ?_
   refine w_r5 ?_
   refine w_e ?_
   refine g_weak [(1, .slice pl ls.length cl), (5, .pointer (some ⟨sg9, 0, none⟩)), (6, .int .i64 0)] ⟨rfl, rfl, rfl, trivial⟩ ?_
   refine g_seq ?_
   refine w_s ?_
   refine w_m ?_
   refine w_b (v := .bool (!decide ((0 : Int) = 0))) (hb := b_neq) ?_
   refine w_e ?_
   refine g_cond_f rfl (nf rfl) ?_
   refine g_skip ?_
   refine g_then ?_
   refine w_s ?_
   refine l_of (s_makeMap (α := Int) Value.bool (Value.int .i64) (fun _ => True) H8 (wt0 rfl) rfl rfl rfl ?_)
   intro mg12 wq13 H14
   refine w_a ?_
   refine w_e ?_
   refine g_seq ?_
   refine w_s ?_
   refine w_m ?_
   refine w_v (v := .int .i64 ((ls.length : Int))) (x_lenl rfl rfl Try.underlying24) ?_
   refine w_m ?_
   refine w_e ?_
   refine g_block ?_
   refine g_loop (ι := Nat × Wy × Wy × Ad × Ad × (Bool → Option Int)) (fun (k, a0, a1, A0, A1, M) => [(5, .pointer (some ⟨sg9, 0, none⟩)), (7, .map (some mg12)), (34, .slice pl ls.length cl), (35, .int .i64 ((ls.length : Int))), (36, .int .i64 ((k : Int)))]) (fun (k, a0, a1, A0, A1, M) wx => (k ≤ ls.length) ∧ (WK (Co.mk n p l q true) k a0) ∧ (WK (Co.mk n p l q true) k a1) ∧ ((M false).getD 0 = (a0.wa.length : Int)) ∧ ((M true).getD 0 = (a1.wa.length : Int)) ∧ S wx [sgI sg9 (Co.mk n p l q true) true A1 A0 a1 a0, alI A1 a1, waI A1 a1, goI A1 a1, alI A0 a0, waI A0 a0, goI A0 a0, Mp Value.bool (Value.int .i64) (fun _ => True) mg12 M, Ob g1 (.cells #[.int .i64 n, .int .i64 p, .int .i64 l, .int .i64 q, .bool ft] 23 (0, 0)), Old w no]) (fun (k, a0, a1, A0, A1, M) => ls.length - k) (0, (Wy.new n), (Wy.new n), B10, B11, (fun _ => none)) ⟨rfl, rfl, rfl, rfl, rfl, trivial⟩ ⟨Nat.zero_le _, hw00, hw00, rfl, rfl, (H14.takes [1, 2, 3, 4, 5, 6, 7, 0, 8, 9] (by decide))⟩ ?_
   rintro ⟨k, a0, a1, A0, A1, M⟩ wq15 ⟨hk, hw0, hw1, hF, hT, H16⟩
   refine g_weak [(5, .pointer (some ⟨sg9, 0, none⟩)), (7, .map (some mg12)), (34, .slice pl ls.length cl), (35, .int .i64 ((ls.length : Int))), (36, .int .i64 ((k : Int)))] ⟨rfl, rfl, rfl, rfl, rfl, trivial⟩ ?_
   refine w_s ?_
   refine w_b ?_
   refine w_e ?_
   refine g_seq ?_
   by_cases hb17 : ((k : Int) : Int) < (ls.length : Int)
   ·
    refine g_cond_t rfl (decide_eq_true hb17) ?_
    refine g_skip ?_
    refine g_then ?_
    refine g_seq ?_
    refine g_block ?_
    refine w_s ?_
    refine w_v (v := .pointer ((pl).map fun q => q.add (k * 9))) (x_idxR k (H16.oldReads (k := 9) rfl hr) rfl rfl rfl Try.underlying24 sz35 (by omega)) ?_
    rcases hsn : ls.getD k S0 with ⟨o, m⟩
    cases o
    ·
     refine w_v (v := .agg #[.bool false, .int .i64 (m.kind), .int .i64 (m.i1), .int .i64 (m.i2), .int .i64 (m.i3), .int .i64 (m.i4), .int .i64 (m.i5), .string (m.root), .string (m.data)]) (x_loadRA (vs := snL ⟨false, m⟩) k (H16.oldReads (k := 9) rfl hr) (by omega) rfl rfl Try.underlying35 rfl sz35 (by rfl) (by rw [← hsn]; exact snV_at (by omega))) ?_
     refine l_of (s_alloc H16 (wt0 rfl) rfl rfl rfl ze35 ?_)
     intro g18 wq19 H20
     refine l_of (w_st #[.bool false, .int .i64 (m.kind), .int .i64 (m.i1), .int .i64 (m.i2), .int .i64 (m.i3), .int .i64 (m.i4), .int .i64 (m.i5), .string (m.root), .string (m.data)] H20 0 ?_)
     intro wq21 H22
     refine w_e ?_
     refine g_seq ?_
     refine w_s ?_
     refine w_r2 ?_
     refine w_1 H22 0 ?_
     refine w_f 1 ?_
     refine w_v (v := .agg m.cells) (x_loadA H22 0 rfl rfl Try.underlying33 rfl sz33 rfl rfl rfl) ?_
     have hw25 := hw0.mayO (a := a0) (b := a1) (m := m) hn
     have hw26 := hw1.mayQ (a := a0) (b := a1) (m := m) hn
     refine l_of (s_call (wt0 rfl) (x_call' rfl rfl cl8) (stepF_o sg9 (Co.mk n p l q true) false A0 A1 a0 a1 m hn (hw0.wok (by omega)) (hw1.wok (by omega)) _ (H22.takes [1, 5, 6, 7, 2, 3, 4] (by decide))) ?_)
     rintro _ wq27 ⟨A23, A24, rfl, H28⟩
     replace H28 : S wq27 [sgI sg9 (Co.mk n p l q true) true A24 A23 (mayQ (Co.mk n p l q true) a0 a1 m) (mayO (Co.mk n p l q true) a0 a1 m), alI A23 (mayO (Co.mk n p l q true) a0 a1 m), waI A23 (mayO (Co.mk n p l q true) a0 a1 m), goI A23 (mayO (Co.mk n p l q true) a0 a1 m), alI A24 (mayQ (Co.mk n p l q true) a0 a1 m), waI A24 (mayQ (Co.mk n p l q true) a0 a1 m), goI A24 (mayQ (Co.mk n p l q true) a0 a1 m), Ob g18 (.cells #[.bool false, .int .i64 (m.kind), .int .i64 (m.i1), .int .i64 (m.i2), .int .i64 (m.i3), .int .i64 (m.i4), .int .i64 (m.i5), .string (m.root), .string (m.data)] 35 (0, 0)), Mp Value.bool (Value.int .i64) (fun _ => True) mg12 M, Ob g1 (.cells #[.int .i64 n, .int .i64 p, .int .i64 l, .int .i64 q, .bool ft] 23 (0, 0)), Old w no] := by have h := H22.absorbI [1, 5, 6, 7, 2, 3, 4] H28; exact h
     refine b_ret rfl rfl ?_
     refine w_b (v := .bool (!decide (((mayE (Co.mk n p l q true) a0 a1 m) : Int) = 0))) (hb := b_neq) ?_
     refine w_e ?_
     by_cases hb29 : ((mayE (Co.mk n p l q true) a0 a1 m) : Int) = 0
     ·
      refine g_cond_f rfl (nf hb29) ?_
      refine g_skip ?_
      refine g_then ?_
      refine g_seq ?_
      refine w_s ?_
      refine w_r2 ?_
      refine w_1 H28 7 ?_
      refine w_e ?_
      refine g_weak [(5, .pointer (some ⟨sg9, 0, none⟩)), (7, .map (some mg12)), (9, .pointer (some ⟨g18, 0, none⟩)), (34, .slice pl ls.length cl), (35, .int .i64 ((ls.length : Int))), (36, .int .i64 ((k : Int))), (49, .int .i64 (m.kind))] ⟨rfl, rfl, rfl, rfl, rfl, rfl, rfl, trivial⟩ ?_
      refine g_block ?_
      refine w_s ?_
      refine w_b ?_
      refine w_a ?_
      refine w_e ?_
      by_cases hb30 : (m.kind : Int) = 8
      ·
       refine g_cond_t rfl (decide_eq_true hb30) ?_
       refine g_region ?_
       refine w_r2 ?_
       refine w_1 H28 7 ?_
       refine w_v (v := .bool true) (x_not (b := false) rfl rfl) ?_
       refine w_v (v := .int .i64 ((a1.wa.length : Int))) (ex_cast (x_lookup1 (x := true) cntT H28 8 rfl rfl rfl rfl trivial ze3) (look_I hT)) ?_
       refine w_b (v := .int .i64 ((a1.wa.length : Int) + 1)) (hb := (b_add (w64 (by have h9 := (hw1.wok (by omega)).wa; omega)))) ?_
       refine l_of (s_mapUpdate (x := true) (a := ((a1.wa.length : Int) + 1)) cntT H28 8 (wt0 rfl) rfl rfl rfl rfl rfl rfl trivial ?_)
       intro wq31 H32
       refine g_nil ?_
       refine g_in ?_
       refine g_then ?_
       refine g_seq ?_
       refine g_any [] (fun wx => S wx [sgI sg9 (Co.mk n p l q true) true A24 A23 (mayQ (Co.mk n p l q true) a0 a1 m) (mayO (Co.mk n p l q true) a0 a1 m), alI A23 (mayO (Co.mk n p l q true) a0 a1 m), waI A23 (mayO (Co.mk n p l q true) a0 a1 m), goI A23 (mayO (Co.mk n p l q true) a0 a1 m), alI A24 (mayQ (Co.mk n p l q true) a0 a1 m), waI A24 (mayQ (Co.mk n p l q true) a0 a1 m), goI A24 (mayQ (Co.mk n p l q true) a0 a1 m), Ob g18 (.cells #[.bool false, .int .i64 (m.kind), .int .i64 (m.i1), .int .i64 (m.i2), .int .i64 (m.i3), .int .i64 (m.i4), .int .i64 (m.i5), .string (m.root), .string (m.data)] 35 (0, 0)), Mp Value.bool (Value.int .i64) (fun _ => True) mg12 (upM M true ((a1.wa.length : Int) + 1)), Ob g1 (.cells #[.int .i64 n, .int .i64 p, .int .i64 l, .int .i64 q, .bool ft] 23 (0, 0)), Old w no]) [] (by kernel_rfl) H32 (fun wq33 H34 => ?_)
       refine w_t 0 rfl H34 (fun _ _ => xm) ?_
       obtain ⟨q35, q36⟩ := ans_len (c := (Co.mk n p l q true)) (a := a0) (b := a1) (m := m) rfl hw0.nd hb29
       unfold ownD at q35; unfold peerD at q36
       have hF37 : ((upM M true ((a1.wa.length : Int) + 1)) false).getD 0 = ((mayO (Co.mk n p l q true) a0 a1 m).wa.length : Int) := by
        rw [q35]; try unfold upM
        simp [hF, *]
       have hT38 : ((upM M true ((a1.wa.length : Int) + 1)) true).getD 0 = ((mayQ (Co.mk n p l q true) a0 a1 m).wa.length : Int) := by
        rw [q36]; try unfold upM
        simp [hT, *]
       refine w_t (v := .int .i64 ((mayQ (Co.mk n p l q true) a0 a1 m).wa.length)) 1 rfl H34 (fun _ H => ex_cast (x_lookup1 (x := true) cntT H 8 rfl rfl rfl rfl trivial ze3) (look_I hT38)) ?_
       refine w_t 2 rfl H34 (fun _ _ => xm) ?_
       refine a_one (i := 3) (by kernel_rfl) rfl ?_
       refine s_call (wt0 rfl) (x_call' rfl rfl cl9) (waiting_o sg9 (Co.mk n p l q true) true A24 A23 (mayQ (Co.mk n p l q true) a0 a1 m) (mayO (Co.mk n p l q true) a0 a1 m) (hw26.wok (by omega)).wa _ (H34.takes [0, 4, 5, 6, 1, 2, 3] (by decide))) ?_
       rintro _ wq41 ⟨p39, c40, rfl, H42⟩
       replace H42 : S wq41 [Rw 49 3 p39 (mayQ (Co.mk n p l q true) a0 a1 m).wa.length c40 (chV (mayQ (Co.mk n p l q true) a0 a1 m).wa), sgI sg9 (Co.mk n p l q true) true A24 A23 (mayQ (Co.mk n p l q true) a0 a1 m) (mayO (Co.mk n p l q true) a0 a1 m), alI A24 (mayQ (Co.mk n p l q true) a0 a1 m), waI A24 (mayQ (Co.mk n p l q true) a0 a1 m), goI A24 (mayQ (Co.mk n p l q true) a0 a1 m), alI A23 (mayO (Co.mk n p l q true) a0 a1 m), waI A23 (mayO (Co.mk n p l q true) a0 a1 m), goI A23 (mayO (Co.mk n p l q true) a0 a1 m), Ob g18 (.cells #[.bool false, .int .i64 (m.kind), .int .i64 (m.i1), .int .i64 (m.i2), .int .i64 (m.i3), .int .i64 (m.i4), .int .i64 (m.i5), .string (m.root), .string (m.data)] 35 (0, 0)), Mp Value.bool (Value.int .i64) (fun _ => True) mg12 (upM M true ((a1.wa.length : Int) + 1)), Ob g1 (.cells #[.int .i64 n, .int .i64 p, .int .i64 l, .int .i64 q, .bool ft] 23 (0, 0)), Old w no] := by have h := H34.absorbI [0, 4, 5, 6, 1, 2, 3] H42; exact h
       refine b_ret rfl rfl ?_
       refine a_k (H42.takes [1, 5, 6, 7, 2, 3, 4, 8, 9, 10, 11] (by decide)) ?_
       refine w_t (v := .int .i64 (((mayQ (Co.mk n p l q true) a0 a1 m).wa.length : Int))) 4 rfl (H42.takes [1, 5, 6, 7, 2, 3, 4, 8, 9, 10, 11] (by decide)) (fun _ _ => x_lenl rfl rfl Try.underlying37) ?_
       refine w_t (v := .bool (!decide (((mayQ (Co.mk n p l q true) a0 a1 m).wa.length : Int) = ((mayQ (Co.mk n p l q true) a0 a1 m).wa.length : Int)))) 5 rfl (H42.takes [1, 5, 6, 7, 2, 3, 4, 8, 9, 10, 11] (by decide)) (fun _ _ => x_bin rfl rfl rfl b_neq) ?_
       refine w_t 6 rfl (H42.takes [1, 5, 6, 7, 2, 3, 4, 8, 9, 10, 11] (by decide)) (fun _ _ => xm) ?_
       refine w_tg 7 rfl (nf rfl) (H42.takes [1, 5, 6, 7, 2, 3, 4, 8, 9, 10, 11] (by decide)) (fun _ _ => xm) ?_
       refine w_tg (v := .int .i64 ((mayO (Co.mk n p l q true) a0 a1 m).wa.length)) 8 rfl (nf rfl) (H42.takes [1, 5, 6, 7, 2, 3, 4, 8, 9, 10, 11] (by decide)) (fun _ H => ex_cast (x_lookup1 (x := false) cntT H 8 rfl rfl rfl rfl trivial ze3) (look_I hF37)) ?_
       refine w_tg 9 rfl (nf rfl) (H42.takes [1, 5, 6, 7, 2, 3, 4, 8, 9, 10, 11] (by decide)) (fun _ _ => xm) ?_
       refine a_one (i := 10) (by kernel_rfl) rfl ?_
       refine s_call (wt1 rfl rfl rfl rfl (nf rfl)) (x_call' rfl rfl cl9) (waiting_o sg9 (Co.mk n p l q true) false A23 A24 (mayO (Co.mk n p l q true) a0 a1 m) (mayQ (Co.mk n p l q true) a0 a1 m) (hw25.wok (by omega)).wa _ (H42.takes [1, 5, 6, 7, 2, 3, 4] (by decide))) ?_
       rintro _ wq45 ⟨p43, c44, rfl, H46⟩
       replace H46 : S wq45 [Rw 49 3 p43 (mayO (Co.mk n p l q true) a0 a1 m).wa.length c44 (chV (mayO (Co.mk n p l q true) a0 a1 m).wa), sgI sg9 (Co.mk n p l q true) true A24 A23 (mayQ (Co.mk n p l q true) a0 a1 m) (mayO (Co.mk n p l q true) a0 a1 m), alI A23 (mayO (Co.mk n p l q true) a0 a1 m), waI A23 (mayO (Co.mk n p l q true) a0 a1 m), goI A23 (mayO (Co.mk n p l q true) a0 a1 m), alI A24 (mayQ (Co.mk n p l q true) a0 a1 m), waI A24 (mayQ (Co.mk n p l q true) a0 a1 m), goI A24 (mayQ (Co.mk n p l q true) a0 a1 m), Rw 49 3 p39 (mayQ (Co.mk n p l q true) a0 a1 m).wa.length c40 (chV (mayQ (Co.mk n p l q true) a0 a1 m).wa), Ob g18 (.cells #[.bool false, .int .i64 (m.kind), .int .i64 (m.i1), .int .i64 (m.i2), .int .i64 (m.i3), .int .i64 (m.i4), .int .i64 (m.i5), .string (m.root), .string (m.data)] 35 (0, 0)), Mp Value.bool (Value.int .i64) (fun _ => True) mg12 (upM M true ((a1.wa.length : Int) + 1)), Ob g1 (.cells #[.int .i64 n, .int .i64 p, .int .i64 l, .int .i64 q, .bool ft] 23 (0, 0)), Old w no] := by have h := H42.absorbI [1, 5, 6, 7, 2, 3, 4] H46; exact h
       refine b_ret rfl rfl ?_
       have cm1 := H46.mask [false, true, true, true, true, true, true, true, false, true, true, true, true]
       refine a_k cm1 ?_
       refine w_tg (v := .int .i64 (((mayO (Co.mk n p l q true) a0 a1 m).wa.length : Int))) 11 rfl (nf rfl) cm1 (fun _ _ => x_lenl rfl rfl Try.underlying37) ?_
       refine w_tg (v := .bool (!decide (((mayO (Co.mk n p l q true) a0 a1 m).wa.length : Int) = ((mayO (Co.mk n p l q true) a0 a1 m).wa.length : Int)))) 12 rfl (nf rfl) cm1 (fun _ _ => x_bin rfl rfl rfl b_neq) ?_
       refine w_t (v := .bool (!decide (((mayO (Co.mk n p l q true) a0 a1 m).wa.length : Int) = ((mayO (Co.mk n p l q true) a0 a1 m).wa.length : Int)))) 13 rfl cm1 (fun _ _ => x_pick_f rfl rfl (nf rfl) rfl) ?_
       refine a_done (by kernel_rfl) ?_
       refine g_then ?_
       refine g_weak [(5, .pointer (some ⟨sg9, 0, none⟩)), (7, .map (some mg12)), (34, .slice pl ls.length cl), (35, .int .i64 ((ls.length : Int))), (36, .int .i64 ((k : Int))), (73, .map (some mg12)), (74, .int .i64 ((mayO (Co.mk n p l q true) a0 a1 m).wa.length)), (75, .pointer (some ⟨sg9, 0, none⟩)), (76, .slice p43 (mayO (Co.mk n p l q true) a0 a1 m).wa.length c44), (77, .int .i64 (((mayO (Co.mk n p l q true) a0 a1 m).wa.length : Int))), (78, .bool (!decide (((mayO (Co.mk n p l q true) a0 a1 m).wa.length : Int) = ((mayO (Co.mk n p l q true) a0 a1 m).wa.length : Int)))), (79, .bool (!decide (((mayO (Co.mk n p l q true) a0 a1 m).wa.length : Int) = ((mayO (Co.mk n p l q true) a0 a1 m).wa.length : Int))))] ⟨rfl, rfl, rfl, rfl, rfl, rfl, rfl, rfl, rfl, rfl, rfl, rfl, trivial⟩ ?_
       refine g_cond_f rfl (nf rfl) ?_
       refine g_skip ?_
       refine g_in ?_
       refine g_then ?_
       refine g_region ?_
       refine w_b (v := .int .i64 ((k : Int) + 1)) (hb := (b_add (w64 (by omega)))) ?_
       refine w_m ?_
       refine w_e ?_
       refine g_round (i := (k, a0, a1, A0, A1, M)) ((k + 1), (mayO (Co.mk n p l q true) a0 a1 m), (mayQ (Co.mk n p l q true) a0 a1 m), A23, A24, (upM M true ((a1.wa.length : Int) + 1))) ?_ ?_ ?_
       · exact ⟨rfl, rfl, rfl, rfl, rfl, trivial⟩
       · exact ⟨by omega, hw25, hw26, hF37, hT38, (H46.takes [1, 5, 6, 7, 2, 3, 4, 10, 11, 12] (by decide))⟩
       · (try dsimp only); omega
      ·
       refine g_cond_f rfl (decide_eq_false hb30) ?_
       refine g_seq ?_
       refine w_s ?_
       refine w_b ?_
       refine w_a ?_
       refine w_e ?_
       by_cases hb47 : (m.kind : Int) = 9
       ·
        refine g_cond_t rfl (decide_eq_true hb47) ?_
        refine g_skip ?_
        refine g_then ?_
        refine g_cond_t rfl (decide_eq_true hb47) ?_
        refine g_region ?_
        refine w_r2 ?_
        refine w_1 H28 7 ?_
        refine w_v (v := .int .i64 ((a0.wa.length : Int))) (ex_cast (x_lookup1 (x := false) cntT H28 8 rfl rfl rfl rfl trivial ze3) (look_I hF)) ?_
        refine w_b (v := .int .i64 ((a0.wa.length : Int) - 1)) (hb := (b_sub (w64 (by have h9 := (hw0.wok (by omega)).wa; omega)))) ?_
        refine l_of (s_mapUpdate (x := false) (a := ((a0.wa.length : Int) - 1)) cntT H28 8 (wt0 rfl) rfl rfl rfl rfl rfl rfl trivial ?_)
        intro wq48 H49
        refine g_nil ?_
        refine g_in ?_
        refine g_then ?_
        refine g_seq ?_
        refine g_any [] (fun wx => S wx [sgI sg9 (Co.mk n p l q true) true A24 A23 (mayQ (Co.mk n p l q true) a0 a1 m) (mayO (Co.mk n p l q true) a0 a1 m), alI A23 (mayO (Co.mk n p l q true) a0 a1 m), waI A23 (mayO (Co.mk n p l q true) a0 a1 m), goI A23 (mayO (Co.mk n p l q true) a0 a1 m), alI A24 (mayQ (Co.mk n p l q true) a0 a1 m), waI A24 (mayQ (Co.mk n p l q true) a0 a1 m), goI A24 (mayQ (Co.mk n p l q true) a0 a1 m), Ob g18 (.cells #[.bool false, .int .i64 (m.kind), .int .i64 (m.i1), .int .i64 (m.i2), .int .i64 (m.i3), .int .i64 (m.i4), .int .i64 (m.i5), .string (m.root), .string (m.data)] 35 (0, 0)), Mp Value.bool (Value.int .i64) (fun _ => True) mg12 (upM M false ((a0.wa.length : Int) - 1)), Ob g1 (.cells #[.int .i64 n, .int .i64 p, .int .i64 l, .int .i64 q, .bool ft] 23 (0, 0)), Old w no]) [] (by kernel_rfl) H49 (fun wq50 H51 => ?_)
        refine w_t 0 rfl H51 (fun _ _ => xm) ?_
        obtain ⟨q52, q53⟩ := ans_len (c := (Co.mk n p l q true)) (a := a0) (b := a1) (m := m) rfl hw0.nd hb29
        unfold ownD at q52; unfold peerD at q53
        have hF54 : ((upM M false ((a0.wa.length : Int) - 1)) false).getD 0 = ((mayO (Co.mk n p l q true) a0 a1 m).wa.length : Int) := by
         rw [q52]; try unfold upM
         simp [hF, *]
        have hT55 : ((upM M false ((a0.wa.length : Int) - 1)) true).getD 0 = ((mayQ (Co.mk n p l q true) a0 a1 m).wa.length : Int) := by
         rw [q53]; try unfold upM
         simp [hT, *]
        refine w_t (v := .int .i64 ((mayQ (Co.mk n p l q true) a0 a1 m).wa.length)) 1 rfl H51 (fun _ H => ex_cast (x_lookup1 (x := true) cntT H 8 rfl rfl rfl rfl trivial ze3) (look_I hT55)) ?_
        refine w_t 2 rfl H51 (fun _ _ => xm) ?_
        refine a_one (i := 3) (by kernel_rfl) rfl ?_
        refine s_call (wt0 rfl) (x_call' rfl rfl cl9) (waiting_o sg9 (Co.mk n p l q true) true A24 A23 (mayQ (Co.mk n p l q true) a0 a1 m) (mayO (Co.mk n p l q true) a0 a1 m) (hw26.wok (by omega)).wa _ (H51.takes [0, 4, 5, 6, 1, 2, 3] (by decide))) ?_
        rintro _ wq58 ⟨p56, c57, rfl, H59⟩
        replace H59 : S wq58 [Rw 49 3 p56 (mayQ (Co.mk n p l q true) a0 a1 m).wa.length c57 (chV (mayQ (Co.mk n p l q true) a0 a1 m).wa), sgI sg9 (Co.mk n p l q true) true A24 A23 (mayQ (Co.mk n p l q true) a0 a1 m) (mayO (Co.mk n p l q true) a0 a1 m), alI A24 (mayQ (Co.mk n p l q true) a0 a1 m), waI A24 (mayQ (Co.mk n p l q true) a0 a1 m), goI A24 (mayQ (Co.mk n p l q true) a0 a1 m), alI A23 (mayO (Co.mk n p l q true) a0 a1 m), waI A23 (mayO (Co.mk n p l q true) a0 a1 m), goI A23 (mayO (Co.mk n p l q true) a0 a1 m), Ob g18 (.cells #[.bool false, .int .i64 (m.kind), .int .i64 (m.i1), .int .i64 (m.i2), .int .i64 (m.i3), .int .i64 (m.i4), .int .i64 (m.i5), .string (m.root), .string (m.data)] 35 (0, 0)), Mp Value.bool (Value.int .i64) (fun _ => True) mg12 (upM M false ((a0.wa.length : Int) - 1)), Ob g1 (.cells #[.int .i64 n, .int .i64 p, .int .i64 l, .int .i64 q, .bool ft] 23 (0, 0)), Old w no] := by have h := H51.absorbI [0, 4, 5, 6, 1, 2, 3] H59; exact h
        refine b_ret rfl rfl ?_
        refine a_k (H59.takes [1, 5, 6, 7, 2, 3, 4, 8, 9, 10, 11] (by decide)) ?_
        refine w_t (v := .int .i64 (((mayQ (Co.mk n p l q true) a0 a1 m).wa.length : Int))) 4 rfl (H59.takes [1, 5, 6, 7, 2, 3, 4, 8, 9, 10, 11] (by decide)) (fun _ _ => x_lenl rfl rfl Try.underlying37) ?_
        refine w_t (v := .bool (!decide (((mayQ (Co.mk n p l q true) a0 a1 m).wa.length : Int) = ((mayQ (Co.mk n p l q true) a0 a1 m).wa.length : Int)))) 5 rfl (H59.takes [1, 5, 6, 7, 2, 3, 4, 8, 9, 10, 11] (by decide)) (fun _ _ => x_bin rfl rfl rfl b_neq) ?_
        refine w_t 6 rfl (H59.takes [1, 5, 6, 7, 2, 3, 4, 8, 9, 10, 11] (by decide)) (fun _ _ => xm) ?_
        refine w_tg 7 rfl (nf rfl) (H59.takes [1, 5, 6, 7, 2, 3, 4, 8, 9, 10, 11] (by decide)) (fun _ _ => xm) ?_
        refine w_tg (v := .int .i64 ((mayO (Co.mk n p l q true) a0 a1 m).wa.length)) 8 rfl (nf rfl) (H59.takes [1, 5, 6, 7, 2, 3, 4, 8, 9, 10, 11] (by decide)) (fun _ H => ex_cast (x_lookup1 (x := false) cntT H 8 rfl rfl rfl rfl trivial ze3) (look_I hF54)) ?_
        refine w_tg 9 rfl (nf rfl) (H59.takes [1, 5, 6, 7, 2, 3, 4, 8, 9, 10, 11] (by decide)) (fun _ _ => xm) ?_
        refine a_one (i := 10) (by kernel_rfl) rfl ?_
        refine s_call (wt1 rfl rfl rfl rfl (nf rfl)) (x_call' rfl rfl cl9) (waiting_o sg9 (Co.mk n p l q true) false A23 A24 (mayO (Co.mk n p l q true) a0 a1 m) (mayQ (Co.mk n p l q true) a0 a1 m) (hw25.wok (by omega)).wa _ (H59.takes [1, 5, 6, 7, 2, 3, 4] (by decide))) ?_
        rintro _ wq62 ⟨p60, c61, rfl, H63⟩
        replace H63 : S wq62 [Rw 49 3 p60 (mayO (Co.mk n p l q true) a0 a1 m).wa.length c61 (chV (mayO (Co.mk n p l q true) a0 a1 m).wa), sgI sg9 (Co.mk n p l q true) true A24 A23 (mayQ (Co.mk n p l q true) a0 a1 m) (mayO (Co.mk n p l q true) a0 a1 m), alI A23 (mayO (Co.mk n p l q true) a0 a1 m), waI A23 (mayO (Co.mk n p l q true) a0 a1 m), goI A23 (mayO (Co.mk n p l q true) a0 a1 m), alI A24 (mayQ (Co.mk n p l q true) a0 a1 m), waI A24 (mayQ (Co.mk n p l q true) a0 a1 m), goI A24 (mayQ (Co.mk n p l q true) a0 a1 m), Rw 49 3 p56 (mayQ (Co.mk n p l q true) a0 a1 m).wa.length c57 (chV (mayQ (Co.mk n p l q true) a0 a1 m).wa), Ob g18 (.cells #[.bool false, .int .i64 (m.kind), .int .i64 (m.i1), .int .i64 (m.i2), .int .i64 (m.i3), .int .i64 (m.i4), .int .i64 (m.i5), .string (m.root), .string (m.data)] 35 (0, 0)), Mp Value.bool (Value.int .i64) (fun _ => True) mg12 (upM M false ((a0.wa.length : Int) - 1)), Ob g1 (.cells #[.int .i64 n, .int .i64 p, .int .i64 l, .int .i64 q, .bool ft] 23 (0, 0)), Old w no] := by have h := H59.absorbI [1, 5, 6, 7, 2, 3, 4] H63; exact h
        refine b_ret rfl rfl ?_
        have cm2 := H63.mask [false, true, true, true, true, true, true, true, false, true, true, true, true]
        refine a_k cm2 ?_
        refine w_tg (v := .int .i64 (((mayO (Co.mk n p l q true) a0 a1 m).wa.length : Int))) 11 rfl (nf rfl) cm2 (fun _ _ => x_lenl rfl rfl Try.underlying37) ?_
        refine w_tg (v := .bool (!decide (((mayO (Co.mk n p l q true) a0 a1 m).wa.length : Int) = ((mayO (Co.mk n p l q true) a0 a1 m).wa.length : Int)))) 12 rfl (nf rfl) cm2 (fun _ _ => x_bin rfl rfl rfl b_neq) ?_
        refine w_t (v := .bool (!decide (((mayO (Co.mk n p l q true) a0 a1 m).wa.length : Int) = ((mayO (Co.mk n p l q true) a0 a1 m).wa.length : Int)))) 13 rfl cm2 (fun _ _ => x_pick_f rfl rfl (nf rfl) rfl) ?_
        refine a_done (by kernel_rfl) ?_
        refine g_then ?_
        refine g_weak [(5, .pointer (some ⟨sg9, 0, none⟩)), (7, .map (some mg12)), (34, .slice pl ls.length cl), (35, .int .i64 ((ls.length : Int))), (36, .int .i64 ((k : Int))), (73, .map (some mg12)), (74, .int .i64 ((mayO (Co.mk n p l q true) a0 a1 m).wa.length)), (75, .pointer (some ⟨sg9, 0, none⟩)), (76, .slice p60 (mayO (Co.mk n p l q true) a0 a1 m).wa.length c61), (77, .int .i64 (((mayO (Co.mk n p l q true) a0 a1 m).wa.length : Int))), (78, .bool (!decide (((mayO (Co.mk n p l q true) a0 a1 m).wa.length : Int) = ((mayO (Co.mk n p l q true) a0 a1 m).wa.length : Int)))), (79, .bool (!decide (((mayO (Co.mk n p l q true) a0 a1 m).wa.length : Int) = ((mayO (Co.mk n p l q true) a0 a1 m).wa.length : Int))))] ⟨rfl, rfl, rfl, rfl, rfl, rfl, rfl, rfl, rfl, rfl, rfl, rfl, trivial⟩ ?_
        refine g_cond_f rfl (nf rfl) ?_
        refine g_skip ?_
        refine g_in ?_
        refine g_then ?_
        refine g_region ?_
        refine w_b (v := .int .i64 ((k : Int) + 1)) (hb := (b_add (w64 (by omega)))) ?_
        refine w_m ?_
        refine w_e ?_
        refine g_round (i := (k, a0, a1, A0, A1, M)) ((k + 1), (mayO (Co.mk n p l q true) a0 a1 m), (mayQ (Co.mk n p l q true) a0 a1 m), A23, A24, (upM M false ((a0.wa.length : Int) - 1))) ?_ ?_ ?_
        · exact ⟨rfl, rfl, rfl, rfl, rfl, trivial⟩
        · exact ⟨by omega, hw25, hw26, hF54, hT55, (H63.takes [1, 5, 6, 7, 2, 3, 4, 10, 11, 12] (by decide))⟩
        · (try dsimp only); omega
       ·
        refine g_cond_f rfl (decide_eq_false hb47) ?_
        refine g_region ?_
        refine w_b ?_
        refine w_a ?_
        refine w_e ?_
        by_cases hb64 : (m.kind : Int) = 15
        ·
         refine g_cond_t rfl (decide_eq_true hb64) ?_
         refine g_region ?_
         refine w_r2 ?_
         refine w_1 H28 7 ?_
         refine w_v (v := .int .i64 ((a0.wa.length : Int))) (ex_cast (x_lookup1 (x := false) cntT H28 8 rfl rfl rfl rfl trivial ze3) (look_I hF)) ?_
         refine w_b (v := .int .i64 ((a0.wa.length : Int) - 1)) (hb := (b_sub (w64 (by have h9 := (hw0.wok (by omega)).wa; omega)))) ?_
         refine l_of (s_mapUpdate (x := false) (a := ((a0.wa.length : Int) - 1)) cntT H28 8 (wt0 rfl) rfl rfl rfl rfl rfl rfl trivial ?_)
         intro wq65 H66
         refine g_nil ?_
         refine g_in ?_
         refine g_then ?_
         refine g_weak [(5, .pointer (some ⟨sg9, 0, none⟩)), (7, .map (some mg12)), (34, .slice pl ls.length cl), (35, .int .i64 ((ls.length : Int))), (36, .int .i64 ((k : Int)))] ⟨rfl, rfl, rfl, rfl, rfl, trivial⟩ ?_
         refine g_seq ?_
         refine g_any [] (fun wx => S wx [sgI sg9 (Co.mk n p l q true) true A24 A23 (mayQ (Co.mk n p l q true) a0 a1 m) (mayO (Co.mk n p l q true) a0 a1 m), alI A23 (mayO (Co.mk n p l q true) a0 a1 m), waI A23 (mayO (Co.mk n p l q true) a0 a1 m), goI A23 (mayO (Co.mk n p l q true) a0 a1 m), alI A24 (mayQ (Co.mk n p l q true) a0 a1 m), waI A24 (mayQ (Co.mk n p l q true) a0 a1 m), goI A24 (mayQ (Co.mk n p l q true) a0 a1 m), Ob g18 (.cells #[.bool false, .int .i64 (m.kind), .int .i64 (m.i1), .int .i64 (m.i2), .int .i64 (m.i3), .int .i64 (m.i4), .int .i64 (m.i5), .string (m.root), .string (m.data)] 35 (0, 0)), Mp Value.bool (Value.int .i64) (fun _ => True) mg12 (upM M false ((a0.wa.length : Int) - 1)), Ob g1 (.cells #[.int .i64 n, .int .i64 p, .int .i64 l, .int .i64 q, .bool ft] 23 (0, 0)), Old w no]) [] (by kernel_rfl) H66 (fun wq67 H68 => ?_)
         refine w_t 0 rfl H68 (fun _ _ => xm) ?_
         obtain ⟨q69, q70⟩ := ans_len (c := (Co.mk n p l q true)) (a := a0) (b := a1) (m := m) rfl hw0.nd hb29
         unfold ownD at q69; unfold peerD at q70
         have hF71 : ((upM M false ((a0.wa.length : Int) - 1)) false).getD 0 = ((mayO (Co.mk n p l q true) a0 a1 m).wa.length : Int) := by
          rw [q69]; try unfold upM
          simp [hF, *]
         have hT72 : ((upM M false ((a0.wa.length : Int) - 1)) true).getD 0 = ((mayQ (Co.mk n p l q true) a0 a1 m).wa.length : Int) := by
          rw [q70]; try unfold upM
          simp [hT, *]
         refine w_t (v := .int .i64 ((mayQ (Co.mk n p l q true) a0 a1 m).wa.length)) 1 rfl H68 (fun _ H => ex_cast (x_lookup1 (x := true) cntT H 8 rfl rfl rfl rfl trivial ze3) (look_I hT72)) ?_
         refine w_t 2 rfl H68 (fun _ _ => xm) ?_
         refine a_one (i := 3) (by kernel_rfl) rfl ?_
         refine s_call (wt0 rfl) (x_call' rfl rfl cl9) (waiting_o sg9 (Co.mk n p l q true) true A24 A23 (mayQ (Co.mk n p l q true) a0 a1 m) (mayO (Co.mk n p l q true) a0 a1 m) (hw26.wok (by omega)).wa _ (H68.takes [0, 4, 5, 6, 1, 2, 3] (by decide))) ?_
         rintro _ wq75 ⟨p73, c74, rfl, H76⟩
         replace H76 : S wq75 [Rw 49 3 p73 (mayQ (Co.mk n p l q true) a0 a1 m).wa.length c74 (chV (mayQ (Co.mk n p l q true) a0 a1 m).wa), sgI sg9 (Co.mk n p l q true) true A24 A23 (mayQ (Co.mk n p l q true) a0 a1 m) (mayO (Co.mk n p l q true) a0 a1 m), alI A24 (mayQ (Co.mk n p l q true) a0 a1 m), waI A24 (mayQ (Co.mk n p l q true) a0 a1 m), goI A24 (mayQ (Co.mk n p l q true) a0 a1 m), alI A23 (mayO (Co.mk n p l q true) a0 a1 m), waI A23 (mayO (Co.mk n p l q true) a0 a1 m), goI A23 (mayO (Co.mk n p l q true) a0 a1 m), Ob g18 (.cells #[.bool false, .int .i64 (m.kind), .int .i64 (m.i1), .int .i64 (m.i2), .int .i64 (m.i3), .int .i64 (m.i4), .int .i64 (m.i5), .string (m.root), .string (m.data)] 35 (0, 0)), Mp Value.bool (Value.int .i64) (fun _ => True) mg12 (upM M false ((a0.wa.length : Int) - 1)), Ob g1 (.cells #[.int .i64 n, .int .i64 p, .int .i64 l, .int .i64 q, .bool ft] 23 (0, 0)), Old w no] := by have h := H68.absorbI [0, 4, 5, 6, 1, 2, 3] H76; exact h
         refine b_ret rfl rfl ?_
         refine a_k (H76.takes [1, 5, 6, 7, 2, 3, 4, 8, 9, 10, 11] (by decide)) ?_
         refine w_t (v := .int .i64 (((mayQ (Co.mk n p l q true) a0 a1 m).wa.length : Int))) 4 rfl (H76.takes [1, 5, 6, 7, 2, 3, 4, 8, 9, 10, 11] (by decide)) (fun _ _ => x_lenl rfl rfl Try.underlying37) ?_
         refine w_t (v := .bool (!decide (((mayQ (Co.mk n p l q true) a0 a1 m).wa.length : Int) = ((mayQ (Co.mk n p l q true) a0 a1 m).wa.length : Int)))) 5 rfl (H76.takes [1, 5, 6, 7, 2, 3, 4, 8, 9, 10, 11] (by decide)) (fun _ _ => x_bin rfl rfl rfl b_neq) ?_
         refine w_t 6 rfl (H76.takes [1, 5, 6, 7, 2, 3, 4, 8, 9, 10, 11] (by decide)) (fun _ _ => xm) ?_
         refine w_tg 7 rfl (nf rfl) (H76.takes [1, 5, 6, 7, 2, 3, 4, 8, 9, 10, 11] (by decide)) (fun _ _ => xm) ?_
         refine w_tg (v := .int .i64 ((mayO (Co.mk n p l q true) a0 a1 m).wa.length)) 8 rfl (nf rfl) (H76.takes [1, 5, 6, 7, 2, 3, 4, 8, 9, 10, 11] (by decide)) (fun _ H => ex_cast (x_lookup1 (x := false) cntT H 8 rfl rfl rfl rfl trivial ze3) (look_I hF71)) ?_
         refine w_tg 9 rfl (nf rfl) (H76.takes [1, 5, 6, 7, 2, 3, 4, 8, 9, 10, 11] (by decide)) (fun _ _ => xm) ?_
         refine a_one (i := 10) (by kernel_rfl) rfl ?_
         refine s_call (wt1 rfl rfl rfl rfl (nf rfl)) (x_call' rfl rfl cl9) (waiting_o sg9 (Co.mk n p l q true) false A23 A24 (mayO (Co.mk n p l q true) a0 a1 m) (mayQ (Co.mk n p l q true) a0 a1 m) (hw25.wok (by omega)).wa _ (H76.takes [1, 5, 6, 7, 2, 3, 4] (by decide))) ?_
         rintro _ wq79 ⟨p77, c78, rfl, H80⟩
         replace H80 : S wq79 [Rw 49 3 p77 (mayO (Co.mk n p l q true) a0 a1 m).wa.length c78 (chV (mayO (Co.mk n p l q true) a0 a1 m).wa), sgI sg9 (Co.mk n p l q true) true A24 A23 (mayQ (Co.mk n p l q true) a0 a1 m) (mayO (Co.mk n p l q true) a0 a1 m), alI A23 (mayO (Co.mk n p l q true) a0 a1 m), waI A23 (mayO (Co.mk n p l q true) a0 a1 m), goI A23 (mayO (Co.mk n p l q true) a0 a1 m), alI A24 (mayQ (Co.mk n p l q true) a0 a1 m), waI A24 (mayQ (Co.mk n p l q true) a0 a1 m), goI A24 (mayQ (Co.mk n p l q true) a0 a1 m), Rw 49 3 p73 (mayQ (Co.mk n p l q true) a0 a1 m).wa.length c74 (chV (mayQ (Co.mk n p l q true) a0 a1 m).wa), Ob g18 (.cells #[.bool false, .int .i64 (m.kind), .int .i64 (m.i1), .int .i64 (m.i2), .int .i64 (m.i3), .int .i64 (m.i4), .int .i64 (m.i5), .string (m.root), .string (m.data)] 35 (0, 0)), Mp Value.bool (Value.int .i64) (fun _ => True) mg12 (upM M false ((a0.wa.length : Int) - 1)), Ob g1 (.cells #[.int .i64 n, .int .i64 p, .int .i64 l, .int .i64 q, .bool ft] 23 (0, 0)), Old w no] := by have h := H76.absorbI [1, 5, 6, 7, 2, 3, 4] H80; exact h
         refine b_ret rfl rfl ?_
         have cm3 := H80.mask [false, true, true, true, true, true, true, true, false, true, true, true, true]
         refine a_k cm3 ?_
         refine w_tg (v := .int .i64 (((mayO (Co.mk n p l q true) a0 a1 m).wa.length : Int))) 11 rfl (nf rfl) cm3 (fun _ _ => x_lenl rfl rfl Try.underlying37) ?_
         refine w_tg (v := .bool (!decide (((mayO (Co.mk n p l q true) a0 a1 m).wa.length : Int) = ((mayO (Co.mk n p l q true) a0 a1 m).wa.length : Int)))) 12 rfl (nf rfl) cm3 (fun _ _ => x_bin rfl rfl rfl b_neq) ?_
         refine w_t (v := .bool (!decide (((mayO (Co.mk n p l q true) a0 a1 m).wa.length : Int) = ((mayO (Co.mk n p l q true) a0 a1 m).wa.length : Int)))) 13 rfl cm3 (fun _ _ => x_pick_f rfl rfl (nf rfl) rfl) ?_
         refine a_done (by kernel_rfl) ?_
         refine g_then ?_
         refine g_cond_f rfl (nf rfl) ?_
         refine g_skip ?_
         refine g_in ?_
         refine g_then ?_
         refine g_region ?_
         refine w_b (v := .int .i64 ((k : Int) + 1)) (hb := (b_add (w64 (by omega)))) ?_
         refine w_m ?_
         refine w_e ?_
         refine g_round (i := (k, a0, a1, A0, A1, M)) ((k + 1), (mayO (Co.mk n p l q true) a0 a1 m), (mayQ (Co.mk n p l q true) a0 a1 m), A23, A24, (upM M false ((a0.wa.length : Int) - 1))) ?_ ?_ ?_
         · exact ⟨rfl, rfl, rfl, rfl, rfl, trivial⟩
         · exact ⟨by omega, hw25, hw26, hF71, hT72, (H80.takes [1, 5, 6, 7, 2, 3, 4, 10, 11, 12] (by decide))⟩
         · (try dsimp only); omega
        ·
         refine g_cond_f rfl (decide_eq_false hb64) ?_
         refine g_skip ?_
         refine g_in ?_
         refine g_then ?_
         refine g_seq ?_
         refine g_any [] (fun wx => S wx [sgI sg9 (Co.mk n p l q true) true A24 A23 (mayQ (Co.mk n p l q true) a0 a1 m) (mayO (Co.mk n p l q true) a0 a1 m), alI A23 (mayO (Co.mk n p l q true) a0 a1 m), waI A23 (mayO (Co.mk n p l q true) a0 a1 m), goI A23 (mayO (Co.mk n p l q true) a0 a1 m), alI A24 (mayQ (Co.mk n p l q true) a0 a1 m), waI A24 (mayQ (Co.mk n p l q true) a0 a1 m), goI A24 (mayQ (Co.mk n p l q true) a0 a1 m), Ob g18 (.cells #[.bool false, .int .i64 (m.kind), .int .i64 (m.i1), .int .i64 (m.i2), .int .i64 (m.i3), .int .i64 (m.i4), .int .i64 (m.i5), .string (m.root), .string (m.data)] 35 (0, 0)), Mp Value.bool (Value.int .i64) (fun _ => True) mg12 M, Ob g1 (.cells #[.int .i64 n, .int .i64 p, .int .i64 l, .int .i64 q, .bool ft] 23 (0, 0)), Old w no]) [] (by kernel_rfl) H28 (fun wq81 H82 => ?_)
         refine w_t 0 rfl H82 (fun _ _ => xm) ?_
         obtain ⟨q83, q84⟩ := ans_len (c := (Co.mk n p l q true)) (a := a0) (b := a1) (m := m) rfl hw0.nd hb29
         unfold ownD at q83; unfold peerD at q84
         have hF85 : (M false).getD 0 = ((mayO (Co.mk n p l q true) a0 a1 m).wa.length : Int) := by
          rw [q83]; try unfold upM
          simp [hF, *]
         have hT86 : (M true).getD 0 = ((mayQ (Co.mk n p l q true) a0 a1 m).wa.length : Int) := by
          rw [q84]; try unfold upM
          simp [hT, *]
         refine w_t (v := .int .i64 ((mayQ (Co.mk n p l q true) a0 a1 m).wa.length)) 1 rfl H82 (fun _ H => ex_cast (x_lookup1 (x := true) cntT H 8 rfl rfl rfl rfl trivial ze3) (look_I hT86)) ?_
         refine w_t 2 rfl H82 (fun _ _ => xm) ?_
         refine a_one (i := 3) (by kernel_rfl) rfl ?_
         refine s_call (wt0 rfl) (x_call' rfl rfl cl9) (waiting_o sg9 (Co.mk n p l q true) true A24 A23 (mayQ (Co.mk n p l q true) a0 a1 m) (mayO (Co.mk n p l q true) a0 a1 m) (hw26.wok (by omega)).wa _ (H82.takes [0, 4, 5, 6, 1, 2, 3] (by decide))) ?_
         rintro _ wq89 ⟨p87, c88, rfl, H90⟩
         replace H90 : S wq89 [Rw 49 3 p87 (mayQ (Co.mk n p l q true) a0 a1 m).wa.length c88 (chV (mayQ (Co.mk n p l q true) a0 a1 m).wa), sgI sg9 (Co.mk n p l q true) true A24 A23 (mayQ (Co.mk n p l q true) a0 a1 m) (mayO (Co.mk n p l q true) a0 a1 m), alI A24 (mayQ (Co.mk n p l q true) a0 a1 m), waI A24 (mayQ (Co.mk n p l q true) a0 a1 m), goI A24 (mayQ (Co.mk n p l q true) a0 a1 m), alI A23 (mayO (Co.mk n p l q true) a0 a1 m), waI A23 (mayO (Co.mk n p l q true) a0 a1 m), goI A23 (mayO (Co.mk n p l q true) a0 a1 m), Ob g18 (.cells #[.bool false, .int .i64 (m.kind), .int .i64 (m.i1), .int .i64 (m.i2), .int .i64 (m.i3), .int .i64 (m.i4), .int .i64 (m.i5), .string (m.root), .string (m.data)] 35 (0, 0)), Mp Value.bool (Value.int .i64) (fun _ => True) mg12 M, Ob g1 (.cells #[.int .i64 n, .int .i64 p, .int .i64 l, .int .i64 q, .bool ft] 23 (0, 0)), Old w no] := by have h := H82.absorbI [0, 4, 5, 6, 1, 2, 3] H90; exact h
         refine b_ret rfl rfl ?_
         refine a_k (H90.takes [1, 5, 6, 7, 2, 3, 4, 8, 9, 10, 11] (by decide)) ?_
         refine w_t (v := .int .i64 (((mayQ (Co.mk n p l q true) a0 a1 m).wa.length : Int))) 4 rfl (H90.takes [1, 5, 6, 7, 2, 3, 4, 8, 9, 10, 11] (by decide)) (fun _ _ => x_lenl rfl rfl Try.underlying37) ?_
         refine w_t (v := .bool (!decide (((mayQ (Co.mk n p l q true) a0 a1 m).wa.length : Int) = ((mayQ (Co.mk n p l q true) a0 a1 m).wa.length : Int)))) 5 rfl (H90.takes [1, 5, 6, 7, 2, 3, 4, 8, 9, 10, 11] (by decide)) (fun _ _ => x_bin rfl rfl rfl b_neq) ?_
         refine w_t 6 rfl (H90.takes [1, 5, 6, 7, 2, 3, 4, 8, 9, 10, 11] (by decide)) (fun _ _ => xm) ?_
         refine w_tg 7 rfl (nf rfl) (H90.takes [1, 5, 6, 7, 2, 3, 4, 8, 9, 10, 11] (by decide)) (fun _ _ => xm) ?_
         refine w_tg (v := .int .i64 ((mayO (Co.mk n p l q true) a0 a1 m).wa.length)) 8 rfl (nf rfl) (H90.takes [1, 5, 6, 7, 2, 3, 4, 8, 9, 10, 11] (by decide)) (fun _ H => ex_cast (x_lookup1 (x := false) cntT H 8 rfl rfl rfl rfl trivial ze3) (look_I hF85)) ?_
         refine w_tg 9 rfl (nf rfl) (H90.takes [1, 5, 6, 7, 2, 3, 4, 8, 9, 10, 11] (by decide)) (fun _ _ => xm) ?_
         refine a_one (i := 10) (by kernel_rfl) rfl ?_
         refine s_call (wt1 rfl rfl rfl rfl (nf rfl)) (x_call' rfl rfl cl9) (waiting_o sg9 (Co.mk n p l q true) false A23 A24 (mayO (Co.mk n p l q true) a0 a1 m) (mayQ (Co.mk n p l q true) a0 a1 m) (hw25.wok (by omega)).wa _ (H90.takes [1, 5, 6, 7, 2, 3, 4] (by decide))) ?_
         rintro _ wq93 ⟨p91, c92, rfl, H94⟩
         replace H94 : S wq93 [Rw 49 3 p91 (mayO (Co.mk n p l q true) a0 a1 m).wa.length c92 (chV (mayO (Co.mk n p l q true) a0 a1 m).wa), sgI sg9 (Co.mk n p l q true) true A24 A23 (mayQ (Co.mk n p l q true) a0 a1 m) (mayO (Co.mk n p l q true) a0 a1 m), alI A23 (mayO (Co.mk n p l q true) a0 a1 m), waI A23 (mayO (Co.mk n p l q true) a0 a1 m), goI A23 (mayO (Co.mk n p l q true) a0 a1 m), alI A24 (mayQ (Co.mk n p l q true) a0 a1 m), waI A24 (mayQ (Co.mk n p l q true) a0 a1 m), goI A24 (mayQ (Co.mk n p l q true) a0 a1 m), Rw 49 3 p87 (mayQ (Co.mk n p l q true) a0 a1 m).wa.length c88 (chV (mayQ (Co.mk n p l q true) a0 a1 m).wa), Ob g18 (.cells #[.bool false, .int .i64 (m.kind), .int .i64 (m.i1), .int .i64 (m.i2), .int .i64 (m.i3), .int .i64 (m.i4), .int .i64 (m.i5), .string (m.root), .string (m.data)] 35 (0, 0)), Mp Value.bool (Value.int .i64) (fun _ => True) mg12 M, Ob g1 (.cells #[.int .i64 n, .int .i64 p, .int .i64 l, .int .i64 q, .bool ft] 23 (0, 0)), Old w no] := by have h := H90.absorbI [1, 5, 6, 7, 2, 3, 4] H94; exact h
         refine b_ret rfl rfl ?_
         have cm4 := H94.mask [false, true, true, true, true, true, true, true, false, true, true, true, true]
         refine a_k cm4 ?_
         refine w_tg (v := .int .i64 (((mayO (Co.mk n p l q true) a0 a1 m).wa.length : Int))) 11 rfl (nf rfl) cm4 (fun _ _ => x_lenl rfl rfl Try.underlying37) ?_
         refine w_tg (v := .bool (!decide (((mayO (Co.mk n p l q true) a0 a1 m).wa.length : Int) = ((mayO (Co.mk n p l q true) a0 a1 m).wa.length : Int)))) 12 rfl (nf rfl) cm4 (fun _ _ => x_bin rfl rfl rfl b_neq) ?_
         refine w_t (v := .bool (!decide (((mayO (Co.mk n p l q true) a0 a1 m).wa.length : Int) = ((mayO (Co.mk n p l q true) a0 a1 m).wa.length : Int)))) 13 rfl cm4 (fun _ _ => x_pick_f rfl rfl (nf rfl) rfl) ?_
         refine a_done (by kernel_rfl) ?_
         refine g_then ?_
         refine g_weak [(5, .pointer (some ⟨sg9, 0, none⟩)), (7, .map (some mg12)), (34, .slice pl ls.length cl), (35, .int .i64 ((ls.length : Int))), (36, .int .i64 ((k : Int))), (73, .map (some mg12)), (74, .int .i64 ((mayO (Co.mk n p l q true) a0 a1 m).wa.length)), (75, .pointer (some ⟨sg9, 0, none⟩)), (76, .slice p91 (mayO (Co.mk n p l q true) a0 a1 m).wa.length c92), (77, .int .i64 (((mayO (Co.mk n p l q true) a0 a1 m).wa.length : Int))), (78, .bool (!decide (((mayO (Co.mk n p l q true) a0 a1 m).wa.length : Int) = ((mayO (Co.mk n p l q true) a0 a1 m).wa.length : Int)))), (79, .bool (!decide (((mayO (Co.mk n p l q true) a0 a1 m).wa.length : Int) = ((mayO (Co.mk n p l q true) a0 a1 m).wa.length : Int))))] ⟨rfl, rfl, rfl, rfl, rfl, rfl, rfl, rfl, rfl, rfl, rfl, rfl, trivial⟩ ?_
         refine g_cond_f rfl (nf rfl) ?_
         refine g_skip ?_
         refine g_in ?_
         refine g_then ?_
         refine g_region ?_
         refine w_b (v := .int .i64 ((k : Int) + 1)) (hb := (b_add (w64 (by omega)))) ?_
         refine w_m ?_
         refine w_e ?_
         refine g_round (i := (k, a0, a1, A0, A1, M)) ((k + 1), (mayO (Co.mk n p l q true) a0 a1 m), (mayQ (Co.mk n p l q true) a0 a1 m), A23, A24, M) ?_ ?_ ?_
         · exact ⟨rfl, rfl, rfl, rfl, rfl, trivial⟩
         · exact ⟨by omega, hw25, hw26, hF85, hT86, (H94.takes [1, 5, 6, 7, 2, 3, 4, 10, 11, 12] (by decide))⟩
         · (try dsimp only); omega
     ·
      obtain ⟨q95, q96⟩ := may_refused (hb29)
      have hF97 : (M false).getD 0 = ((mayO (Co.mk n p l q true) a0 a1 m).wa.length : Int) := by rw [q95]; exact hF
      have hT98 : (M true).getD 0 = ((mayQ (Co.mk n p l q true) a0 a1 m).wa.length : Int) := by rw [q96]; exact hT
      refine g_cond_t rfl (nt hb29) ?_
      refine g_exit ?_
      refine g_then_exit ?_
      refine g_in_hit ?_
      refine g_then ?_
      refine g_region ?_
      refine w_b (v := .int .i64 ((k : Int) + 1)) (hb := (b_add (w64 (by omega)))) ?_
      refine w_m ?_
      refine w_e ?_
      refine g_round (i := (k, a0, a1, A0, A1, M)) ((k + 1), (mayO (Co.mk n p l q true) a0 a1 m), (mayQ (Co.mk n p l q true) a0 a1 m), A23, A24, M) ?_ ?_ ?_
      · exact ⟨rfl, rfl, rfl, rfl, rfl, trivial⟩
      · exact ⟨by omega, hw25, hw26, hF97, hT98, (H28.takes [0, 4, 5, 6, 1, 2, 3, 8, 9, 10] (by decide))⟩
      · (try dsimp only); omega
    ·
     refine w_v (v := .agg #[.bool true, .int .i64 (m.kind), .int .i64 (m.i1), .int .i64 (m.i2), .int .i64 (m.i3), .int .i64 (m.i4), .int .i64 (m.i5), .string (m.root), .string (m.data)]) (x_loadRA (vs := snL ⟨true, m⟩) k (H16.oldReads (k := 9) rfl hr) (by omega) rfl rfl Try.underlying35 rfl sz35 (by rfl) (by rw [← hsn]; exact snV_at (by omega))) ?_
     refine l_of (s_alloc H16 (wt0 rfl) rfl rfl rfl ze35 ?_)
     intro g99 wq100 H101
     refine l_of (w_st #[.bool true, .int .i64 (m.kind), .int .i64 (m.i1), .int .i64 (m.i2), .int .i64 (m.i3), .int .i64 (m.i4), .int .i64 (m.i5), .string (m.root), .string (m.data)] H101 0 ?_)
     intro wq102 H103
     refine w_e ?_
     refine g_seq ?_
     refine w_s ?_
     refine w_r2 ?_
     refine w_1 H103 0 ?_
     refine w_f 1 ?_
     refine w_v (v := .agg m.cells) (x_loadA H103 0 rfl rfl Try.underlying33 rfl sz33 rfl rfl rfl) ?_
     have hw107 := hw1.mayO (a := a1) (b := a0) (m := m) hn
     have hw106 := hw0.mayQ (a := a1) (b := a0) (m := m) hn
     refine l_of (s_call (wt0 rfl) (x_call' rfl rfl cl8) (stepF_o sg9 (Co.mk n p l q true) true A1 A0 a1 a0 m hn (hw1.wok (by omega)) (hw0.wok (by omega)) _ (H103.takes [1, 2, 3, 4, 5, 6, 7] (by decide))) ?_)
     rintro _ wq108 ⟨A105, A104, rfl, H109⟩
     replace H109 : S wq108 [sgI sg9 (Co.mk n p l q true) true A105 A104 (mayO (Co.mk n p l q true) a1 a0 m) (mayQ (Co.mk n p l q true) a1 a0 m), alI A105 (mayO (Co.mk n p l q true) a1 a0 m), waI A105 (mayO (Co.mk n p l q true) a1 a0 m), goI A105 (mayO (Co.mk n p l q true) a1 a0 m), alI A104 (mayQ (Co.mk n p l q true) a1 a0 m), waI A104 (mayQ (Co.mk n p l q true) a1 a0 m), goI A104 (mayQ (Co.mk n p l q true) a1 a0 m), Ob g99 (.cells #[.bool true, .int .i64 (m.kind), .int .i64 (m.i1), .int .i64 (m.i2), .int .i64 (m.i3), .int .i64 (m.i4), .int .i64 (m.i5), .string (m.root), .string (m.data)] 35 (0, 0)), Mp Value.bool (Value.int .i64) (fun _ => True) mg12 M, Ob g1 (.cells #[.int .i64 n, .int .i64 p, .int .i64 l, .int .i64 q, .bool ft] 23 (0, 0)), Old w no] := by have h := H103.absorbI [1, 2, 3, 4, 5, 6, 7] H109; exact h
     refine b_ret rfl rfl ?_
     refine w_b (v := .bool (!decide (((mayE (Co.mk n p l q true) a1 a0 m) : Int) = 0))) (hb := b_neq) ?_
     refine w_e ?_
     by_cases hb110 : ((mayE (Co.mk n p l q true) a1 a0 m) : Int) = 0
     ·
      refine g_cond_f rfl (nf hb110) ?_
      refine g_skip ?_
      refine g_then ?_
      refine g_seq ?_
      refine w_s ?_
      refine w_r2 ?_
      refine w_1 H109 7 ?_
      refine w_e ?_
      refine g_weak [(5, .pointer (some ⟨sg9, 0, none⟩)), (7, .map (some mg12)), (9, .pointer (some ⟨g99, 0, none⟩)), (34, .slice pl ls.length cl), (35, .int .i64 ((ls.length : Int))), (36, .int .i64 ((k : Int))), (49, .int .i64 (m.kind))] ⟨rfl, rfl, rfl, rfl, rfl, rfl, rfl, trivial⟩ ?_
      refine g_block ?_
      refine w_s ?_
      refine w_b ?_
      refine w_a ?_
      refine w_e ?_
      by_cases hb111 : (m.kind : Int) = 8
      ·
       refine g_cond_t rfl (decide_eq_true hb111) ?_
       refine g_region ?_
       refine w_r2 ?_
       refine w_1 H109 7 ?_
       refine w_v (v := .bool false) (x_not (b := true) rfl rfl) ?_
       refine w_v (v := .int .i64 ((a0.wa.length : Int))) (ex_cast (x_lookup1 (x := false) cntT H109 8 rfl rfl rfl rfl trivial ze3) (look_I hF)) ?_
       refine w_b (v := .int .i64 ((a0.wa.length : Int) + 1)) (hb := (b_add (w64 (by have h9 := (hw0.wok (by omega)).wa; omega)))) ?_
       refine l_of (s_mapUpdate (x := false) (a := ((a0.wa.length : Int) + 1)) cntT H109 8 (wt0 rfl) rfl rfl rfl rfl rfl rfl trivial ?_)
       intro wq112 H113
       refine g_nil ?_
       refine g_in ?_
       refine g_then ?_
       refine g_seq ?_
       refine g_any [] (fun wx => S wx [sgI sg9 (Co.mk n p l q true) true A105 A104 (mayO (Co.mk n p l q true) a1 a0 m) (mayQ (Co.mk n p l q true) a1 a0 m), alI A105 (mayO (Co.mk n p l q true) a1 a0 m), waI A105 (mayO (Co.mk n p l q true) a1 a0 m), goI A105 (mayO (Co.mk n p l q true) a1 a0 m), alI A104 (mayQ (Co.mk n p l q true) a1 a0 m), waI A104 (mayQ (Co.mk n p l q true) a1 a0 m), goI A104 (mayQ (Co.mk n p l q true) a1 a0 m), Ob g99 (.cells #[.bool true, .int .i64 (m.kind), .int .i64 (m.i1), .int .i64 (m.i2), .int .i64 (m.i3), .int .i64 (m.i4), .int .i64 (m.i5), .string (m.root), .string (m.data)] 35 (0, 0)), Mp Value.bool (Value.int .i64) (fun _ => True) mg12 (upM M false ((a0.wa.length : Int) + 1)), Ob g1 (.cells #[.int .i64 n, .int .i64 p, .int .i64 l, .int .i64 q, .bool ft] 23 (0, 0)), Old w no]) [] (by kernel_rfl) H113 (fun wq114 H115 => ?_)
       refine w_t 0 rfl H115 (fun _ _ => xm) ?_
       obtain ⟨q116, q117⟩ := ans_len (c := (Co.mk n p l q true)) (a := a1) (b := a0) (m := m) rfl hw1.nd hb110
       unfold ownD at q116; unfold peerD at q117
       have hF118 : ((upM M false ((a0.wa.length : Int) + 1)) false).getD 0 = ((mayQ (Co.mk n p l q true) a1 a0 m).wa.length : Int) := by
        rw [q117]; try unfold upM
        simp [hF, *]
       have hT119 : ((upM M false ((a0.wa.length : Int) + 1)) true).getD 0 = ((mayO (Co.mk n p l q true) a1 a0 m).wa.length : Int) := by
        rw [q116]; try unfold upM
        simp [hT, *]
       refine w_t (v := .int .i64 ((mayO (Co.mk n p l q true) a1 a0 m).wa.length)) 1 rfl H115 (fun _ H => ex_cast (x_lookup1 (x := true) cntT H 8 rfl rfl rfl rfl trivial ze3) (look_I hT119)) ?_
       refine w_t 2 rfl H115 (fun _ _ => xm) ?_
       refine a_one (i := 3) (by kernel_rfl) rfl ?_
       refine s_call (wt0 rfl) (x_call' rfl rfl cl9) (waiting_o sg9 (Co.mk n p l q true) true A105 A104 (mayO (Co.mk n p l q true) a1 a0 m) (mayQ (Co.mk n p l q true) a1 a0 m) (hw107.wok (by omega)).wa _ (H115.takes [0, 1, 2, 3, 4, 5, 6] (by decide))) ?_
       rintro _ wq122 ⟨p120, c121, rfl, H123⟩
       replace H123 : S wq122 [Rw 49 3 p120 (mayO (Co.mk n p l q true) a1 a0 m).wa.length c121 (chV (mayO (Co.mk n p l q true) a1 a0 m).wa), sgI sg9 (Co.mk n p l q true) true A105 A104 (mayO (Co.mk n p l q true) a1 a0 m) (mayQ (Co.mk n p l q true) a1 a0 m), alI A105 (mayO (Co.mk n p l q true) a1 a0 m), waI A105 (mayO (Co.mk n p l q true) a1 a0 m), goI A105 (mayO (Co.mk n p l q true) a1 a0 m), alI A104 (mayQ (Co.mk n p l q true) a1 a0 m), waI A104 (mayQ (Co.mk n p l q true) a1 a0 m), goI A104 (mayQ (Co.mk n p l q true) a1 a0 m), Ob g99 (.cells #[.bool true, .int .i64 (m.kind), .int .i64 (m.i1), .int .i64 (m.i2), .int .i64 (m.i3), .int .i64 (m.i4), .int .i64 (m.i5), .string (m.root), .string (m.data)] 35 (0, 0)), Mp Value.bool (Value.int .i64) (fun _ => True) mg12 (upM M false ((a0.wa.length : Int) + 1)), Ob g1 (.cells #[.int .i64 n, .int .i64 p, .int .i64 l, .int .i64 q, .bool ft] 23 (0, 0)), Old w no] := by have h := H115.absorbI [0, 1, 2, 3, 4, 5, 6] H123; exact h
       refine b_ret rfl rfl ?_
       have cm5 := H123.mask [false, true, true, true, true, true, true, true, true, true, true, true]
       refine a_k cm5 ?_
       refine w_t (v := .int .i64 (((mayO (Co.mk n p l q true) a1 a0 m).wa.length : Int))) 4 rfl cm5 (fun _ _ => x_lenl rfl rfl Try.underlying37) ?_
       refine w_t (v := .bool (!decide (((mayO (Co.mk n p l q true) a1 a0 m).wa.length : Int) = ((mayO (Co.mk n p l q true) a1 a0 m).wa.length : Int)))) 5 rfl cm5 (fun _ _ => x_bin rfl rfl rfl b_neq) ?_
       refine w_t 6 rfl cm5 (fun _ _ => xm) ?_
       refine w_tg 7 rfl (nf rfl) cm5 (fun _ _ => xm) ?_
       refine w_tg (v := .int .i64 ((mayQ (Co.mk n p l q true) a1 a0 m).wa.length)) 8 rfl (nf rfl) cm5 (fun _ H => ex_cast (x_lookup1 (x := false) cntT H 8 rfl rfl rfl rfl trivial ze3) (look_I hF118)) ?_
       refine w_tg 9 rfl (nf rfl) cm5 (fun _ _ => xm) ?_
       refine a_one (i := 10) (by kernel_rfl) rfl ?_
       refine s_call (wt1 rfl rfl rfl rfl (nf rfl)) (x_call' rfl rfl cl9) (waiting_o sg9 (Co.mk n p l q true) false A104 A105 (mayQ (Co.mk n p l q true) a1 a0 m) (mayO (Co.mk n p l q true) a1 a0 m) (hw106.wok (by omega)).wa _ (H123.takes [1, 5, 6, 7, 2, 3, 4] (by decide))) ?_
       rintro _ wq126 ⟨p124, c125, rfl, H127⟩
       replace H127 : S wq126 [Rw 49 3 p124 (mayQ (Co.mk n p l q true) a1 a0 m).wa.length c125 (chV (mayQ (Co.mk n p l q true) a1 a0 m).wa), sgI sg9 (Co.mk n p l q true) true A105 A104 (mayO (Co.mk n p l q true) a1 a0 m) (mayQ (Co.mk n p l q true) a1 a0 m), alI A104 (mayQ (Co.mk n p l q true) a1 a0 m), waI A104 (mayQ (Co.mk n p l q true) a1 a0 m), goI A104 (mayQ (Co.mk n p l q true) a1 a0 m), alI A105 (mayO (Co.mk n p l q true) a1 a0 m), waI A105 (mayO (Co.mk n p l q true) a1 a0 m), goI A105 (mayO (Co.mk n p l q true) a1 a0 m), Rw 49 3 p120 (mayO (Co.mk n p l q true) a1 a0 m).wa.length c121 (chV (mayO (Co.mk n p l q true) a1 a0 m).wa), Ob g99 (.cells #[.bool true, .int .i64 (m.kind), .int .i64 (m.i1), .int .i64 (m.i2), .int .i64 (m.i3), .int .i64 (m.i4), .int .i64 (m.i5), .string (m.root), .string (m.data)] 35 (0, 0)), Mp Value.bool (Value.int .i64) (fun _ => True) mg12 (upM M false ((a0.wa.length : Int) + 1)), Ob g1 (.cells #[.int .i64 n, .int .i64 p, .int .i64 l, .int .i64 q, .bool ft] 23 (0, 0)), Old w no] := by have h := H123.absorbI [1, 5, 6, 7, 2, 3, 4] H127; exact h
       refine b_ret rfl rfl ?_
       refine a_k (H127.takes [1, 5, 6, 7, 2, 3, 4, 9, 10, 11, 12] (by decide)) ?_
       refine w_tg (v := .int .i64 (((mayQ (Co.mk n p l q true) a1 a0 m).wa.length : Int))) 11 rfl (nf rfl) (H127.takes [1, 5, 6, 7, 2, 3, 4, 9, 10, 11, 12] (by decide)) (fun _ _ => x_lenl rfl rfl Try.underlying37) ?_
       refine w_tg (v := .bool (!decide (((mayQ (Co.mk n p l q true) a1 a0 m).wa.length : Int) = ((mayQ (Co.mk n p l q true) a1 a0 m).wa.length : Int)))) 12 rfl (nf rfl) (H127.takes [1, 5, 6, 7, 2, 3, 4, 9, 10, 11, 12] (by decide)) (fun _ _ => x_bin rfl rfl rfl b_neq) ?_
       refine w_t (v := .bool (!decide (((mayQ (Co.mk n p l q true) a1 a0 m).wa.length : Int) = ((mayQ (Co.mk n p l q true) a1 a0 m).wa.length : Int)))) 13 rfl (H127.takes [1, 5, 6, 7, 2, 3, 4, 9, 10, 11, 12] (by decide)) (fun _ _ => x_pick_f rfl rfl (nf rfl) rfl) ?_
       refine a_done (by kernel_rfl) ?_
       refine g_then ?_
       refine g_weak [(5, .pointer (some ⟨sg9, 0, none⟩)), (7, .map (some mg12)), (34, .slice pl ls.length cl), (35, .int .i64 ((ls.length : Int))), (36, .int .i64 ((k : Int))), (73, .map (some mg12)), (74, .int .i64 ((mayQ (Co.mk n p l q true) a1 a0 m).wa.length)), (75, .pointer (some ⟨sg9, 0, none⟩)), (76, .slice p124 (mayQ (Co.mk n p l q true) a1 a0 m).wa.length c125), (77, .int .i64 (((mayQ (Co.mk n p l q true) a1 a0 m).wa.length : Int))), (78, .bool (!decide (((mayQ (Co.mk n p l q true) a1 a0 m).wa.length : Int) = ((mayQ (Co.mk n p l q true) a1 a0 m).wa.length : Int)))), (79, .bool (!decide (((mayQ (Co.mk n p l q true) a1 a0 m).wa.length : Int) = ((mayQ (Co.mk n p l q true) a1 a0 m).wa.length : Int))))] ⟨rfl, rfl, rfl, rfl, rfl, rfl, rfl, rfl, rfl, rfl, rfl, rfl, trivial⟩ ?_
       refine g_cond_f rfl (nf rfl) ?_
       refine g_skip ?_
       refine g_in ?_
       refine g_then ?_
       refine g_region ?_
       refine w_b (v := .int .i64 ((k : Int) + 1)) (hb := (b_add (w64 (by omega)))) ?_
       refine w_m ?_
       refine w_e ?_
       refine g_round (i := (k, a0, a1, A0, A1, M)) ((k + 1), (mayQ (Co.mk n p l q true) a1 a0 m), (mayO (Co.mk n p l q true) a1 a0 m), A104, A105, (upM M false ((a0.wa.length : Int) + 1))) ?_ ?_ ?_
       · exact ⟨rfl, rfl, rfl, rfl, rfl, trivial⟩
       · exact ⟨by omega, hw106, hw107, hF118, hT119, (H127.takes [1, 5, 6, 7, 2, 3, 4, 10, 11, 12] (by decide))⟩
       · (try dsimp only); omega
      ·
       refine g_cond_f rfl (decide_eq_false hb111) ?_
       refine g_seq ?_
       refine w_s ?_
       refine w_b ?_
       refine w_a ?_
       refine w_e ?_
       by_cases hb128 : (m.kind : Int) = 9
       ·
        refine g_cond_t rfl (decide_eq_true hb128) ?_
        refine g_skip ?_
        refine g_then ?_
        refine g_cond_t rfl (decide_eq_true hb128) ?_
        refine g_region ?_
        refine w_r2 ?_
        refine w_1 H109 7 ?_
        refine w_v (v := .int .i64 ((a1.wa.length : Int))) (ex_cast (x_lookup1 (x := true) cntT H109 8 rfl rfl rfl rfl trivial ze3) (look_I hT)) ?_
        refine w_b (v := .int .i64 ((a1.wa.length : Int) - 1)) (hb := (b_sub (w64 (by have h9 := (hw1.wok (by omega)).wa; omega)))) ?_
        refine l_of (s_mapUpdate (x := true) (a := ((a1.wa.length : Int) - 1)) cntT H109 8 (wt0 rfl) rfl rfl rfl rfl rfl rfl trivial ?_)
        intro wq129 H130
        refine g_nil ?_
        refine g_in ?_
        refine g_then ?_
        refine g_seq ?_
        refine g_any [] (fun wx => S wx [sgI sg9 (Co.mk n p l q true) true A105 A104 (mayO (Co.mk n p l q true) a1 a0 m) (mayQ (Co.mk n p l q true) a1 a0 m), alI A105 (mayO (Co.mk n p l q true) a1 a0 m), waI A105 (mayO (Co.mk n p l q true) a1 a0 m), goI A105 (mayO (Co.mk n p l q true) a1 a0 m), alI A104 (mayQ (Co.mk n p l q true) a1 a0 m), waI A104 (mayQ (Co.mk n p l q true) a1 a0 m), goI A104 (mayQ (Co.mk n p l q true) a1 a0 m), Ob g99 (.cells #[.bool true, .int .i64 (m.kind), .int .i64 (m.i1), .int .i64 (m.i2), .int .i64 (m.i3), .int .i64 (m.i4), .int .i64 (m.i5), .string (m.root), .string (m.data)] 35 (0, 0)), Mp Value.bool (Value.int .i64) (fun _ => True) mg12 (upM M true ((a1.wa.length : Int) - 1)), Ob g1 (.cells #[.int .i64 n, .int .i64 p, .int .i64 l, .int .i64 q, .bool ft] 23 (0, 0)), Old w no]) [] (by kernel_rfl) H130 (fun wq131 H132 => ?_)
        refine w_t 0 rfl H132 (fun _ _ => xm) ?_
        obtain ⟨q133, q134⟩ := ans_len (c := (Co.mk n p l q true)) (a := a1) (b := a0) (m := m) rfl hw1.nd hb110
        unfold ownD at q133; unfold peerD at q134
        have hF135 : ((upM M true ((a1.wa.length : Int) - 1)) false).getD 0 = ((mayQ (Co.mk n p l q true) a1 a0 m).wa.length : Int) := by
         rw [q134]; try unfold upM
         simp [hF, *]
        have hT136 : ((upM M true ((a1.wa.length : Int) - 1)) true).getD 0 = ((mayO (Co.mk n p l q true) a1 a0 m).wa.length : Int) := by
         rw [q133]; try unfold upM
         simp [hT, *]
        refine w_t (v := .int .i64 ((mayO (Co.mk n p l q true) a1 a0 m).wa.length)) 1 rfl H132 (fun _ H => ex_cast (x_lookup1 (x := true) cntT H 8 rfl rfl rfl rfl trivial ze3) (look_I hT136)) ?_
        refine w_t 2 rfl H132 (fun _ _ => xm) ?_
        refine a_one (i := 3) (by kernel_rfl) rfl ?_
        refine s_call (wt0 rfl) (x_call' rfl rfl cl9) (waiting_o sg9 (Co.mk n p l q true) true A105 A104 (mayO (Co.mk n p l q true) a1 a0 m) (mayQ (Co.mk n p l q true) a1 a0 m) (hw107.wok (by omega)).wa _ (H132.takes [0, 1, 2, 3, 4, 5, 6] (by decide))) ?_
        rintro _ wq139 ⟨p137, c138, rfl, H140⟩
        replace H140 : S wq139 [Rw 49 3 p137 (mayO (Co.mk n p l q true) a1 a0 m).wa.length c138 (chV (mayO (Co.mk n p l q true) a1 a0 m).wa), sgI sg9 (Co.mk n p l q true) true A105 A104 (mayO (Co.mk n p l q true) a1 a0 m) (mayQ (Co.mk n p l q true) a1 a0 m), alI A105 (mayO (Co.mk n p l q true) a1 a0 m), waI A105 (mayO (Co.mk n p l q true) a1 a0 m), goI A105 (mayO (Co.mk n p l q true) a1 a0 m), alI A104 (mayQ (Co.mk n p l q true) a1 a0 m), waI A104 (mayQ (Co.mk n p l q true) a1 a0 m), goI A104 (mayQ (Co.mk n p l q true) a1 a0 m), Ob g99 (.cells #[.bool true, .int .i64 (m.kind), .int .i64 (m.i1), .int .i64 (m.i2), .int .i64 (m.i3), .int .i64 (m.i4), .int .i64 (m.i5), .string (m.root), .string (m.data)] 35 (0, 0)), Mp Value.bool (Value.int .i64) (fun _ => True) mg12 (upM M true ((a1.wa.length : Int) - 1)), Ob g1 (.cells #[.int .i64 n, .int .i64 p, .int .i64 l, .int .i64 q, .bool ft] 23 (0, 0)), Old w no] := by have h := H132.absorbI [0, 1, 2, 3, 4, 5, 6] H140; exact h
        refine b_ret rfl rfl ?_
        have cm6 := H140.mask [false, true, true, true, true, true, true, true, true, true, true, true]
        refine a_k cm6 ?_
        refine w_t (v := .int .i64 (((mayO (Co.mk n p l q true) a1 a0 m).wa.length : Int))) 4 rfl cm6 (fun _ _ => x_lenl rfl rfl Try.underlying37) ?_
        refine w_t (v := .bool (!decide (((mayO (Co.mk n p l q true) a1 a0 m).wa.length : Int) = ((mayO (Co.mk n p l q true) a1 a0 m).wa.length : Int)))) 5 rfl cm6 (fun _ _ => x_bin rfl rfl rfl b_neq) ?_
        refine w_t 6 rfl cm6 (fun _ _ => xm) ?_
        refine w_tg 7 rfl (nf rfl) cm6 (fun _ _ => xm) ?_
        refine w_tg (v := .int .i64 ((mayQ (Co.mk n p l q true) a1 a0 m).wa.length)) 8 rfl (nf rfl) cm6 (fun _ H => ex_cast (x_lookup1 (x := false) cntT H 8 rfl rfl rfl rfl trivial ze3) (look_I hF135)) ?_
        refine w_tg 9 rfl (nf rfl) cm6 (fun _ _ => xm) ?_
        refine a_one (i := 10) (by kernel_rfl) rfl ?_
        refine s_call (wt1 rfl rfl rfl rfl (nf rfl)) (x_call' rfl rfl cl9) (waiting_o sg9 (Co.mk n p l q true) false A104 A105 (mayQ (Co.mk n p l q true) a1 a0 m) (mayO (Co.mk n p l q true) a1 a0 m) (hw106.wok (by omega)).wa _ (H140.takes [1, 5, 6, 7, 2, 3, 4] (by decide))) ?_
        rintro _ wq143 ⟨p141, c142, rfl, H144⟩
        replace H144 : S wq143 [Rw 49 3 p141 (mayQ (Co.mk n p l q true) a1 a0 m).wa.length c142 (chV (mayQ (Co.mk n p l q true) a1 a0 m).wa), sgI sg9 (Co.mk n p l q true) true A105 A104 (mayO (Co.mk n p l q true) a1 a0 m) (mayQ (Co.mk n p l q true) a1 a0 m), alI A104 (mayQ (Co.mk n p l q true) a1 a0 m), waI A104 (mayQ (Co.mk n p l q true) a1 a0 m), goI A104 (mayQ (Co.mk n p l q true) a1 a0 m), alI A105 (mayO (Co.mk n p l q true) a1 a0 m), waI A105 (mayO (Co.mk n p l q true) a1 a0 m), goI A105 (mayO (Co.mk n p l q true) a1 a0 m), Rw 49 3 p137 (mayO (Co.mk n p l q true) a1 a0 m).wa.length c138 (chV (mayO (Co.mk n p l q true) a1 a0 m).wa), Ob g99 (.cells #[.bool true, .int .i64 (m.kind), .int .i64 (m.i1), .int .i64 (m.i2), .int .i64 (m.i3), .int .i64 (m.i4), .int .i64 (m.i5), .string (m.root), .string (m.data)] 35 (0, 0)), Mp Value.bool (Value.int .i64) (fun _ => True) mg12 (upM M true ((a1.wa.length : Int) - 1)), Ob g1 (.cells #[.int .i64 n, .int .i64 p, .int .i64 l, .int .i64 q, .bool ft] 23 (0, 0)), Old w no] := by have h := H140.absorbI [1, 5, 6, 7, 2, 3, 4] H144; exact h
        refine b_ret rfl rfl ?_
        refine a_k (H144.takes [1, 5, 6, 7, 2, 3, 4, 9, 10, 11, 12] (by decide)) ?_
        refine w_tg (v := .int .i64 (((mayQ (Co.mk n p l q true) a1 a0 m).wa.length : Int))) 11 rfl (nf rfl) (H144.takes [1, 5, 6, 7, 2, 3, 4, 9, 10, 11, 12] (by decide)) (fun _ _ => x_lenl rfl rfl Try.underlying37) ?_
        refine w_tg (v := .bool (!decide (((mayQ (Co.mk n p l q true) a1 a0 m).wa.length : Int) = ((mayQ (Co.mk n p l q true) a1 a0 m).wa.length : Int)))) 12 rfl (nf rfl) (H144.takes [1, 5, 6, 7, 2, 3, 4, 9, 10, 11, 12] (by decide)) (fun _ _ => x_bin rfl rfl rfl b_neq) ?_
        refine w_t (v := .bool (!decide (((mayQ (Co.mk n p l q true) a1 a0 m).wa.length : Int) = ((mayQ (Co.mk n p l q true) a1 a0 m).wa.length : Int)))) 13 rfl (H144.takes [1, 5, 6, 7, 2, 3, 4, 9, 10, 11, 12] (by decide)) (fun _ _ => x_pick_f rfl rfl (nf rfl) rfl) ?_
        refine a_done (by kernel_rfl) ?_
        refine g_then ?_
        refine g_weak [(5, .pointer (some ⟨sg9, 0, none⟩)), (7, .map (some mg12)), (34, .slice pl ls.length cl), (35, .int .i64 ((ls.length : Int))), (36, .int .i64 ((k : Int))), (73, .map (some mg12)), (74, .int .i64 ((mayQ (Co.mk n p l q true) a1 a0 m).wa.length)), (75, .pointer (some ⟨sg9, 0, none⟩)), (76, .slice p141 (mayQ (Co.mk n p l q true) a1 a0 m).wa.length c142), (77, .int .i64 (((mayQ (Co.mk n p l q true) a1 a0 m).wa.length : Int))), (78, .bool (!decide (((mayQ (Co.mk n p l q true) a1 a0 m).wa.length : Int) = ((mayQ (Co.mk n p l q true) a1 a0 m).wa.length : Int)))), (79, .bool (!decide (((mayQ (Co.mk n p l q true) a1 a0 m).wa.length : Int) = ((mayQ (Co.mk n p l q true) a1 a0 m).wa.length : Int))))] ⟨rfl, rfl, rfl, rfl, rfl, rfl, rfl, rfl, rfl, rfl, rfl, rfl, trivial⟩ ?_
        refine g_cond_f rfl (nf rfl) ?_
        refine g_skip ?_
        refine g_in ?_
        refine g_then ?_
        refine g_region ?_
        refine w_b (v := .int .i64 ((k : Int) + 1)) (hb := (b_add (w64 (by omega)))) ?_
        refine w_m ?_
        refine w_e ?_
        refine g_round (i := (k, a0, a1, A0, A1, M)) ((k + 1), (mayQ (Co.mk n p l q true) a1 a0 m), (mayO (Co.mk n p l q true) a1 a0 m), A104, A105, (upM M true ((a1.wa.length : Int) - 1))) ?_ ?_ ?_
        · exact ⟨rfl, rfl, rfl, rfl, rfl, trivial⟩
        · exact ⟨by omega, hw106, hw107, hF135, hT136, (H144.takes [1, 5, 6, 7, 2, 3, 4, 10, 11, 12] (by decide))⟩
        · (try dsimp only); omega
       ·
        refine g_cond_f rfl (decide_eq_false hb128) ?_
        refine g_region ?_
        refine w_b ?_
        refine w_a ?_
        refine w_e ?_
        by_cases hb145 : (m.kind : Int) = 15
        ·
         refine g_cond_t rfl (decide_eq_true hb145) ?_
         refine g_region ?_
         refine w_r2 ?_
         refine w_1 H109 7 ?_
         refine w_v (v := .int .i64 ((a1.wa.length : Int))) (ex_cast (x_lookup1 (x := true) cntT H109 8 rfl rfl rfl rfl trivial ze3) (look_I hT)) ?_
         refine w_b (v := .int .i64 ((a1.wa.length : Int) - 1)) (hb := (b_sub (w64 (by have h9 := (hw1.wok (by omega)).wa; omega)))) ?_
         refine l_of (s_mapUpdate (x := true) (a := ((a1.wa.length : Int) - 1)) cntT H109 8 (wt0 rfl) rfl rfl rfl rfl rfl rfl trivial ?_)
         intro wq146 H147
         refine g_nil ?_
         refine g_in ?_
         refine g_then ?_
         refine g_weak [(5, .pointer (some ⟨sg9, 0, none⟩)), (7, .map (some mg12)), (34, .slice pl ls.length cl), (35, .int .i64 ((ls.length : Int))), (36, .int .i64 ((k : Int)))] ⟨rfl, rfl, rfl, rfl, rfl, trivial⟩ ?_
         refine g_seq ?_
         refine g_any [] (fun wx => S wx [sgI sg9 (Co.mk n p l q true) true A105 A104 (mayO (Co.mk n p l q true) a1 a0 m) (mayQ (Co.mk n p l q true) a1 a0 m), alI A105 (mayO (Co.mk n p l q true) a1 a0 m), waI A105 (mayO (Co.mk n p l q true) a1 a0 m), goI A105 (mayO (Co.mk n p l q true) a1 a0 m), alI A104 (mayQ (Co.mk n p l q true) a1 a0 m), waI A104 (mayQ (Co.mk n p l q true) a1 a0 m), goI A104 (mayQ (Co.mk n p l q true) a1 a0 m), Ob g99 (.cells #[.bool true, .int .i64 (m.kind), .int .i64 (m.i1), .int .i64 (m.i2), .int .i64 (m.i3), .int .i64 (m.i4), .int .i64 (m.i5), .string (m.root), .string (m.data)] 35 (0, 0)), Mp Value.bool (Value.int .i64) (fun _ => True) mg12 (upM M true ((a1.wa.length : Int) - 1)), Ob g1 (.cells #[.int .i64 n, .int .i64 p, .int .i64 l, .int .i64 q, .bool ft] 23 (0, 0)), Old w no]) [] (by kernel_rfl) H147 (fun wq148 H149 => ?_)
         refine w_t 0 rfl H149 (fun _ _ => xm) ?_
         obtain ⟨q150, q151⟩ := ans_len (c := (Co.mk n p l q true)) (a := a1) (b := a0) (m := m) rfl hw1.nd hb110
         unfold ownD at q150; unfold peerD at q151
         have hF152 : ((upM M true ((a1.wa.length : Int) - 1)) false).getD 0 = ((mayQ (Co.mk n p l q true) a1 a0 m).wa.length : Int) := by
          rw [q151]; try unfold upM
          simp [hF, *]
         have hT153 : ((upM M true ((a1.wa.length : Int) - 1)) true).getD 0 = ((mayO (Co.mk n p l q true) a1 a0 m).wa.length : Int) := by
          rw [q150]; try unfold upM
          simp [hT, *]
         refine w_t (v := .int .i64 ((mayO (Co.mk n p l q true) a1 a0 m).wa.length)) 1 rfl H149 (fun _ H => ex_cast (x_lookup1 (x := true) cntT H 8 rfl rfl rfl rfl trivial ze3) (look_I hT153)) ?_
         refine w_t 2 rfl H149 (fun _ _ => xm) ?_
         refine a_one (i := 3) (by kernel_rfl) rfl ?_
         refine s_call (wt0 rfl) (x_call' rfl rfl cl9) (waiting_o sg9 (Co.mk n p l q true) true A105 A104 (mayO (Co.mk n p l q true) a1 a0 m) (mayQ (Co.mk n p l q true) a1 a0 m) (hw107.wok (by omega)).wa _ (H149.takes [0, 1, 2, 3, 4, 5, 6] (by decide))) ?_
         rintro _ wq156 ⟨p154, c155, rfl, H157⟩
         replace H157 : S wq156 [Rw 49 3 p154 (mayO (Co.mk n p l q true) a1 a0 m).wa.length c155 (chV (mayO (Co.mk n p l q true) a1 a0 m).wa), sgI sg9 (Co.mk n p l q true) true A105 A104 (mayO (Co.mk n p l q true) a1 a0 m) (mayQ (Co.mk n p l q true) a1 a0 m), alI A105 (mayO (Co.mk n p l q true) a1 a0 m), waI A105 (mayO (Co.mk n p l q true) a1 a0 m), goI A105 (mayO (Co.mk n p l q true) a1 a0 m), alI A104 (mayQ (Co.mk n p l q true) a1 a0 m), waI A104 (mayQ (Co.mk n p l q true) a1 a0 m), goI A104 (mayQ (Co.mk n p l q true) a1 a0 m), Ob g99 (.cells #[.bool true, .int .i64 (m.kind), .int .i64 (m.i1), .int .i64 (m.i2), .int .i64 (m.i3), .int .i64 (m.i4), .int .i64 (m.i5), .string (m.root), .string (m.data)] 35 (0, 0)), Mp Value.bool (Value.int .i64) (fun _ => True) mg12 (upM M true ((a1.wa.length : Int) - 1)), Ob g1 (.cells #[.int .i64 n, .int .i64 p, .int .i64 l, .int .i64 q, .bool ft] 23 (0, 0)), Old w no] := by have h := H149.absorbI [0, 1, 2, 3, 4, 5, 6] H157; exact h
         refine b_ret rfl rfl ?_
         have cm7 := H157.mask [false, true, true, true, true, true, true, true, true, true, true, true]
         refine a_k cm7 ?_
         refine w_t (v := .int .i64 (((mayO (Co.mk n p l q true) a1 a0 m).wa.length : Int))) 4 rfl cm7 (fun _ _ => x_lenl rfl rfl Try.underlying37) ?_
         refine w_t (v := .bool (!decide (((mayO (Co.mk n p l q true) a1 a0 m).wa.length : Int) = ((mayO (Co.mk n p l q true) a1 a0 m).wa.length : Int)))) 5 rfl cm7 (fun _ _ => x_bin rfl rfl rfl b_neq) ?_
         refine w_t 6 rfl cm7 (fun _ _ => xm) ?_
         refine w_tg 7 rfl (nf rfl) cm7 (fun _ _ => xm) ?_
         refine w_tg (v := .int .i64 ((mayQ (Co.mk n p l q true) a1 a0 m).wa.length)) 8 rfl (nf rfl) cm7 (fun _ H => ex_cast (x_lookup1 (x := false) cntT H 8 rfl rfl rfl rfl trivial ze3) (look_I hF152)) ?_
         refine w_tg 9 rfl (nf rfl) cm7 (fun _ _ => xm) ?_
         refine a_one (i := 10) (by kernel_rfl) rfl ?_
         refine s_call (wt1 rfl rfl rfl rfl (nf rfl)) (x_call' rfl rfl cl9) (waiting_o sg9 (Co.mk n p l q true) false A104 A105 (mayQ (Co.mk n p l q true) a1 a0 m) (mayO (Co.mk n p l q true) a1 a0 m) (hw106.wok (by omega)).wa _ (H157.takes [1, 5, 6, 7, 2, 3, 4] (by decide))) ?_
         rintro _ wq160 ⟨p158, c159, rfl, H161⟩
         replace H161 : S wq160 [Rw 49 3 p158 (mayQ (Co.mk n p l q true) a1 a0 m).wa.length c159 (chV (mayQ (Co.mk n p l q true) a1 a0 m).wa), sgI sg9 (Co.mk n p l q true) true A105 A104 (mayO (Co.mk n p l q true) a1 a0 m) (mayQ (Co.mk n p l q true) a1 a0 m), alI A104 (mayQ (Co.mk n p l q true) a1 a0 m), waI A104 (mayQ (Co.mk n p l q true) a1 a0 m), goI A104 (mayQ (Co.mk n p l q true) a1 a0 m), alI A105 (mayO (Co.mk n p l q true) a1 a0 m), waI A105 (mayO (Co.mk n p l q true) a1 a0 m), goI A105 (mayO (Co.mk n p l q true) a1 a0 m), Rw 49 3 p154 (mayO (Co.mk n p l q true) a1 a0 m).wa.length c155 (chV (mayO (Co.mk n p l q true) a1 a0 m).wa), Ob g99 (.cells #[.bool true, .int .i64 (m.kind), .int .i64 (m.i1), .int .i64 (m.i2), .int .i64 (m.i3), .int .i64 (m.i4), .int .i64 (m.i5), .string (m.root), .string (m.data)] 35 (0, 0)), Mp Value.bool (Value.int .i64) (fun _ => True) mg12 (upM M true ((a1.wa.length : Int) - 1)), Ob g1 (.cells #[.int .i64 n, .int .i64 p, .int .i64 l, .int .i64 q, .bool ft] 23 (0, 0)), Old w no] := by have h := H157.absorbI [1, 5, 6, 7, 2, 3, 4] H161; exact h
         refine b_ret rfl rfl ?_
         refine a_k (H161.takes [1, 5, 6, 7, 2, 3, 4, 9, 10, 11, 12] (by decide)) ?_
         refine w_tg (v := .int .i64 (((mayQ (Co.mk n p l q true) a1 a0 m).wa.length : Int))) 11 rfl (nf rfl) (H161.takes [1, 5, 6, 7, 2, 3, 4, 9, 10, 11, 12] (by decide)) (fun _ _ => x_lenl rfl rfl Try.underlying37) ?_
         refine w_tg (v := .bool (!decide (((mayQ (Co.mk n p l q true) a1 a0 m).wa.length : Int) = ((mayQ (Co.mk n p l q true) a1 a0 m).wa.length : Int)))) 12 rfl (nf rfl) (H161.takes [1, 5, 6, 7, 2, 3, 4, 9, 10, 11, 12] (by decide)) (fun _ _ => x_bin rfl rfl rfl b_neq) ?_
         refine w_t (v := .bool (!decide (((mayQ (Co.mk n p l q true) a1 a0 m).wa.length : Int) = ((mayQ (Co.mk n p l q true) a1 a0 m).wa.length : Int)))) 13 rfl (H161.takes [1, 5, 6, 7, 2, 3, 4, 9, 10, 11, 12] (by decide)) (fun _ _ => x_pick_f rfl rfl (nf rfl) rfl) ?_
         refine a_done (by kernel_rfl) ?_
         refine g_then ?_
         refine g_cond_f rfl (nf rfl) ?_
         refine g_skip ?_
         refine g_in ?_
         refine g_then ?_
         refine g_region ?_
         refine w_b (v := .int .i64 ((k : Int) + 1)) (hb := (b_add (w64 (by omega)))) ?_
         refine w_m ?_
         refine w_e ?_
         refine g_round (i := (k, a0, a1, A0, A1, M)) ((k + 1), (mayQ (Co.mk n p l q true) a1 a0 m), (mayO (Co.mk n p l q true) a1 a0 m), A104, A105, (upM M true ((a1.wa.length : Int) - 1))) ?_ ?_ ?_
         · exact ⟨rfl, rfl, rfl, rfl, rfl, trivial⟩
         · exact ⟨by omega, hw106, hw107, hF152, hT153, (H161.takes [1, 5, 6, 7, 2, 3, 4, 10, 11, 12] (by decide))⟩
         · (try dsimp only); omega
        ·
         refine g_cond_f rfl (decide_eq_false hb145) ?_
         refine g_skip ?_
         refine g_in ?_
         refine g_then ?_
         refine g_seq ?_
         refine g_any [] (fun wx => S wx [sgI sg9 (Co.mk n p l q true) true A105 A104 (mayO (Co.mk n p l q true) a1 a0 m) (mayQ (Co.mk n p l q true) a1 a0 m), alI A105 (mayO (Co.mk n p l q true) a1 a0 m), waI A105 (mayO (Co.mk n p l q true) a1 a0 m), goI A105 (mayO (Co.mk n p l q true) a1 a0 m), alI A104 (mayQ (Co.mk n p l q true) a1 a0 m), waI A104 (mayQ (Co.mk n p l q true) a1 a0 m), goI A104 (mayQ (Co.mk n p l q true) a1 a0 m), Ob g99 (.cells #[.bool true, .int .i64 (m.kind), .int .i64 (m.i1), .int .i64 (m.i2), .int .i64 (m.i3), .int .i64 (m.i4), .int .i64 (m.i5), .string (m.root), .string (m.data)] 35 (0, 0)), Mp Value.bool (Value.int .i64) (fun _ => True) mg12 M, Ob g1 (.cells #[.int .i64 n, .int .i64 p, .int .i64 l, .int .i64 q, .bool ft] 23 (0, 0)), Old w no]) [] (by kernel_rfl) H109 (fun wq162 H163 => ?_)
         refine w_t 0 rfl H163 (fun _ _ => xm) ?_
         obtain ⟨q164, q165⟩ := ans_len (c := (Co.mk n p l q true)) (a := a1) (b := a0) (m := m) rfl hw1.nd hb110
         unfold ownD at q164; unfold peerD at q165
         have hF166 : (M false).getD 0 = ((mayQ (Co.mk n p l q true) a1 a0 m).wa.length : Int) := by
          rw [q165]; try unfold upM
          simp [hF, *]
         have hT167 : (M true).getD 0 = ((mayO (Co.mk n p l q true) a1 a0 m).wa.length : Int) := by
          rw [q164]; try unfold upM
          simp [hT, *]
         refine w_t (v := .int .i64 ((mayO (Co.mk n p l q true) a1 a0 m).wa.length)) 1 rfl H163 (fun _ H => ex_cast (x_lookup1 (x := true) cntT H 8 rfl rfl rfl rfl trivial ze3) (look_I hT167)) ?_
         refine w_t 2 rfl H163 (fun _ _ => xm) ?_
         refine a_one (i := 3) (by kernel_rfl) rfl ?_
         refine s_call (wt0 rfl) (x_call' rfl rfl cl9) (waiting_o sg9 (Co.mk n p l q true) true A105 A104 (mayO (Co.mk n p l q true) a1 a0 m) (mayQ (Co.mk n p l q true) a1 a0 m) (hw107.wok (by omega)).wa _ (H163.takes [0, 1, 2, 3, 4, 5, 6] (by decide))) ?_
         rintro _ wq170 ⟨p168, c169, rfl, H171⟩
         replace H171 : S wq170 [Rw 49 3 p168 (mayO (Co.mk n p l q true) a1 a0 m).wa.length c169 (chV (mayO (Co.mk n p l q true) a1 a0 m).wa), sgI sg9 (Co.mk n p l q true) true A105 A104 (mayO (Co.mk n p l q true) a1 a0 m) (mayQ (Co.mk n p l q true) a1 a0 m), alI A105 (mayO (Co.mk n p l q true) a1 a0 m), waI A105 (mayO (Co.mk n p l q true) a1 a0 m), goI A105 (mayO (Co.mk n p l q true) a1 a0 m), alI A104 (mayQ (Co.mk n p l q true) a1 a0 m), waI A104 (mayQ (Co.mk n p l q true) a1 a0 m), goI A104 (mayQ (Co.mk n p l q true) a1 a0 m), Ob g99 (.cells #[.bool true, .int .i64 (m.kind), .int .i64 (m.i1), .int .i64 (m.i2), .int .i64 (m.i3), .int .i64 (m.i4), .int .i64 (m.i5), .string (m.root), .string (m.data)] 35 (0, 0)), Mp Value.bool (Value.int .i64) (fun _ => True) mg12 M, Ob g1 (.cells #[.int .i64 n, .int .i64 p, .int .i64 l, .int .i64 q, .bool ft] 23 (0, 0)), Old w no] := by have h := H163.absorbI [0, 1, 2, 3, 4, 5, 6] H171; exact h
         refine b_ret rfl rfl ?_
         have cm8 := H171.mask [false, true, true, true, true, true, true, true, true, true, true, true]
         refine a_k cm8 ?_
         refine w_t (v := .int .i64 (((mayO (Co.mk n p l q true) a1 a0 m).wa.length : Int))) 4 rfl cm8 (fun _ _ => x_lenl rfl rfl Try.underlying37) ?_
         refine w_t (v := .bool (!decide (((mayO (Co.mk n p l q true) a1 a0 m).wa.length : Int) = ((mayO (Co.mk n p l q true) a1 a0 m).wa.length : Int)))) 5 rfl cm8 (fun _ _ => x_bin rfl rfl rfl b_neq) ?_
         refine w_t 6 rfl cm8 (fun _ _ => xm) ?_
         refine w_tg 7 rfl (nf rfl) cm8 (fun _ _ => xm) ?_
         refine w_tg (v := .int .i64 ((mayQ (Co.mk n p l q true) a1 a0 m).wa.length)) 8 rfl (nf rfl) cm8 (fun _ H => ex_cast (x_lookup1 (x := false) cntT H 8 rfl rfl rfl rfl trivial ze3) (look_I hF166)) ?_
         refine w_tg 9 rfl (nf rfl) cm8 (fun _ _ => xm) ?_
         refine a_one (i := 10) (by kernel_rfl) rfl ?_
         refine s_call (wt1 rfl rfl rfl rfl (nf rfl)) (x_call' rfl rfl cl9) (waiting_o sg9 (Co.mk n p l q true) false A104 A105 (mayQ (Co.mk n p l q true) a1 a0 m) (mayO (Co.mk n p l q true) a1 a0 m) (hw106.wok (by omega)).wa _ (H171.takes [1, 5, 6, 7, 2, 3, 4] (by decide))) ?_
         rintro _ wq174 ⟨p172, c173, rfl, H175⟩
         replace H175 : S wq174 [Rw 49 3 p172 (mayQ (Co.mk n p l q true) a1 a0 m).wa.length c173 (chV (mayQ (Co.mk n p l q true) a1 a0 m).wa), sgI sg9 (Co.mk n p l q true) true A105 A104 (mayO (Co.mk n p l q true) a1 a0 m) (mayQ (Co.mk n p l q true) a1 a0 m), alI A104 (mayQ (Co.mk n p l q true) a1 a0 m), waI A104 (mayQ (Co.mk n p l q true) a1 a0 m), goI A104 (mayQ (Co.mk n p l q true) a1 a0 m), alI A105 (mayO (Co.mk n p l q true) a1 a0 m), waI A105 (mayO (Co.mk n p l q true) a1 a0 m), goI A105 (mayO (Co.mk n p l q true) a1 a0 m), Rw 49 3 p168 (mayO (Co.mk n p l q true) a1 a0 m).wa.length c169 (chV (mayO (Co.mk n p l q true) a1 a0 m).wa), Ob g99 (.cells #[.bool true, .int .i64 (m.kind), .int .i64 (m.i1), .int .i64 (m.i2), .int .i64 (m.i3), .int .i64 (m.i4), .int .i64 (m.i5), .string (m.root), .string (m.data)] 35 (0, 0)), Mp Value.bool (Value.int .i64) (fun _ => True) mg12 M, Ob g1 (.cells #[.int .i64 n, .int .i64 p, .int .i64 l, .int .i64 q, .bool ft] 23 (0, 0)), Old w no] := by have h := H171.absorbI [1, 5, 6, 7, 2, 3, 4] H175; exact h
         refine b_ret rfl rfl ?_
         refine a_k (H175.takes [1, 5, 6, 7, 2, 3, 4, 9, 10, 11, 12] (by decide)) ?_
         refine w_tg (v := .int .i64 (((mayQ (Co.mk n p l q true) a1 a0 m).wa.length : Int))) 11 rfl (nf rfl) (H175.takes [1, 5, 6, 7, 2, 3, 4, 9, 10, 11, 12] (by decide)) (fun _ _ => x_lenl rfl rfl Try.underlying37) ?_
         refine w_tg (v := .bool (!decide (((mayQ (Co.mk n p l q true) a1 a0 m).wa.length : Int) = ((mayQ (Co.mk n p l q true) a1 a0 m).wa.length : Int)))) 12 rfl (nf rfl) (H175.takes [1, 5, 6, 7, 2, 3, 4, 9, 10, 11, 12] (by decide)) (fun _ _ => x_bin rfl rfl rfl b_neq) ?_
         refine w_t (v := .bool (!decide (((mayQ (Co.mk n p l q true) a1 a0 m).wa.length : Int) = ((mayQ (Co.mk n p l q true) a1 a0 m).wa.length : Int)))) 13 rfl (H175.takes [1, 5, 6, 7, 2, 3, 4, 9, 10, 11, 12] (by decide)) (fun _ _ => x_pick_f rfl rfl (nf rfl) rfl) ?_
         refine a_done (by kernel_rfl) ?_
         refine g_then ?_
         refine g_weak [(5, .pointer (some ⟨sg9, 0, none⟩)), (7, .map (some mg12)), (34, .slice pl ls.length cl), (35, .int .i64 ((ls.length : Int))), (36, .int .i64 ((k : Int))), (73, .map (some mg12)), (74, .int .i64 ((mayQ (Co.mk n p l q true) a1 a0 m).wa.length)), (75, .pointer (some ⟨sg9, 0, none⟩)), (76, .slice p172 (mayQ (Co.mk n p l q true) a1 a0 m).wa.length c173), (77, .int .i64 (((mayQ (Co.mk n p l q true) a1 a0 m).wa.length : Int))), (78, .bool (!decide (((mayQ (Co.mk n p l q true) a1 a0 m).wa.length : Int) = ((mayQ (Co.mk n p l q true) a1 a0 m).wa.length : Int)))), (79, .bool (!decide (((mayQ (Co.mk n p l q true) a1 a0 m).wa.length : Int) = ((mayQ (Co.mk n p l q true) a1 a0 m).wa.length : Int))))] ⟨rfl, rfl, rfl, rfl, rfl, rfl, rfl, rfl, rfl, rfl, rfl, rfl, trivial⟩ ?_
         refine g_cond_f rfl (nf rfl) ?_
         refine g_skip ?_
         refine g_in ?_
         refine g_then ?_
         refine g_region ?_
         refine w_b (v := .int .i64 ((k : Int) + 1)) (hb := (b_add (w64 (by omega)))) ?_
         refine w_m ?_
         refine w_e ?_
         refine g_round (i := (k, a0, a1, A0, A1, M)) ((k + 1), (mayQ (Co.mk n p l q true) a1 a0 m), (mayO (Co.mk n p l q true) a1 a0 m), A104, A105, M) ?_ ?_ ?_
         · exact ⟨rfl, rfl, rfl, rfl, rfl, trivial⟩
         · exact ⟨by omega, hw106, hw107, hF166, hT167, (H175.takes [1, 5, 6, 7, 2, 3, 4, 10, 11, 12] (by decide))⟩
         · (try dsimp only); omega
     ·
      obtain ⟨q176, q177⟩ := may_refused (hb110)
      have hF178 : (M false).getD 0 = ((mayQ (Co.mk n p l q true) a1 a0 m).wa.length : Int) := by rw [q177]; exact hF
      have hT179 : (M true).getD 0 = ((mayO (Co.mk n p l q true) a1 a0 m).wa.length : Int) := by rw [q176]; exact hT
      refine g_cond_t rfl (nt hb110) ?_
      refine g_exit ?_
      refine g_then_exit ?_
      refine g_in_hit ?_
      refine g_then ?_
      refine g_region ?_
      refine w_b (v := .int .i64 ((k : Int) + 1)) (hb := (b_add (w64 (by omega)))) ?_
      refine w_m ?_
      refine w_e ?_
      refine g_round (i := (k, a0, a1, A0, A1, M)) ((k + 1), (mayQ (Co.mk n p l q true) a1 a0 m), (mayO (Co.mk n p l q true) a1 a0 m), A104, A105, M) ?_ ?_ ?_
      · exact ⟨rfl, rfl, rfl, rfl, rfl, trivial⟩
      · exact ⟨by omega, hw106, hw107, hF178, hT179, (H109.takes [0, 1, 2, 3, 4, 5, 6, 8, 9, 10] (by decide))⟩
      · (try dsimp only); omega
   ·
    refine g_cond_f rfl (decide_eq_false hb17) ?_
    refine g_exit ?_
    refine g_then_exit ?_
    refine g_then_exit ?_
    refine g_in_hit ?_
    refine g_then ?_
    refine w_s ?_
    refine l_of (s_call0 H16 (wt0 rfl) (x_call' rfl rfl cl6) (awake_s _) rfl rfl ?_)
    intro wq180 H181
    refine w_a ?_
    refine w_e ?_
    refine g_ret ?_
    refine fin_ret [.tmp 4] [.bool true] rfl ⟨rfl, trivial⟩ ?_
    exact ⟨rfl, H181.mask [false, false, false, false, false, false, false, false, false, true]⟩
  ·
   refine l_of (s_call0 H5 (wt0 rfl) (x_call' rfl rfl cl7) (newF_no true hg _) rfl rfl ?_)
   intro wq182 H183
   refine w_r5 ?_
   refine w_e ?_
   refine g_weak [(1, .slice pl ls.length cl), (5, .pointer none), (6, .int .i64 7)] ⟨rfl, rfl, rfl, trivial⟩ ?_
   refine g_seq ?_
   refine w_s ?_
   refine w_m ?_
   refine w_b (v := .bool (!decide ((7 : Int) = 0))) (hb := b_neq) ?_
   refine w_e ?_
   refine g_cond_t rfl (by decide) ?_
   refine w_s ?_
   refine w_m ?_
   refine w_b (v := .bool true) (hb := (b_eqN (r := true) Try.underlying27 rfl)) ?_
   refine w_m ?_
   refine l_of (s_call0 H183 (wt1 rfl rfl rfl rfl rfl) (x_call' rfl rfl cl6) (awake_s _) rfl rfl ?_)
   intro wq184 H185
   refine w_v (v := .bool true) (x_pick_t rfl rfl rfl rfl) ?_
   refine w_a ?_
   refine w_e ?_
   refine g_ret ?_
   refine g_then_ret ?_
   refine fin_ret [.tmp 4] [.bool true] rfl ⟨rfl, trivial⟩ ?_
   exact ⟨rfl, H185.mask [false, true]⟩
 ·
  refine g_cond_t rfl (neg_of hb6) ?_
  refine w_s ?_
  refine l_of (s_call0 H5 (wt0 rfl) (x_call' rfl rfl cl6) (awake_s _) rfl rfl ?_)
  intro wq186 H187
  refine w_a ?_
  refine w_e ?_
  refine g_ret ?_
  refine g_then_ret ?_
  refine fin_ret [.tmp 4] [.bool true] rfl ⟨rfl, trivial⟩ ?_
  exact ⟨rfl, H187.mask [false, true]⟩
end Go.Proofs.Ytdkfkdekiljcoaa
