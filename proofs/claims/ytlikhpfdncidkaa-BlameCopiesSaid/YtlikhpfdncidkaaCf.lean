import Derived.Test.YtlikhpfdncidkaaFk
import Derived.Test.YtlikhpfdncidkaaCe
set_option linter.unusedSimpArgs false
set_option linter.unusedVariables false
namespace Go.Proofs.Ytlikhpfdncidkaa
open Go.RowKit

theorem inf94 : infO Try.prog 94 = some (some (.slice none 0 0), 1, 24) := by kernel_rfl
theorem sz94 : szO Try.prog 94 = some 1 := by kernel_rfl
theorem ch_neq (a b c d e f : Int) (w : World) : (binOp .neq 37 (.agg #[.int .i64 a, .int .i64 b, .int .i64 c]) (.agg #[.int .i64 d, .int .i64 e, .int .i64 f])).run Try.prog w = .ok (.bool (!decide (a = d ∧ b = e ∧ c = f))) w := by
  by_cases h1 : a = d
  · subst h1
    by_cases h2 : b = e
    · subst h2
      by_cases h3 : c = f
      · subst h3; simp [go_sem]
      · simp [go_sem, h3]
    · simp [go_sem, h2]
  · simp [go_sem, h1]
theorem chc_ne {w : World} {xo yo : Operand} {a b c d e f : Int} : Bin Try.prog .neq 37 xo yo (.agg #[.int .i64 a, .int .i64 b, .int .i64 c]) (.agg #[.int .i64 d, .int .i64 e, .int .i64 f]) w (.bool (!decide (a = d ∧ b = e ∧ c = f))) := by
  unfold Bin
  simp only [Sem.run_bind, run_eqGuard_agg w .neq 37 xo yo #[.int .i64 a, .int .i64 b, .int .i64 c] #[.int .i64 d, .int .i64 e, .int .i64 f] eqgCh, Result.andThen_ok]
  exact ch_neq a b c d e f w
theorem upM_upM {κ α : Type} [DecidableEq κ] (M : κ → Option α) (x : κ) (a b : α) : upM (upM M x a) x b = upM M x b := by
  funext y; unfold upM; split <;> rfl
theorem RI.failQ {nw : Int → Option (Ro E5)} {od : Int → Option (Ro (Ro E5))} {rs : List (Ro E5)} {ts : List (Ro (Ro E5))} (hR : RI nw od ⟨rs, ts⟩) {i : Int} {q : Ro (Ro E5)} (hne : ¬ (roG (nw i)).l = []) (hq : q.l = lastTen ((roG (od i)).l ++ [roG (nw i)])) : RI (delM nw i) (upM od i q) ⟨rs, ts ++ [q]⟩ := by
  refine (hR.delNw i).setOd (t := ⟨rs, ts ++ [q]⟩) ⟨fun _ h => h, fun _ h => List.mem_append_left _ h⟩ (List.mem_append_right _ (List.mem_singleton.2 rfl)) (by rw [hq]; exact lastTen_len _) fun r hr => ?_
  rw [hq] at hr
  rcases List.mem_append.1 (lastTen_mem hr) with h | h
  · exact hR.odOk i r h
  · rw [List.mem_singleton] at h; subst h
    refine ⟨?_, hR.nwOk i⟩
    rcases hR.nwIn i with h | h
    · exact h
    · rw [h] at hne; exact absurd rfl hne
theorem who_pos {l : List E5} (h : ¬ l = []) : 0 < (ascI (l.map E5.pr)).length := by
  cases l with
  | nil => exact absurd rfl h
  | cons x l => exact List.length_pos_of_mem (ascI_mem.2 (List.mem_map.2 ⟨x, List.mem_cons_self .., rfl⟩))
theorem one_of {l : List Int} {x : Int} (h : l[0]? = some x) (hl : l.length ≤ 1) : l = [x] := by
  match l, h, hl with
  | [y], h, _ => simp at h; rw [h]
set_option maxRecDepth 20000 in
set_option maxHeartbeats 4000000 in
theorem rproved_s {b m1 m2 m3 m4 : Nat} {nw : Int → Option (Ro E5)} {od : Int → Option (Ro (Ro E5))} {bn : Int → Option Bool} {sc : Int → Option Int} {rs : List (Ro E5)} {ts : List (Ro (Ro E5))} (hR : RI nw od ⟨rs, ts⟩) {p i bg ln : Int} {gd : Bool} (hok_p : okI p) (hok_i : okI i)  (w : World) (HS : S w [Ob b (.cells #[.map (some m1), .map (some m2), .map (some m3), .map (some m4)] 88 (0, 0)), Mp (Value.int .i64) roV okI m1 nw, Mp (Value.int .i64) roV okI m2 od, Mp (Value.int .i64) Value.bool okI m3 bn, Mp (Value.int .i64) (Value.int .i64) okI m4 sc, RowsI 109 5 e5L rs, RowsI 94 1 rowL ts]) : Calls Try.prog 43 #[.pointer (some ⟨b, 0, none⟩), .int .i64 p, .agg #[.int .i64 i, .int .i64 bg, .int .i64 ln], .bool gd] w fun e w' => ∃ nw' od' bn' sc' rs' ts' , RI nw' od' ⟨rs', ts'⟩ ∧ RSt.le ⟨rs, ts⟩ ⟨rs', ts'⟩ ∧ RA nw' od' bn' sc' = provA (RA nw od bn sc) p i bg ln gd ∧ e = .returned (.tuple #[.bool (provR (RA nw od bn sc) p i bg ln gd), .int .i64 (provE (RA nw od bn sc) p i bg ln)]) ∧ S w' ([Ob b (.cells #[.map (some m1), .map (some m2), .map (some m3), .map (some m4)] 88 (0, 0)), Mp (Value.int .i64) roV okI m1 nw', Mp (Value.int .i64) roV okI m2 od', Mp (Value.int .i64) Value.bool okI m3 bn', Mp (Value.int .i64) (Value.int .i64) okI m4 sc', RowsI 109 5 e5L rs', RowsI 94 1 rowL ts'] ++ [Old w (fps [Ob b (.cells #[.map (some m1), .map (some m2), .map (some m3), .map (some m4)] 88 (0, 0)), Mp (Value.int .i64) roV okI m1 nw, Mp (Value.int .i64) roV okI m2 od, Mp (Value.int .i64) Value.bool okI m3 bn, Mp (Value.int .i64) (Value.int .i64) okI m4 sc, RowsI 109 5 e5L rs, RowsI 94 1 rowL ts])]) := by
 have H0 := HS.beginI
 have hln := (hR.nwOk i).len
 refine enter 85 Try.func43 rfl rfl rfl ?_
 refine g_weak [(0, .pointer (some ⟨b, 0, none⟩)), (1, .int .i64 p), (2, .agg #[.int .i64 i, .int .i64 bg, .int .i64 ln]), (3, .bool gd)] ⟨rfl, rfl, rfl, rfl, trivial⟩ ?_
 refine w_s ?_
 refine l_of (s_box H0 (wt0 rfl) rfl rfl rfl rfl ?_)
 intro g1 wq2 H3
 refine w_r2 ?_
 refine w_e ?_
 refine g_seq ?_
 refine w_s ?_
 refine w_m ?_
 refine w_v (v := .agg #[.int .i64 i, .int .i64 bg, .int .i64 ln]) (x_loadA H3 0 rfl rfl Try.underlying37 rfl sz37 rfl rfl rfl) ?_
 refine l_of (s_call0 H3 (wt0 rfl) (x_call' rfl rfl cl70) (right_r _ _ _ _ _) rfl rfl ?_)
 intro wq4 H5
 refine w_v (v := .bool (!((peerB p && blockB i bg ln)))) (x_not (b := (peerB p && blockB i bg ln)) rfl rfl) ?_
 refine w_e ?_
 rcases Bool.eq_false_or_eq_true ((peerB p && blockB i bg ln)) with hb6 | hb6
 ·
  refine g_cond_f rfl (neg_of hb6) ?_
  refine g_skip ?_
  refine g_then ?_
  refine g_seq ?_
  refine g_seq ?_
  refine g_quiet (by kernel_rfl) (by kernel_rfl) H5 ?_
  refine q_val (v := .pointer (some ⟨b, 0, none⟩)) (wt0 rfl) rfl rfl (fun wx H => x_move rfl rfl) ?_
  refine q_val (v := .pointer (some ⟨b, 0, none⟩)) (wt0 rfl) rfl rfl (fun wx H => x_nilCheck rfl rfl) ?_
  refine q_val (v := .pointer (some ⟨b, 0, none⟩)) (wt0 rfl) rfl rfl (fun wx H => x_fieldAddr rfl rfl fo88_0 rfl) ?_
  refine q_val (v := .map (some m1)) (wt0 rfl) rfl rfl (fun wx H => x_load1 H 1 rfl rfl Try.underlying85 rfl rfl rfl) ?_
  refine q_val (v := .pointer (some ⟨g1, 0, none⟩)) (wt0 rfl) rfl rfl (fun wx H => x_fieldAddr rfl rfl fo37_0 rfl) ?_
  refine q_val (v := .int .i64 i) (wt0 rfl) rfl rfl (fun wx H => x_load1 H 0 rfl rfl Try.underlying3 rfl rfl rfl) ?_
  refine q_val (v := .slice (roG (nw i)).p ((roG (nw i)).l.length) ((roG (nw i)).c)) (wt0 rfl) rfl rfl (fun wx H => ex_cast (x_lookup1 (x := i) (intTy Try.underlying85 Try.underlying3) H 2 rfl rfl rfl rfl (hok_i) ze94) (look_G _)) ?_
  refine q_val (v := .int .i64 (((roG (nw i)).l.length : Int))) (wt0 rfl) rfl rfl (fun wx H => x_lenl rfl rfl Try.underlying94) ?_
  refine q_val (v := .int .i64 0) (wt0 rfl) rfl rfl (fun wx H => x_move rfl rfl) ?_
  refine q_nil (fun wq7 H8 => ?_)
  refine g_then ?_
  refine g_weak [(0, .pointer (some ⟨b, 0, none⟩)), (1, .int .i64 p), (3, .bool gd), (6, .pointer (some ⟨g1, 0, none⟩)), (24, .slice (roG (nw i)).p ((roG (nw i)).l.length) ((roG (nw i)).c)), (25, .int .i64 (((roG (nw i)).l.length : Int))), (26, .int .i64 0)] ⟨rfl, rfl, rfl, rfl, rfl, rfl, rfl, trivial⟩ ?_
  refine g_block ?_
  refine g_loop (ι := Nat) (fun k => [(0, .pointer (some ⟨b, 0, none⟩)), (1, .int .i64 p), (3, .bool gd), (6, .pointer (some ⟨g1, 0, none⟩)), (24, .slice (roG (nw i)).p ((roG (nw i)).l.length) ((roG (nw i)).c)), (25, .int .i64 (((roG (nw i)).l.length : Int))), (26, .int .i64 ((k : Int)))]) (fun k wx => (k ≤ (roG (nw i)).l.length) ∧ (∀ y ∈ (roG (nw i)).l.take k, ¬ (y.pr = p ∧ y.bg = bg ∧ y.ln = ln)) ∧ S wx [Ob g1 (.cells #[.int .i64 i, .int .i64 bg, .int .i64 ln] 37 (0, 0)), Ob b (.cells #[.map (some m1), .map (some m2), .map (some m3), .map (some m4)] 88 (0, 0)), Mp (Value.int .i64) roV okI m1 nw, Mp (Value.int .i64) roV okI m2 od, Mp (Value.int .i64) Value.bool okI m3 bn, Mp (Value.int .i64) (Value.int .i64) okI m4 sc, RowsI 109 5 e5L rs, RowsI 94 1 rowL ts, Old w (fps [Ob b (.cells #[.map (some m1), .map (some m2), .map (some m3), .map (some m4)] 88 (0, 0)), Mp (Value.int .i64) roV okI m1 nw, Mp (Value.int .i64) roV okI m2 od, Mp (Value.int .i64) Value.bool okI m3 bn, Mp (Value.int .i64) (Value.int .i64) okI m4 sc, RowsI 109 5 e5L rs, RowsI 94 1 rowL ts])]) (fun k => ((roG (nw i)).l.length) - k) (0) ⟨rfl, rfl, rfl, rfl, rfl, rfl, rfl, trivial⟩ ⟨Nat.zero_le _, (fun x hx => by simp at hx), H8⟩ ?_
  rintro k wq9 ⟨hk, hno, H10⟩
  refine g_weak [(0, .pointer (some ⟨b, 0, none⟩)), (1, .int .i64 p), (3, .bool gd), (6, .pointer (some ⟨g1, 0, none⟩)), (24, .slice (roG (nw i)).p ((roG (nw i)).l.length) ((roG (nw i)).c)), (25, .int .i64 (((roG (nw i)).l.length : Int))), (26, .int .i64 ((k : Int)))] ⟨rfl, rfl, rfl, rfl, rfl, rfl, rfl, trivial⟩ ?_
  refine w_s ?_
  refine w_b ?_
  refine w_e ?_
  refine g_seq ?_
  by_cases hb11 : ((k : Int) : Int) < ((roG (nw i)).l.length : Int)
  ·
   refine g_cond_t rfl (decide_eq_true hb11) ?_
   refine g_skip ?_
   refine g_then ?_
   refine g_seq ?_
   refine g_block ?_
   refine w_s ?_
   refine w_m ?_
   refine w_v (v := .pointer (((roG (nw i)).p).map fun q => q.add (k * 5))) (x_idxR k ((rows_in (H10.at (k := 6) rfl) (hR.nwIn i))) rfl rfl rfl Try.underlying94 sz109 (by omega)) ?_
   have hlq := ((rows_in (H10.at (k := 6) rfl) (hR.nwIn i))).lenL e5E
   obtain ⟨x12, hx12⟩ := ex_at (l := (roG (nw i)).l) (j := k) (by omega)
   clear hlq
   have hpcx12 := (hR.nwOk i).pc x12 (List.mem_of_getElem? hx12)
   refine w_v (v := .agg #[.int .i64 (x12.pr), .int .i64 (x12.pc), .int .i64 (x12.bg), .int .i64 (x12.ln), .string (x12.dg)]) (x_loadRA (vs := e5L x12) k ((rows_in (H10.at (k := 6) rfl) (hR.nwIn i))) (by omega) rfl rfl Try.underlying109 rfl sz109 (by rfl) (e5E.flAt hx12)) ?_
   refine l_of (s_alloc H10 (wt0 rfl) rfl rfl rfl ze109 ?_)
   intro g13 wq14 H15
   refine w_a ?_
   refine l_of (w_st #[.int .i64 (x12.pr), .int .i64 (x12.pc), .int .i64 (x12.bg), .int .i64 (x12.ln), .string (x12.dg)] H15 0 ?_)
   intro wq16 H17
   refine w_e ?_
   refine g_seq ?_
   refine w_s ?_
   refine w_f 0 ?_
   refine w_1 H17 0 ?_
   refine w_m ?_
   refine w_b (v := .bool (!decide ((x12.pr : Int) = p))) (hb := b_neq) ?_
   refine w_m ?_
   by_cases hb18 : (x12.pr : Int) = p
   ·
    refine w_g (nf hb18) (xf 1) ?_
    refine w_g (v := .agg #[.int .i64 (x12.pc), .int .i64 (x12.bg), .int .i64 (x12.ln)]) (nf hb18) (x_loadA H17 0 rfl rfl Try.underlying37 rfl sz37 rfl rfl rfl) ?_
    refine w_g (v := .agg #[.int .i64 i, .int .i64 bg, .int .i64 ln]) (nf hb18) (x_loadA H17 1 rfl rfl Try.underlying37 rfl sz37 rfl rfl rfl) ?_
    refine w_g (v := .bool (!decide (x12.pc = i ∧ x12.bg = bg ∧ x12.ln = ln))) (nf hb18) (x_bin rfl rfl rfl chc_ne) ?_
    refine w_v (v := .bool (!decide (x12.pc = i ∧ x12.bg = bg ∧ x12.ln = ln))) (x_pick_f rfl rfl (nf hb18) rfl) ?_
    refine w_e ?_
    refine g_weak [(0, .pointer (some ⟨b, 0, none⟩)), (1, .int .i64 p), (3, .bool gd), (6, .pointer (some ⟨g1, 0, none⟩)), (10, .int .i64 ((k : Int))), (24, .slice (roG (nw i)).p ((roG (nw i)).l.length) ((roG (nw i)).c)), (25, .int .i64 (((roG (nw i)).l.length : Int))), (26, .int .i64 ((k : Int))), (40, .bool (!decide (x12.pc = i ∧ x12.bg = bg ∧ x12.ln = ln)))] ⟨rfl, rfl, rfl, rfl, rfl, rfl, rfl, rfl, rfl, trivial⟩ ?_
    by_cases hb19 : x12.pc = i ∧ x12.bg = bg ∧ x12.ln = ln
    ·
     refine g_cond_f rfl (nf hb19) ?_
     refine g_skip ?_
     refine g_then ?_
     refine g_seq ?_
     refine w_s ?_
     refine w_m ?_
     refine w_e ?_
     rcases Bool.eq_false_or_eq_true (gd) with hb20 | hb20
     ·
      refine g_cond_t rfl hb20 ?_
      refine w_s ?_
      refine w_r2 ?_
      refine w_e ?_
      refine g_ret ?_
      refine g_then_ret ?_
      refine g_in_ret ?_
      refine g_then_ret ?_
      refine g_then_ret ?_
      refine g_in_ret ?_
      refine g_then_ret ?_
      refine fin_ret [.tmp 8, .tmp 9] [.bool false, .int .i64 0] rfl ⟨rfl, rfl, trivial⟩ ?_
      have hE : (provE (RA nw od bn sc) p i bg ln) = 0 := provE_0 hb6 ((prov_some (hR.nwOk i)).2 ⟨x12, List.mem_of_getElem? hx12, hb18, hb19.2⟩)
      rw [hE]
      rw [(provA_not (gd := gd) hE (by simp [hb20])).2]
      exact ⟨nw, od, bn, sc, rs, ts, hR, .refl _, ((provA_not hE (by simp [hb20])).1).symm, rfl, H17.takes [2, 3, 4, 5, 6, 7, 8, 9] (by decide)⟩
     ·
      refine g_cond_f rfl hb20 ?_
      refine g_skip ?_
      refine g_then ?_
      refine g_seq ?_
      refine g_any [] (fun wx => S wx [Ob g13 (.cells #[.int .i64 (x12.pr), .int .i64 (x12.pc), .int .i64 (x12.bg), .int .i64 (x12.ln), .string (x12.dg)] 109 (0, 0)), Ob g1 (.cells #[.int .i64 i, .int .i64 bg, .int .i64 ln] 37 (0, 0)), Ob b (.cells #[.map (some m1), .map (some m2), .map (some m3), .map (some m4)] 88 (0, 0)), Mp (Value.int .i64) roV okI m1 nw, Mp (Value.int .i64) roV okI m2 od, Mp (Value.int .i64) Value.bool okI m3 bn, Mp (Value.int .i64) (Value.int .i64) okI m4 sc, RowsI 109 5 e5L rs, RowsI 94 1 rowL ts, Old w (fps [Ob b (.cells #[.map (some m1), .map (some m2), .map (some m3), .map (some m4)] 88 (0, 0)), Mp (Value.int .i64) roV okI m1 nw, Mp (Value.int .i64) roV okI m2 od, Mp (Value.int .i64) Value.bool okI m3 bn, Mp (Value.int .i64) (Value.int .i64) okI m4 sc, RowsI 109 5 e5L rs, RowsI 94 1 rowL ts])]) [] (by kernel_rfl) H17 (fun wq21 H22 => ?_)
      refine w_t 1 rfl H22 (fun _ _ => xm) ?_
      refine w_t 2 rfl H22 (fun _ _ => xn) ?_
      refine w_t 3 rfl H22 (fun _ _ => xf 0) ?_
      refine w_t 4 rfl H22 (fun _ H => xl H 2) ?_
      refine w_t 5 rfl H22 (fun _ _ => xf 0) ?_
      refine w_t 6 rfl H22 (fun _ H => xl H 1) ?_
      refine w_t (v := .slice (roG (nw i)).p ((roG (nw i)).l.length) ((roG (nw i)).c)) 7 rfl H22 (fun _ H => ex_cast (x_lookup1 (x := i) (intTy Try.underlying85 Try.underlying3) H 3 rfl rfl rfl rfl (hok_i) ze94) (look_G _)) ?_
      refine w_t 8 rfl H22 (fun _ _ => xm) ?_
      have hnc := ((rows_in (H22.at (k := 7) rfl) (hR.nwIn i))).2.1
      refine w_t (v := .slice (roG (nw i)).p k ((roG (nw i)).c)) 9 rfl H22 (fun _ _ => ex_cast (x_sliceH k rfl rfl rfl Try.underlying94 sz109 (by omega)) (by rw [cutP0])) ?_
      refine a_one (i := 0) (by kernel_rfl) rfl ?_
      refine s_buildSlice0 H22 (wt0 rfl) rfl rfl rfl Try.underlying94 sz109 ?_
      intro g23 wq24 H25
      replace H25 : S wq24 [Rw 109 5 (some ⟨g23, 0, none⟩) 0 0 (fl e5L ([] : List E5)), Ob g13 (.cells #[.int .i64 (x12.pr), .int .i64 (x12.pc), .int .i64 (x12.bg), .int .i64 (x12.ln), .string (x12.dg)] 109 (0, 0)), Ob g1 (.cells #[.int .i64 i, .int .i64 bg, .int .i64 ln] 37 (0, 0)), Ob b (.cells #[.map (some m1), .map (some m2), .map (some m3), .map (some m4)] 88 (0, 0)), Mp (Value.int .i64) roV okI m1 nw, Mp (Value.int .i64) roV okI m2 od, Mp (Value.int .i64) Value.bool okI m3 bn, Mp (Value.int .i64) (Value.int .i64) okI m4 sc, RowsI 109 5 e5L rs, RowsI 94 1 rowL ts, Old w (fps [Ob b (.cells #[.map (some m1), .map (some m2), .map (some m3), .map (some m4)] 88 (0, 0)), Mp (Value.int .i64) roV okI m1 nw, Mp (Value.int .i64) roV okI m2 od, Mp (Value.int .i64) Value.bool okI m3 bn, Mp (Value.int .i64) (Value.int .i64) okI m4 sc, RowsI 109 5 e5L rs, RowsI 94 1 rowL ts])] := S.obFl e5E H25 (k := 0) rfl rfl (by decide) rfl
      refine a_k (H25.mask [false, true, true, true, true, true, true, true, true, true, true]) ?_
      refine a_one (i := 10) (by kernel_rfl) rfl ?_
      have hln30a := (H25.rwReads (k := 0) rfl).lenL e5E
      have hln30b := (((rows_in (H25.at (k := 8) rfl) (hR.nwIn i))).takeL e5E k (by omega)).lenL e5E
      have hln30 : ((roG (nw i)).l.take k).length = 0 + k := by omega
      refine s_appLn (l := []) (l2 := ((roG (nw i)).l.take k)) e5E H25 0 (wt0 rfl) rfl rfl rfl rfl rfl rfl Try.underlying94 inf109 rfl (by decide) (((rows_in (H25.at (k := 8) rfl) (hR.nwIn i))).takeL e5E k (by omega)) (by omega) ?_
      intro p26 c27 wq28 H29
      rw [List.nil_append] at H29 ⊢
      replace H29 : S wq28 [Rw 109 5 p26 (((roG (nw i)).l.take k).length) c27 (fl e5L ((roG (nw i)).l.take k)), Ob g13 (.cells #[.int .i64 (x12.pr), .int .i64 (x12.pc), .int .i64 (x12.bg), .int .i64 (x12.ln), .string (x12.dg)] 109 (0, 0)), Ob g1 (.cells #[.int .i64 i, .int .i64 bg, .int .i64 ln] 37 (0, 0)), Ob b (.cells #[.map (some m1), .map (some m2), .map (some m3), .map (some m4)] 88 (0, 0)), Mp (Value.int .i64) roV okI m1 nw, Mp (Value.int .i64) roV okI m2 od, Mp (Value.int .i64) Value.bool okI m3 bn, Mp (Value.int .i64) (Value.int .i64) okI m4 sc, RowsI 109 5 e5L rs, RowsI 94 1 rowL ts, Old w (fps [Ob b (.cells #[.map (some m1), .map (some m2), .map (some m3), .map (some m4)] 88 (0, 0)), Mp (Value.int .i64) roV okI m1 nw, Mp (Value.int .i64) roV okI m2 od, Mp (Value.int .i64) Value.bool okI m3 bn, Mp (Value.int .i64) (Value.int .i64) okI m4 sc, RowsI 109 5 e5L rs, RowsI 94 1 rowL ts])] := H29
      have cm1 := H29.mask [false, true, true, true, true, true, true, true, true, true, true]
      refine a_k cm1 ?_
      refine w_t 11 rfl cm1 (fun _ _ => xa) ?_
      refine a_done (by kernel_rfl) ?_
      refine g_then ?_
      refine g_weak [(0, .pointer (some ⟨b, 0, none⟩)), (1, .int .i64 p), (6, .pointer (some ⟨g1, 0, none⟩)), (10, .int .i64 ((k : Int))), (12, .slice p26 (((roG (nw i)).l.take k).length) c27)] ⟨rfl, rfl, rfl, rfl, rfl, trivial⟩ ?_
      refine g_seq ?_
      refine g_any [] (fun wx => S wx [Ob g13 (.cells #[.int .i64 (x12.pr), .int .i64 (x12.pc), .int .i64 (x12.bg), .int .i64 (x12.ln), .string (x12.dg)] 109 (0, 0)), Ob g1 (.cells #[.int .i64 i, .int .i64 bg, .int .i64 ln] 37 (0, 0)), Ob b (.cells #[.map (some m1), .map (some m2), .map (some m3), .map (some m4)] 88 (0, 0)), Mp (Value.int .i64) roV okI m1 nw, Mp (Value.int .i64) roV okI m2 od, Mp (Value.int .i64) Value.bool okI m3 bn, Mp (Value.int .i64) (Value.int .i64) okI m4 sc, RowsI 109 5 e5L rs, RowsI 94 1 rowL ts, Old w (fps [Ob b (.cells #[.map (some m1), .map (some m2), .map (some m3), .map (some m4)] 88 (0, 0)), Mp (Value.int .i64) roV okI m1 nw, Mp (Value.int .i64) roV okI m2 od, Mp (Value.int .i64) Value.bool okI m3 bn, Mp (Value.int .i64) (Value.int .i64) okI m4 sc, RowsI 109 5 e5L rs, RowsI 94 1 rowL ts])]) [18] (by kernel_rfl) H29 (fun wq31 H32 => ?_)
      have cm2 := H32.mask [false, true, true, true, true, true, true, true, true, true, true]
      refine w_t 0 rfl cm2 (fun _ _ => xm) ?_
      refine w_t 1 rfl cm2 (fun _ _ => xn) ?_
      refine w_t 2 rfl cm2 (fun _ _ => xf 0) ?_
      refine w_t 3 rfl cm2 (fun _ H => xl H 2) ?_
      refine w_t 4 rfl cm2 (fun _ _ => xf 0) ?_
      refine w_t 5 rfl cm2 (fun _ H => xl H 1) ?_
      refine w_t 6 rfl cm2 (fun _ _ => xm) ?_
      refine w_t 7 rfl cm2 (fun _ _ => xm) ?_
      refine w_t 8 rfl cm2 (fun _ _ => xn) ?_
      refine w_t 9 rfl cm2 (fun _ _ => xf 0) ?_
      refine w_t 10 rfl cm2 (fun _ H => xl H 2) ?_
      refine w_t 11 rfl cm2 (fun _ _ => xf 0) ?_
      refine w_t 12 rfl cm2 (fun _ H => xl H 1) ?_
      refine w_t (v := .slice (roG (nw i)).p ((roG (nw i)).l.length) ((roG (nw i)).c)) 13 rfl cm2 (fun _ H => ex_cast (x_lookup1 (x := i) (intTy Try.underlying85 Try.underlying3) H 3 rfl rfl rfl rfl (hok_i) ze94) (look_G _)) ?_
      refine w_t 14 rfl cm2 (fun _ _ => xm) ?_
      refine w_t (v := .int .i64 ((k : Int) + 1)) 15 rfl cm2 (fun _ _ => x_bin rfl rfl rfl (b_add (w64 (by omega)))) ?_
      have hnc := ((rows_in (H32.at (k := 8) rfl) (hR.nwIn i))).2.1
      have hnl := ((rows_in (H32.at (k := 8) rfl) (hR.nwIn i))).lenL e5E
      have hdl : ((roG (nw i)).l.drop (k + 1)).length = ((roG (nw i)).l.length) - (k + 1) := by rw [List.length_drop, ← hnl]
      refine w_t (v := .slice (cutP (roG (nw i)).p (k + 1) (roG (nw i)).c 5) (((roG (nw i)).l.drop (k + 1)).length) ((roG (nw i)).c - (k + 1))) 16 rfl cm2 (fun _ _ => ex_cast (x_cut (k + 1) rfl rfl rfl Try.underlying94 sz109 (by omega)) (by rw [List.length_drop, ← hnl])) ?_
      refine a_one (i := 17) (by kernel_rfl) rfl ?_
      have hln37a := (H32.rwReads (k := 0) rfl).lenL e5E
      have hln37b := (((rows_in (H32.at (k := 8) rfl) (hR.nwIn i))).cutLn e5E (k + 1) (by omega)).lenL e5E
      have hln37 : (((roG (nw i)).l.take k) ++ ((roG (nw i)).l.drop (k + 1))).length = (((roG (nw i)).l.take k).length) + (((roG (nw i)).l.drop (k + 1)).length) := by simp only [List.length_append, List.length_cons, List.length_nil] <;> omega
      refine s_appLn (l := ((roG (nw i)).l.take k)) (l2 := ((roG (nw i)).l.drop (k + 1))) e5E H32 0 (wt0 rfl) rfl rfl rfl rfl rfl rfl Try.underlying94 inf109 rfl (by decide) (((rows_in (H32.at (k := 8) rfl) (hR.nwIn i))).cutLn e5E (k + 1) (by omega)) (by omega) ?_
      intro p33 c34 wq35 H36
      refine a_k (H36.mask [false, true, true, true, true, true, true, true, true, true, true]) ?_
      refine a_one (i := 18) (by kernel_rfl) rfl ?_
      refine s_mapUpdate (x := i) (a := (⟨p33, c34, (((roG (nw i)).l.take k) ++ ((roG (nw i)).l.drop (k + 1)))⟩ : Ro E5)) (intTy Try.underlying85 Try.underlying3) H36 4 (wt0 rfl) rfl rfl rfl rfl rfl rfl (hok_i) ?_
      intro wq38 H39
      refine a_kt rfl ?_
      refine a_done (by kernel_rfl) ?_
      refine g_then ?_
      refine g_weak [(0, .pointer (some ⟨b, 0, none⟩)), (1, .int .i64 p)] ⟨rfl, rfl, trivial⟩ ?_
      refine w_s ?_
      refine w_r3 ?_
      refine w_1 H39 3 ?_
      refine w_m ?_
      refine w_v (v := .bool (((bn p).getD false))) (ex_cast (x_lookup1 (x := p) (intTy Try.underlying29 Try.underlying3) H39 6 rfl rfl rfl rfl (hok_p) ze4) (look_B _)) ?_
      refine w_a ?_
      refine w_e ?_
      refine w_s ?_
      refine w_r3 ?_
      refine w_1 H39 3 ?_
      refine w_m ?_
      refine l_of (s_mapUpdate (x := p) (a := true) (intTy Try.underlying29 Try.underlying3) H39 6 (wt0 rfl) rfl rfl rfl rfl rfl rfl (hok_p) ?_)
      intro wq40 H41
      refine w_e ?_
      refine g_weak [(13, .bool (((bn p).getD false)))] ⟨rfl, trivial⟩ ?_
      refine w_s ?_
      refine w_m ?_
      refine w_v (v := .bool (!(((bn p).getD false)))) (x_not (b := ((bn p).getD false)) rfl rfl) ?_
      refine w_r2 ?_
      refine w_e ?_
      refine g_ret ?_
      refine g_in_ret ?_
      refine g_then_ret ?_
      refine g_then_ret ?_
      refine g_in_ret ?_
      refine g_then_ret ?_
      refine fin_ret [.tmp 8, .tmp 9] [.bool (!(((bn p).getD false))), .int .i64 0] rfl ⟨rfl, rfl, trivial⟩ ?_
      have H42 : S wq40 [RowsI 109 5 e5L (rs ++ [(⟨p33, c34, (((roG (nw i)).l.take k) ++ ((roG (nw i)).l.drop (k + 1)))⟩ : Ro E5)]), Ob g13 (.cells #[.int .i64 (x12.pr), .int .i64 (x12.pc), .int .i64 (x12.bg), .int .i64 (x12.ln), .string (x12.dg)] 109 (0, 0)), Ob g1 (.cells #[.int .i64 i, .int .i64 bg, .int .i64 ln] 37 (0, 0)), Ob b (.cells #[.map (some m1), .map (some m2), .map (some m3), .map (some m4)] 88 (0, 0)), Mp (Value.int .i64) roV okI m1 (upM nw i (⟨p33, c34, (((roG (nw i)).l.take k) ++ ((roG (nw i)).l.drop (k + 1)))⟩ : Ro E5)), Mp (Value.int .i64) roV okI m2 od, Mp (Value.int .i64) Value.bool okI m3 (upM bn p true), Mp (Value.int .i64) (Value.int .i64) okI m4 sc, RowsI 94 1 rowL ts, Old w (fps [Ob b (.cells #[.map (some m1), .map (some m2), .map (some m3), .map (some m4)] 88 (0, 0)), Mp (Value.int .i64) roV okI m1 nw, Mp (Value.int .i64) roV okI m2 od, Mp (Value.int .i64) Value.bool okI m3 bn, Mp (Value.int .i64) (Value.int .i64) okI m4 sc, RowsI 109 5 e5L rs, RowsI 94 1 rowL ts])] := S.rowsAdd (H41.takes [8, 0, 1, 2, 3, 4, 5, 6, 7, 9, 10] (by decide)) rfl
      have hE : (provE (RA nw od bn sc) p i bg ln) = 0 := provE_0 hb6 ((prov_some (hR.nwOk i)).2 ⟨x12, List.mem_of_getElem? hx12, hb18, hb19.2⟩)
      rw [hE]
      subst hb20
      have hPR : provR (RA nw od bn sc) p i bg ln false = !((RA nw od bn sc).bn p) := if_pos ⟨hE, rfl⟩
      rw [hPR]
      have hle : RSt.le ⟨rs, ts⟩ ⟨rs ++ [(⟨p33, c34, (((roG (nw i)).l.take k) ++ ((roG (nw i)).l.drop (k + 1)))⟩ : Ro E5)], ts⟩ := ⟨fun x hx => List.mem_append_left _ hx, fun _ h => h⟩
      exact ⟨(upM nw i (⟨p33, c34, (((roG (nw i)).l.take k) ++ ((roG (nw i)).l.drop (k + 1)))⟩ : Ro E5)), od, (upM bn p true), sc, _, ts, hR.setNw hle (List.mem_append_right _ (List.mem_singleton.2 rfl)) ((hR.nwOk i).cut k), hle, RA_prov hE (hR.nwOk i) hx12 (by show (x12.bg, x12.ln) = (bg, ln); rw [hb19.2.1, hb19.2.2]) rfl, rfl, H42.takes [3, 4, 5, 6, 7, 0, 8, 9] (by decide)⟩
    ·
     refine g_cond_t rfl (nt hb19) ?_
     refine g_exit ?_
     refine g_then_exit ?_
     refine g_in_hit ?_
     refine g_then ?_
     refine g_region ?_
     refine w_b (v := .int .i64 (((k + 1 : Nat) : Int))) (hb := (b_add (by rw [w64 (by omega)]; omega))) ?_
     refine w_m ?_
     refine w_e ?_
     refine g_round (i := (k)) ((k + 1)) ?_ ?_ ?_
     · exact ⟨rfl, rfl, rfl, rfl, rfl, rfl, rfl, trivial⟩
     · exact ⟨by omega, (none_take hno hx12 (fun hc => by exact hb19 ⟨hpcx12, hc.2.1, hc.2.2⟩)), (H17.mask [false, true, true, true, true, true, true, true, true, true])⟩
     · (try dsimp only); omega
   ·
    refine w_n (nt hb18) ?_
    refine w_n (nt hb18) ?_
    refine w_n (nt hb18) ?_
    refine w_n (nt hb18) ?_
    refine w_v (v := .bool true) (x_pick_t rfl rfl (nt hb18) rfl) ?_
    refine w_e ?_
    refine g_weak [(0, .pointer (some ⟨b, 0, none⟩)), (1, .int .i64 p), (3, .bool gd), (6, .pointer (some ⟨g1, 0, none⟩)), (10, .int .i64 ((k : Int))), (24, .slice (roG (nw i)).p ((roG (nw i)).l.length) ((roG (nw i)).c)), (25, .int .i64 (((roG (nw i)).l.length : Int))), (26, .int .i64 ((k : Int))), (40, .bool true)] ⟨rfl, rfl, rfl, rfl, rfl, rfl, rfl, rfl, rfl, trivial⟩ ?_
    refine g_cond_t rfl rfl ?_
    refine g_exit ?_
    refine g_then_exit ?_
    refine g_in_hit ?_
    refine g_then ?_
    refine g_region ?_
    refine w_b (v := .int .i64 (((k + 1 : Nat) : Int))) (hb := (b_add (by rw [w64 (by omega)]; omega))) ?_
    refine w_m ?_
    refine w_e ?_
    refine g_round (i := (k)) ((k + 1)) ?_ ?_ ?_
    · exact ⟨rfl, rfl, rfl, rfl, rfl, rfl, rfl, trivial⟩
    · exact ⟨by omega, (none_take hno hx12 (fun hc => by exact hb18 hc.1)), (H17.mask [false, true, true, true, true, true, true, true, true, true])⟩
    · (try dsimp only); omega
  ·
   refine g_cond_f rfl (decide_eq_false hb11) ?_
   refine g_exit ?_
   refine g_then_exit ?_
   refine g_then_exit ?_
   refine g_in_hit ?_
   refine g_then ?_
   refine w_s ?_
   refine w_r2 ?_
   refine w_e ?_
   refine g_ret ?_
   refine fin_ret [.tmp 8, .tmp 9] [.bool false, .int .i64 8] rfl ⟨rfl, rfl, trivial⟩ ?_
   rw [List.take_of_length_le (by omega)] at hno
   have hE : (provE (RA nw od bn sc) p i bg ln) = 8 := provE_8 hb6 (fun h9 => by obtain ⟨x, hx, h8⟩ := (prov_some (hR.nwOk i)).1 h9; exact hno x hx h8)
   rw [hE, (provA_not (gd := gd) hE (by simp)).2]
   exact ⟨nw, od, bn, sc, rs, ts, hR, .refl _, ((provA_not hE (by simp)).1).symm, rfl, H10.takes [1, 2, 3, 4, 5, 6, 7, 8] (by decide)⟩
 ·
  refine g_cond_t rfl (neg_of hb6) ?_
  refine w_s ?_
  refine w_r2 ?_
  refine w_e ?_
  refine g_ret ?_
  refine g_then_ret ?_
  refine fin_ret [.tmp 8, .tmp 9] [.bool false, .int .i64 7] rfl ⟨rfl, rfl, trivial⟩ ?_
  have hE : (provE (RA nw od bn sc) p i bg ln) = 7 := provE_7 hb6
  rw [hE, (provA_not (gd := gd) hE (by simp)).2]
  exact ⟨nw, od, bn, sc, rs, ts, hR, .refl _, ((provA_not hE (by simp)).1).symm, rfl, H5.takes [1, 2, 3, 4, 5, 6, 7, 8] (by decide)⟩
set_option maxRecDepth 20000 in
set_option maxHeartbeats 4000000 in
theorem rfail_s {b m1 m2 m3 m4 : Nat} {nw : Int → Option (Ro E5)} {od : Int → Option (Ro (Ro E5))} {bn : Int → Option Bool} {sc : Int → Option Int} {rs : List (Ro E5)} {ts : List (Ro (Ro E5))} (hR : RI nw od ⟨rs, ts⟩) {i : Int} (hok_i : okI i)  (w : World) (HS : S w [Ob b (.cells #[.map (some m1), .map (some m2), .map (some m3), .map (some m4)] 88 (0, 0)), Mp (Value.int .i64) roV okI m1 nw, Mp (Value.int .i64) roV okI m2 od, Mp (Value.int .i64) Value.bool okI m3 bn, Mp (Value.int .i64) (Value.int .i64) okI m4 sc, RowsI 109 5 e5L rs, RowsI 94 1 rowL ts]) : Calls Try.prog 40 #[.pointer (some ⟨b, 0, none⟩), .int .i64 i] w fun e w' => ∃ nw' od' bn' sc' rs' ts' pz cz , RI nw' od' ⟨rs', ts'⟩ ∧ RSt.le ⟨rs, ts⟩ ⟨rs', ts'⟩ ∧ RA nw' od' bn' sc' = failA (RA nw od bn sc) i ∧ e = .returned (.tuple #[.slice pz (failR (RA nw od bn sc) i).length cz, .int .i64 (endE (RA nw od bn sc) i)]) ∧ S w' ([Rw 3 1 pz ((failR (RA nw od bn sc) i).length) cz (fl intL (failR (RA nw od bn sc) i)), Ob b (.cells #[.map (some m1), .map (some m2), .map (some m3), .map (some m4)] 88 (0, 0)), Mp (Value.int .i64) roV okI m1 nw', Mp (Value.int .i64) roV okI m2 od', Mp (Value.int .i64) Value.bool okI m3 bn', Mp (Value.int .i64) (Value.int .i64) okI m4 sc', RowsI 109 5 e5L rs', RowsI 94 1 rowL ts'] ++ [Old w (fps [Ob b (.cells #[.map (some m1), .map (some m2), .map (some m3), .map (some m4)] 88 (0, 0)), Mp (Value.int .i64) roV okI m1 nw, Mp (Value.int .i64) roV okI m2 od, Mp (Value.int .i64) Value.bool okI m3 bn, Mp (Value.int .i64) (Value.int .i64) okI m4 sc, RowsI 109 5 e5L rs, RowsI 94 1 rowL ts])]) := by
 have H0 := HS.beginI
 have hln := (hR.nwOk i).len
 have hol := hR.odLen i
 have hwl := ascI_le ((roG (nw i)).l.map E5.pr)
 rw [List.length_map] at hwl
 refine enter 104 Try.func40 rfl rfl rfl ?_
 refine g_weak [(0, .pointer (some ⟨b, 0, none⟩)), (1, .int .i64 i)] ⟨rfl, rfl, trivial⟩ ?_
 refine w_s ?_
 refine w_r2 ?_
 refine w_e ?_
 refine g_seq ?_
 refine w_s ?_
 refine w_m ?_
 refine l_of (s_call0 H0 (wt0 rfl) (x_call' rfl rfl cl67) (piece_r _ _) rfl rfl ?_)
 intro wq1 H2
 refine w_v (v := .bool (!((pieceB i)))) (x_not (b := (pieceB i)) rfl rfl) ?_
 refine w_e ?_
 rcases Bool.eq_false_or_eq_true ((pieceB i)) with hb3 | hb3
 ·
  refine g_cond_f rfl (neg_of hb3) ?_
  refine g_skip ?_
  refine g_then ?_
  refine w_s ?_
  refine w_r3 ?_
  refine w_1 H2 0 ?_
  refine w_m ?_
  refine w_v (v := .slice (roG (nw i)).p ((roG (nw i)).l.length) ((roG (nw i)).c)) (ex_cast (x_lookup1 (x := i) (intTy Try.underlying85 Try.underlying3) H2 1 rfl rfl rfl rfl (hok_i) ze94) (look_G _)) ?_
  refine w_a ?_
  refine w_e ?_
  refine g_seq ?_
  refine w_s ?_
  refine w_m ?_
  refine w_v (v := .int .i64 (((roG (nw i)).l.length : Int))) (x_lenl rfl rfl Try.underlying94) ?_
  refine w_b ?_
  refine w_e ?_
  refine g_weak [(0, .pointer (some ⟨b, 0, none⟩)), (1, .int .i64 i), (6, .slice (roG (nw i)).p ((roG (nw i)).l.length) ((roG (nw i)).c)), (22, .bool (decide ((((roG (nw i)).l.length : Int) : Int) = 0)))] ⟨rfl, rfl, rfl, rfl, trivial⟩ ?_
  by_cases hb4 : (((roG (nw i)).l.length : Int) : Int) = 0
  ·
   have hem : (roG (nw i)).l = [] := List.eq_nil_of_length_eq_zero (by omega)
   have hem2 : (RA nw od bn sc).nw i = noT := by show trE (roG (nw i)).l = noT; rw [hem]; rfl
   refine g_cond_t rfl (decide_eq_true hb4) ?_
   refine w_s ?_
   refine w_r2 ?_
   refine w_e ?_
   refine g_ret ?_
   refine g_then_ret ?_
   refine fin_ret [.tmp 4, .tmp 5] [.slice none 0 0, .int .i64 8] rfl ⟨rfl, rfl, trivial⟩ ?_
   have H5 := H2.nilFl 3 1 intL
   have hE : (endE (RA nw od bn sc) i) = 8 := endE_8 hb3 hem2
   obtain ⟨e1, e2, _⟩ := failA_err hE (by decide)
   rw [hE, e2]
   exact ⟨nw, od, bn, sc, rs, ts, none, 0, hR, .refl _, e1.symm, rfl, H5.takes [0, 1, 2, 3, 4, 5, 6, 7, 8] (by decide)⟩
  ·
   have hne : ¬ (roG (nw i)).l = [] := fun h9 => hb4 (by rw [h9]; rfl)
   have hW0 := who_pos hne
   refine g_cond_f rfl (decide_eq_false hb4) ?_
   refine g_skip ?_
   refine g_then ?_
   refine w_s ?_
   refine w_r3 ?_
   refine w_1 H2 0 ?_
   refine w_m ?_
   refine l_of (s_delete (x := i) (intTy Try.underlying85 Try.underlying3) H2 1 (wt0 rfl) rfl rfl rfl rfl rfl (hok_i) ?_)
   intro wq6 H7
   refine w_e ?_
   refine g_seq ?_
   refine g_any [] (fun wx => S wx [Ob b (.cells #[.map (some m1), .map (some m2), .map (some m3), .map (some m4)] 88 (0, 0)), Mp (Value.int .i64) roV okI m1 (delM nw i), Mp (Value.int .i64) roV okI m2 od, Mp (Value.int .i64) Value.bool okI m3 bn, Mp (Value.int .i64) (Value.int .i64) okI m4 sc, RowsI 109 5 e5L rs, RowsI 94 1 rowL ts, Old w (fps [Ob b (.cells #[.map (some m1), .map (some m2), .map (some m3), .map (some m4)] 88 (0, 0)), Mp (Value.int .i64) roV okI m1 nw, Mp (Value.int .i64) roV okI m2 od, Mp (Value.int .i64) Value.bool okI m3 bn, Mp (Value.int .i64) (Value.int .i64) okI m4 sc, RowsI 109 5 e5L rs, RowsI 94 1 rowL ts])]) [16] (by kernel_rfl) H7 (fun wq8 H9 => ?_)
   refine w_t 0 rfl H9 (fun _ _ => xm) ?_
   refine w_t 1 rfl H9 (fun _ _ => xn) ?_
   refine w_t 2 rfl H9 (fun _ _ => xf 1) ?_
   refine w_t 3 rfl H9 (fun _ H => xl H 0) ?_
   refine w_t 4 rfl H9 (fun _ _ => xm) ?_
   refine w_t 6 rfl H9 (fun _ _ => xm) ?_
   refine w_t 7 rfl H9 (fun _ _ => xn) ?_
   refine w_t 8 rfl H9 (fun _ _ => xf 1) ?_
   refine w_t 9 rfl H9 (fun _ H => xl H 0) ?_
   refine w_t 10 rfl H9 (fun _ _ => xm) ?_
   refine w_t (v := .slice (roG (od i)).p ((roG (od i)).l.length) ((roG (od i)).c)) 11 rfl H9 (fun _ H => ex_cast (x_lookup1 (x := i) (intTy Try.underlying86 Try.underlying3) H 2 rfl rfl rfl rfl (hok_i) ze95) (look_G _)) ?_
   refine w_t 13 rfl H9 (fun _ _ => xm) ?_
   refine a_two (i := 5) (j := 14) (by kernel_rfl) rfl rfl ?_ ?_
   ·
    refine s_buildSlice0 H9 (wt0 rfl) rfl rfl rfl Try.underlying95 sz94 ?_
    intro g10 wq11 H12
    replace H12 : S wq11 [Rw 94 1 (some ⟨g10, 0, none⟩) 0 0 (fl rowL ([] : List (Ro E5))), Ob b (.cells #[.map (some m1), .map (some m2), .map (some m3), .map (some m4)] 88 (0, 0)), Mp (Value.int .i64) roV okI m1 (delM nw i), Mp (Value.int .i64) roV okI m2 od, Mp (Value.int .i64) Value.bool okI m3 bn, Mp (Value.int .i64) (Value.int .i64) okI m4 sc, RowsI 109 5 e5L rs, RowsI 94 1 rowL ts, Old w (fps [Ob b (.cells #[.map (some m1), .map (some m2), .map (some m3), .map (some m4)] 88 (0, 0)), Mp (Value.int .i64) roV okI m1 nw, Mp (Value.int .i64) roV okI m2 od, Mp (Value.int .i64) Value.bool okI m3 bn, Mp (Value.int .i64) (Value.int .i64) okI m4 sc, RowsI 109 5 e5L rs, RowsI 94 1 rowL ts])] := S.obFl rowE H12 (k := 0) rfl rfl (by decide) rfl
    refine a_k (H12.mask [false, true, true, true, true, true, true, true, true]) ?_
    refine a_two (i := 12) (j := 14) (by kernel_rfl) rfl rfl ?_ ?_
    ·
     have hln17a := (H12.rwReads (k := 0) rfl).lenL rowE
     have hln17b := ((rows_in (H12.at (k := 7) rfl) (hR.odIn i))).lenL rowE
     have hln17 : ((roG (od i)).l).length = 0 + ((roG (od i)).l.length) := by omega
     refine s_appLn (l := []) (l2 := (roG (od i)).l) rowE H12 0 (wt0 rfl) rfl rfl rfl rfl rfl rfl Try.underlying95 inf94 rfl (by decide) ((rows_in (H12.at (k := 7) rfl) (hR.odIn i))) (by omega) ?_
     intro p13 c14 wq15 H16
     rw [List.nil_append] at H16 ⊢
     replace H16 : S wq15 [Rw 94 1 p13 (((roG (od i)).l).length) c14 (fl rowL ((roG (od i)).l)), Ob b (.cells #[.map (some m1), .map (some m2), .map (some m3), .map (some m4)] 88 (0, 0)), Mp (Value.int .i64) roV okI m1 (delM nw i), Mp (Value.int .i64) roV okI m2 od, Mp (Value.int .i64) Value.bool okI m3 bn, Mp (Value.int .i64) (Value.int .i64) okI m4 sc, RowsI 109 5 e5L rs, RowsI 94 1 rowL ts, Old w (fps [Ob b (.cells #[.map (some m1), .map (some m2), .map (some m3), .map (some m4)] 88 (0, 0)), Mp (Value.int .i64) roV okI m1 nw, Mp (Value.int .i64) roV okI m2 od, Mp (Value.int .i64) Value.bool okI m3 bn, Mp (Value.int .i64) (Value.int .i64) okI m4 sc, RowsI 109 5 e5L rs, RowsI 94 1 rowL ts])] := H16
     refine a_k (H16.mask [false, true, true, true, true, true, true, true, true]) ?_
     refine a_one (i := 14) (by kernel_rfl) rfl ?_
     refine s_buildSlice H16 (wt0 rfl) rfl rfl rfl (vs := [.slice (roG (nw i)).p ((roG (nw i)).l.length) ((roG (nw i)).c)]) rfl Try.underlying95 sz94 ze94 rfl rfl (cells := #[.slice (roG (nw i)).p ((roG (nw i)).l.length) ((roG (nw i)).c)]) (by kernel_rfl) ?_
     intro g18 wq19 H20
     refine a_k (H20.mask [false, false, true, true, true, true, true, true, true, true]) ?_
     refine a_one (i := 15) (by kernel_rfl) rfl ?_
     have hln25a := (H20.rwReads (k := 1) rfl).lenL rowE
     have hln25 : ((roG (od i)).l ++ [(roG (nw i))]).length = (((roG (od i)).l).length) + 1 := by simp only [List.length_append, List.length_cons, List.length_nil] <;> omega
     refine s_appBn (m := 1) (l := (roG (od i)).l) (l2 := [(roG (nw i))]) rowE H20 1 (j0 := 0) rfl rfl ⟨rfl, Nat.le_refl _⟩ (wt0 rfl) rfl rfl rfl rfl rfl rfl Try.underlying95 inf94 rfl (by decide) (by omega) ?_
     intro p21 c22 wq23 H24
     refine a_k (H24.mask [false, false, true, true, true, true, true, true, true, true]) ?_
     refine a_one (i := 16) (by kernel_rfl) rfl ?_
     refine s_mapUpdate (x := i) (a := (⟨p21, c22, ((roG (od i)).l ++ [(roG (nw i))])⟩ : Ro (Ro E5))) (intTy Try.underlying86 Try.underlying3) H24 4 (wt0 rfl) rfl rfl rfl rfl rfl rfl (hok_i) ?_
     intro wq26 H27
     refine a_kt rfl ?_
     refine a_done (by kernel_rfl) ?_
     refine g_then ?_
     refine g_weak [(0, .pointer (some ⟨b, 0, none⟩)), (1, .int .i64 i), (6, .slice (roG (nw i)).p ((roG (nw i)).l.length) ((roG (nw i)).c))] ⟨rfl, rfl, rfl, trivial⟩ ?_
     refine g_seq ?_
     refine w_s ?_
     refine w_r3 ?_
     refine w_1 H27 2 ?_
     refine w_m ?_
     refine w_v (v := .slice p21 (((roG (od i)).l ++ [(roG (nw i))]).length) c22) (ex_cast (x_lookup1 (x := i) (intTy Try.underlying86 Try.underlying3) H27 4 rfl rfl rfl rfl (hok_i) ze95) ((by rw [upM_self]; rfl))) ?_
     refine w_v (v := .int .i64 ((((roG (od i)).l ++ [(roG (nw i))]).length : Int))) (x_lenl rfl rfl Try.underlying95) ?_
     refine w_a ?_
     refine w_e ?_
     refine w_s ?_
     refine w_m ?_
     refine w_b ?_
     refine w_e ?_
     by_cases hb28 : (10 : Int) < (((roG (od i)).l ++ [(roG (nw i))]).length : Int)
     ·
      refine g_cond_t rfl (decide_eq_true hb28) ?_
      refine g_any [] (fun wx => S wx [Ob g18 (.cells #[.slice (roG (nw i)).p ((roG (nw i)).l.length) ((roG (nw i)).c)] 94 (0, 0)), Rw 94 1 p21 (((roG (od i)).l ++ [(roG (nw i))]).length) c22 (fl rowL ((roG (od i)).l ++ [(roG (nw i))])), Ob b (.cells #[.map (some m1), .map (some m2), .map (some m3), .map (some m4)] 88 (0, 0)), Mp (Value.int .i64) roV okI m1 (delM nw i), Mp (Value.int .i64) roV okI m2 (upM od i (⟨p21, c22, ((roG (od i)).l ++ [(roG (nw i))])⟩ : Ro (Ro E5))), Mp (Value.int .i64) Value.bool okI m3 bn, Mp (Value.int .i64) (Value.int .i64) okI m4 sc, RowsI 109 5 e5L rs, RowsI 94 1 rowL ts, Old w (fps [Ob b (.cells #[.map (some m1), .map (some m2), .map (some m3), .map (some m4)] 88 (0, 0)), Mp (Value.int .i64) roV okI m1 nw, Mp (Value.int .i64) roV okI m2 od, Mp (Value.int .i64) Value.bool okI m3 bn, Mp (Value.int .i64) (Value.int .i64) okI m4 sc, RowsI 109 5 e5L rs, RowsI 94 1 rowL ts])]) [14] (by kernel_rfl) H27 (fun wq29 H30 => ?_)
      refine w_t 0 rfl H30 (fun _ _ => xm) ?_
      refine w_t 1 rfl H30 (fun _ _ => xn) ?_
      refine w_t 2 rfl H30 (fun _ _ => xf 1) ?_
      refine w_t 3 rfl H30 (fun _ H => xl H 2) ?_
      refine w_t 4 rfl H30 (fun _ _ => xm) ?_
      refine w_t 5 rfl H30 (fun _ _ => xm) ?_
      refine w_t 6 rfl H30 (fun _ _ => xn) ?_
      refine w_t 7 rfl H30 (fun _ _ => xf 1) ?_
      refine w_t 8 rfl H30 (fun _ H => xl H 2) ?_
      refine w_t 9 rfl H30 (fun _ _ => xm) ?_
      refine w_t (v := .slice p21 (((roG (od i)).l ++ [(roG (nw i))]).length) c22) 10 rfl H30 (fun _ H => ex_cast (x_lookup1 (x := i) (intTy Try.underlying86 Try.underlying3) H 4 rfl rfl rfl rfl (hok_i) ze95) ((by rw [upM_self]; rfl))) ?_
      refine w_t 11 rfl H30 (fun _ _ => xm) ?_
      refine w_t (v := .int .i64 (((((roG (od i)).l ++ [(roG (nw i))]).length - 10 : Nat) : Int))) 12 rfl H30 (fun _ _ => x_bin rfl rfl rfl (b_subN (a := ((roG (od i)).l ++ [(roG (nw i))]).length) (b := 10) (by omega))) ?_
      have hnc := (H30.rwReads (k := 1) rfl).2.1
      have hnl := (H30.rwReads (k := 1) rfl).lenL rowE
      have hdl : (((roG (od i)).l ++ [(roG (nw i))]).drop (((roG (od i)).l ++ [(roG (nw i))]).length - 10)).length = (((roG (od i)).l ++ [(roG (nw i))]).length) - (((roG (od i)).l ++ [(roG (nw i))]).length - 10) := by rw [List.length_drop, ← hnl]
      refine w_t (v := .slice (cutP p21 (((roG (od i)).l ++ [(roG (nw i))]).length - 10) c22 1) ((((roG (od i)).l ++ [(roG (nw i))]).drop (((roG (od i)).l ++ [(roG (nw i))]).length - 10)).length) (c22 - (((roG (od i)).l ++ [(roG (nw i))]).length - 10))) 13 rfl H30 (fun _ _ => ex_cast (x_cut (((roG (od i)).l ++ [(roG (nw i))]).length - 10) rfl rfl rfl Try.underlying95 sz94 (by omega)) (by rw [List.length_drop, ← hnl])) ?_
      refine a_one (i := 14) (by kernel_rfl) rfl ?_
      refine s_mapUpdate (x := i) (a := (⟨(cutP p21 (((roG (od i)).l ++ [(roG (nw i))]).length - 10) c22 1), (c22 - (((roG (od i)).l ++ [(roG (nw i))]).length - 10)), (((roG (od i)).l ++ [(roG (nw i))]).drop (((roG (od i)).l ++ [(roG (nw i))]).length - 10))⟩ : Ro (Ro E5))) (intTy Try.underlying86 Try.underlying3) H30 4 (wt0 rfl) rfl rfl rfl rfl rfl rfl (hok_i) ?_
      intro wq31 H32
      refine a_kt rfl ?_
      refine a_done (by kernel_rfl) ?_
      refine g_then ?_
      refine g_weak [(0, .pointer (some ⟨b, 0, none⟩)), (6, .slice (roG (nw i)).p ((roG (nw i)).l.length) ((roG (nw i)).c))] ⟨rfl, rfl, trivial⟩ ?_
      refine w_s ?_
      refine w_m ?_
      refine l_of (s_call (wt0 rfl) (x_call' rfl rfl cl68) (who_r (roG (nw i)).p ((roG (nw i)).l.length) ((roG (nw i)).c) (roG (nw i)).l (by omega) _ ((rows_in (H32.at (k := 7) rfl) (hR.nwIn i)))) ?_)
      rintro _ wq36 ⟨p33, c34, rfl, H37⟩
      replace H37 : S wq36 [Rw 3 1 p33 ((ascI ((roG (nw i)).l.map E5.pr)).length) c34 (fl intL (ascI ((roG (nw i)).l.map E5.pr))), Ob g18 (.cells #[.slice (roG (nw i)).p ((roG (nw i)).l.length) ((roG (nw i)).c)] 94 (0, 0)), Rw 94 1 p21 (((roG (od i)).l ++ [(roG (nw i))]).length) c22 (fl rowL ((roG (od i)).l ++ [(roG (nw i))])), Ob b (.cells #[.map (some m1), .map (some m2), .map (some m3), .map (some m4)] 88 (0, 0)), Mp (Value.int .i64) roV okI m1 (delM nw i), Mp (Value.int .i64) roV okI m2 (upM (upM od i (⟨p21, c22, ((roG (od i)).l ++ [(roG (nw i))])⟩ : Ro (Ro E5))) i (⟨(cutP p21 (((roG (od i)).l ++ [(roG (nw i))]).length - 10) c22 1), (c22 - (((roG (od i)).l ++ [(roG (nw i))]).length - 10)), (((roG (od i)).l ++ [(roG (nw i))]).drop (((roG (od i)).l ++ [(roG (nw i))]).length - 10))⟩ : Ro (Ro E5))), Mp (Value.int .i64) Value.bool okI m3 bn, Mp (Value.int .i64) (Value.int .i64) okI m4 sc, RowsI 109 5 e5L rs, RowsI 94 1 rowL ts, Old w (fps [Ob b (.cells #[.map (some m1), .map (some m2), .map (some m3), .map (some m4)] 88 (0, 0)), Mp (Value.int .i64) roV okI m1 nw, Mp (Value.int .i64) roV okI m2 od, Mp (Value.int .i64) Value.bool okI m3 bn, Mp (Value.int .i64) (Value.int .i64) okI m4 sc, RowsI 109 5 e5L rs, RowsI 94 1 rowL ts])] := by have h := H32.absorb H37; exact h
      refine b_ret rfl rfl ?_
      refine w_a ?_
      refine w_e ?_
      refine g_seq ?_
      refine w_s ?_
      refine w_m ?_
      refine w_v (v := .int .i64 (((ascI ((roG (nw i)).l.map E5.pr)).length : Int))) (x_lenl rfl rfl Try.underlying24) ?_
      refine w_m ?_
      refine w_e ?_
      refine g_block ?_
      refine g_loop (ι := Nat × (Int → Option Int)) (fun (k, M) => [(0, .pointer (some ⟨b, 0, none⟩)), (8, .slice p33 ((ascI ((roG (nw i)).l.map E5.pr)).length) c34), (69, .slice p33 ((ascI ((roG (nw i)).l.map E5.pr)).length) c34), (70, .int .i64 (((ascI ((roG (nw i)).l.map E5.pr)).length : Int))), (71, .int .i64 ((k : Int)))]) (fun (k, M) wx => (k ≤ (ascI ((roG (nw i)).l.map E5.pr)).length) ∧ (∀ y, (M y).getD 0 = if y ∈ (ascI ((roG (nw i)).l.map E5.pr)).take k then IntKind.i64.wrap ((sc y).getD 0 + 1) else (sc y).getD 0) ∧ S wx [Rw 3 1 p33 ((ascI ((roG (nw i)).l.map E5.pr)).length) c34 (fl intL (ascI ((roG (nw i)).l.map E5.pr))), Ob g18 (.cells #[.slice (roG (nw i)).p ((roG (nw i)).l.length) ((roG (nw i)).c)] 94 (0, 0)), Rw 94 1 p21 (((roG (od i)).l ++ [(roG (nw i))]).length) c22 (fl rowL ((roG (od i)).l ++ [(roG (nw i))])), Ob b (.cells #[.map (some m1), .map (some m2), .map (some m3), .map (some m4)] 88 (0, 0)), Mp (Value.int .i64) roV okI m1 (delM nw i), Mp (Value.int .i64) roV okI m2 (upM (upM od i (⟨p21, c22, ((roG (od i)).l ++ [(roG (nw i))])⟩ : Ro (Ro E5))) i (⟨(cutP p21 (((roG (od i)).l ++ [(roG (nw i))]).length - 10) c22 1), (c22 - (((roG (od i)).l ++ [(roG (nw i))]).length - 10)), (((roG (od i)).l ++ [(roG (nw i))]).drop (((roG (od i)).l ++ [(roG (nw i))]).length - 10))⟩ : Ro (Ro E5))), Mp (Value.int .i64) Value.bool okI m3 bn, Mp (Value.int .i64) (Value.int .i64) okI m4 M, RowsI 109 5 e5L rs, RowsI 94 1 rowL ts, Old w (fps [Ob b (.cells #[.map (some m1), .map (some m2), .map (some m3), .map (some m4)] 88 (0, 0)), Mp (Value.int .i64) roV okI m1 nw, Mp (Value.int .i64) roV okI m2 od, Mp (Value.int .i64) Value.bool okI m3 bn, Mp (Value.int .i64) (Value.int .i64) okI m4 sc, RowsI 109 5 e5L rs, RowsI 94 1 rowL ts])]) (fun (k, M) => ((ascI ((roG (nw i)).l.map E5.pr)).length) - k) (0, sc) ⟨rfl, rfl, rfl, rfl, rfl, trivial⟩ ⟨Nat.zero_le _, (fun y => by simp), H37⟩ ?_
      rintro ⟨k, M⟩ wq38 ⟨hk, hM, H39⟩
      refine g_weak [(0, .pointer (some ⟨b, 0, none⟩)), (8, .slice p33 ((ascI ((roG (nw i)).l.map E5.pr)).length) c34), (69, .slice p33 ((ascI ((roG (nw i)).l.map E5.pr)).length) c34), (70, .int .i64 (((ascI ((roG (nw i)).l.map E5.pr)).length : Int))), (71, .int .i64 ((k : Int)))] ⟨rfl, rfl, rfl, rfl, rfl, trivial⟩ ?_
      refine w_s ?_
      refine w_b ?_
      refine w_e ?_
      refine g_seq ?_
      by_cases hb40 : ((k : Int) : Int) < ((ascI ((roG (nw i)).l.map E5.pr)).length : Int)
      ·
       refine g_cond_t rfl (decide_eq_true hb40) ?_
       refine g_skip ?_
       refine g_then ?_
       refine g_seq ?_
       refine g_block ?_
       refine w_s ?_
       refine w_v (v := .pointer ((p33).map fun q => q.add (k * 1))) (x_idxR k (H39.rwReads (k := 0) rfl) rfl rfl rfl Try.underlying24 sz3 (by omega)) ?_
       have hlq := (H39.rwReads (k := 0) rfl).lenL intE
       obtain ⟨x41, hx41⟩ := ex_at (l := (ascI ((roG (nw i)).l.map E5.pr))) (j := k) (by omega)
       clear hlq
       have hok_x41 : okI x41 := okI_in (who_in (hR.nwOk i) (List.mem_of_getElem? hx41))
       refine w_v (v := .int .i64 x41) (x_loadR1 k (H39.rwReads (k := 0) rfl) (by omega) rfl rfl Try.underlying3 rfl (intE.flAt1 hx41 rfl)) ?_
       refine w_a ?_
       refine w_e ?_
       refine g_region ?_
       refine w_r3 ?_
       refine w_1 H39 3 ?_
       refine w_m ?_
       refine w_v (v := .int .i64 (((M x41).getD 0))) (ex_cast (x_lookup1 (x := x41) (intTy Try.underlying60 Try.underlying3) H39 7 rfl rfl rfl rfl (hok_x41) ze3) (look_I _)) ?_
       refine w_b (v := .int .i64 (IntKind.i64.wrap (((M x41).getD 0) + 1))) (hb := (b_add rfl)) ?_
       refine l_of (s_mapUpdate (x := x41) (a := IntKind.i64.wrap (((M x41).getD 0) + 1)) (intTy Try.underlying60 Try.underlying3) H39 7 (wt0 rfl) rfl rfl rfl rfl rfl rfl (hok_x41) ?_)
       intro wq42 H43
       refine g_nil ?_
       refine g_in ?_
       refine g_then ?_
       refine g_region ?_
       refine w_b (v := .int .i64 (((k + 1 : Nat) : Int))) (hb := (b_add (by rw [w64 (by omega)]; omega))) ?_
       refine w_m ?_
       refine w_e ?_
       refine g_round (i := (k, M)) ((k + 1), (upM M x41 (IntKind.i64.wrap (((M x41).getD 0) + 1)))) ?_ ?_ ?_
       · exact ⟨rfl, rfl, rfl, rfl, rfl, trivial⟩
       · exact ⟨by omega, (score_next (ascI_lt _) hx41 hM), H43⟩
       · (try dsimp only); omega
      ·
       refine g_cond_f rfl (decide_eq_false hb40) ?_
       refine g_exit ?_
       refine g_then_exit ?_
       refine g_then_exit ?_
       refine g_in_hit ?_
       refine g_then ?_
       refine g_seq ?_
       refine g_seq ?_
       refine g_quiet (by kernel_rfl) (by kernel_rfl) H39 ?_
       refine q_val (v := .slice p33 ((ascI ((roG (nw i)).l.map E5.pr)).length) c34) (wt0 rfl) rfl rfl (fun wx H => x_move rfl rfl) ?_
       refine q_val (v := .int .i64 (((ascI ((roG (nw i)).l.map E5.pr)).length : Int))) (wt0 rfl) rfl rfl (fun wx H => x_lenl rfl rfl Try.underlying24) ?_
       refine q_val (v := .bool (decide ((1 : Int) < ((ascI ((roG (nw i)).l.map E5.pr)).length : Int)))) (wt0 rfl) rfl rfl (fun wx H => x_bin rfl rfl rfl b_gtr) ?_
       refine q_val (v := .bool (decide ((1 : Int) < ((ascI ((roG (nw i)).l.map E5.pr)).length : Int)))) (wt0 rfl) rfl rfl (fun wx H => x_move rfl rfl) ?_
       by_cases hb44 : (1 : Int) < ((ascI ((roG (nw i)).l.map E5.pr)).length : Int)
       ·
        refine q_not (wn1 rfl rfl rfl rfl (decide_eq_true hb44)) rfl rfl ?_
        refine q_not (wn1 rfl rfl rfl rfl (decide_eq_true hb44)) rfl rfl ?_
        refine q_not (wn1 rfl rfl rfl rfl (decide_eq_true hb44)) rfl rfl ?_
        refine q_not (wn1 rfl rfl rfl rfl (decide_eq_true hb44)) rfl rfl ?_
        refine q_not (wn1 rfl rfl rfl rfl (decide_eq_true hb44)) rfl rfl ?_
        refine q_not (wn1 rfl rfl rfl rfl (decide_eq_true hb44)) rfl rfl ?_
        refine q_not (wn1 rfl rfl rfl rfl (decide_eq_true hb44)) rfl rfl ?_
        refine q_not (wn1 rfl rfl rfl rfl (decide_eq_true hb44)) rfl rfl ?_
        refine q_val (v := .bool true) (wt0 rfl) rfl rfl (fun wx H => x_pick_t rfl rfl (decide_eq_true hb44) rfl) ?_
        refine q_nil (fun wq45 H46 => ?_)
        refine g_then ?_
        refine g_weak [(0, .pointer (some ⟨b, 0, none⟩)), (8, .slice p33 ((ascI ((roG (nw i)).l.map E5.pr)).length) c34), (95, .bool true)] ⟨rfl, rfl, rfl, trivial⟩ ?_
        refine g_cond_t rfl rfl ?_
        refine w_s ?_
        refine w_r2 ?_
        refine w_e ?_
        refine g_ret ?_
        refine g_then_ret ?_
        refine fin_ret [.tmp 4, .tmp 5] [.slice none 0 0, .int .i64 0] rfl ⟨rfl, rfl, trivial⟩ ?_
        have H47 : S wq45 [Rw 3 1 p33 ((ascI ((roG (nw i)).l.map E5.pr)).length) c34 (fl intL (ascI ((roG (nw i)).l.map E5.pr))), Ob g18 (.cells #[.slice (roG (nw i)).p ((roG (nw i)).l.length) ((roG (nw i)).c)] 94 (0, 0)), Rw 94 1 (cutP p21 (((roG (od i)).l ++ [(roG (nw i))]).length - 10) c22 1) (((roG (od i)).l ++ [(roG (nw i))]).length - (((roG (od i)).l ++ [(roG (nw i))]).length - 10)) (c22 - (((roG (od i)).l ++ [(roG (nw i))]).length - 10)) (fl rowL (((roG (od i)).l ++ [(roG (nw i))]).drop (((roG (od i)).l ++ [(roG (nw i))]).length - 10))), Ob b (.cells #[.map (some m1), .map (some m2), .map (some m3), .map (some m4)] 88 (0, 0)), Mp (Value.int .i64) roV okI m1 (delM nw i), Mp (Value.int .i64) roV okI m2 (upM (upM od i (⟨p21, c22, ((roG (od i)).l ++ [(roG (nw i))])⟩ : Ro (Ro E5))) i (⟨(cutP p21 (((roG (od i)).l ++ [(roG (nw i))]).length - 10) c22 1), (c22 - (((roG (od i)).l ++ [(roG (nw i))]).length - 10)), (((roG (od i)).l ++ [(roG (nw i))]).drop (((roG (od i)).l ++ [(roG (nw i))]).length - 10))⟩ : Ro (Ro E5))), Mp (Value.int .i64) Value.bool okI m3 bn, Mp (Value.int .i64) (Value.int .i64) okI m4 M, RowsI 109 5 e5L rs, RowsI 94 1 rowL ts, Old w (fps [Ob b (.cells #[.map (some m1), .map (some m2), .map (some m3), .map (some m4)] 88 (0, 0)), Mp (Value.int .i64) roV okI m1 nw, Mp (Value.int .i64) roV okI m2 od, Mp (Value.int .i64) Value.bool okI m3 bn, Mp (Value.int .i64) (Value.int .i64) okI m4 sc, RowsI 109 5 e5L rs, RowsI 94 1 rowL ts])] := H46.rwCutL rowE (k := 2) rfl (((roG (od i)).l ++ [(roG (nw i))]).length - 10) (by omega)
        obtain ⟨q9, hq9⟩ : ∃ q9 : Ro (Ro E5), q9 = (⟨(cutP p21 (((roG (od i)).l ++ [(roG (nw i))]).length - 10) c22 1), (c22 - (((roG (od i)).l ++ [(roG (nw i))]).length - 10)), (((roG (od i)).l ++ [(roG (nw i))]).drop (((roG (od i)).l ++ [(roG (nw i))]).length - 10))⟩ : Ro (Ro E5)) := ⟨_, rfl⟩
        have H48 : S wq45 [RowsI 94 1 rowL (ts ++ [q9]), Rw 3 1 p33 ((ascI ((roG (nw i)).l.map E5.pr)).length) c34 (fl intL (ascI ((roG (nw i)).l.map E5.pr))), Ob g18 (.cells #[.slice (roG (nw i)).p ((roG (nw i)).l.length) ((roG (nw i)).c)] 94 (0, 0)), Ob b (.cells #[.map (some m1), .map (some m2), .map (some m3), .map (some m4)] 88 (0, 0)), Mp (Value.int .i64) roV okI m1 (delM nw i), Mp (Value.int .i64) roV okI m2 (upM od i q9), Mp (Value.int .i64) Value.bool okI m3 bn, Mp (Value.int .i64) (Value.int .i64) okI m4 M, RowsI 109 5 e5L rs, Old w (fps [Ob b (.cells #[.map (some m1), .map (some m2), .map (some m3), .map (some m4)] 88 (0, 0)), Mp (Value.int .i64) roV okI m1 nw, Mp (Value.int .i64) roV okI m2 od, Mp (Value.int .i64) Value.bool okI m3 bn, Mp (Value.int .i64) (Value.int .i64) okI m4 sc, RowsI 109 5 e5L rs, RowsI 94 1 rowL ts])] := by
         have h8 := S.rowsAdd (H47.takes [9, 2, 0, 1, 3, 4, 5, 6, 7, 8, 10] (by decide)) (by rw [List.length_drop])
         rw [upM_upM] at h8
         rw [← hq9] at h8
         exact h8
        have hqq : q9.l = lastTen ((roG (od i)).l ++ [roG (nw i)]) := by rw [hq9]; exact rfl
        have hkk : k = (ascI ((roG (nw i)).l.map E5.pr)).length := by omega
        subst hkk
        rw [List.take_length] at hM
        have hE : (endE (RA nw od bn sc) i) = 0 := endE_0 hb3 rfl hne
        have hFR := failR_eq hE
        have hwo : whoL (trE (roG (nw i)).l) = (ascI ((roG (nw i)).l.map E5.pr)) := whoE (hR.nwOk i)
        have hfl : failL (trE (roG (nw i)).l) = [] := by unfold failL; rw [hwo, if_neg (by omega)]
        have H49 := H48.nilFl 3 1 intL
        rw [hfl, banL_nil] at hFR
        rw [hE, hFR]
        exact ⟨delM nw i, upM od i q9, bn, M, rs, ts ++ [q9], none, 0, hR.failQ hne hqq, ⟨fun _ h => h, fun x hx => List.mem_append_left _ hx⟩, RA_fail hE (hR.nwOk i) hqq hM (fun y => by rw [hfl]; simp), rfl, H49.takes [0, 4, 5, 6, 7, 8, 9, 1, 10] (by decide)⟩
       ·
        refine q_val (v := .pointer (some ⟨b, 0, none⟩)) (wt1 rfl rfl rfl rfl (decide_eq_false hb44)) rfl rfl (fun wx H => x_move rfl rfl) ?_
        refine q_val (v := .pointer (some ⟨b, 0, none⟩)) (wt1 rfl rfl rfl rfl (decide_eq_false hb44)) rfl rfl (fun wx H => x_nilCheck rfl rfl) ?_
        refine q_val (v := .pointer (some ⟨b, 2, none⟩)) (wt1 rfl rfl rfl rfl (decide_eq_false hb44)) rfl rfl (fun wx H => x_fieldAddr rfl rfl fo88_2 rfl) ?_
        refine q_val (v := .map (some m3)) (wt1 rfl rfl rfl rfl (decide_eq_false hb44)) rfl rfl (fun wx H => x_load1 H 3 rfl rfl Try.underlying29 rfl rfl rfl) ?_
        refine q_val (v := .slice p33 ((ascI ((roG (nw i)).l.map E5.pr)).length) c34) (wt1 rfl rfl rfl rfl (decide_eq_false hb44)) rfl rfl (fun wx H => x_move rfl rfl) ?_
        refine q_val (v := .pointer ((p33).map fun q => q.add (0 * 1))) (wt1 rfl rfl rfl rfl (decide_eq_false hb44)) rfl rfl (fun wx H => x_idxP 0 ((H39.rwReads (k := 0) rfl).some (by omega)) rfl rfl rfl Try.underlying24 sz3 (by omega)) ?_
        have hlq := (H39.rwReads (k := 0) rfl).lenL intE
        obtain ⟨x50, hx50⟩ := ex_at (l := (ascI ((roG (nw i)).l.map E5.pr))) (j := 0) (by omega)
        clear hlq
        have hok_x50 : okI x50 := okI_in (who_in (hR.nwOk i) (List.mem_of_getElem? hx50))
        refine q_val (v := .int .i64 x50) (wt1 rfl rfl rfl rfl (decide_eq_false hb44)) rfl rfl (fun wx H => x_loadR1 0 (H.rwReads (k := 0) rfl) (by omega) rfl rfl Try.underlying3 rfl (intE.flAt1 hx50 rfl)) ?_
        refine q_val (v := .bool (((bn x50).getD false))) (wt1 rfl rfl rfl rfl (decide_eq_false hb44)) rfl rfl (fun wx H => ex_cast (x_lookup1 (x := x50) (intTy Try.underlying29 Try.underlying3) H 6 rfl rfl rfl rfl (hok_x50) ze4) (look_B _)) ?_
        refine q_val (v := .bool (((bn x50).getD false))) (wt0 rfl) rfl rfl (fun wx H => x_pick_f rfl rfl (decide_eq_false hb44) rfl) ?_
        refine q_nil (fun wq51 H52 => ?_)
        refine g_then ?_
        refine g_weak [(0, .pointer (some ⟨b, 0, none⟩)), (8, .slice p33 ((ascI ((roG (nw i)).l.map E5.pr)).length) c34), (95, .bool (((bn x50).getD false)))] ⟨rfl, rfl, rfl, trivial⟩ ?_
        rcases Bool.eq_false_or_eq_true (((bn x50).getD false)) with hb53 | hb53
        ·
         refine g_cond_t rfl hb53 ?_
         refine w_s ?_
         refine w_r2 ?_
         refine w_e ?_
         refine g_ret ?_
         refine g_then_ret ?_
         refine fin_ret [.tmp 4, .tmp 5] [.slice none 0 0, .int .i64 0] rfl ⟨rfl, rfl, trivial⟩ ?_
         have H54 : S wq51 [Rw 3 1 p33 ((ascI ((roG (nw i)).l.map E5.pr)).length) c34 (fl intL (ascI ((roG (nw i)).l.map E5.pr))), Ob g18 (.cells #[.slice (roG (nw i)).p ((roG (nw i)).l.length) ((roG (nw i)).c)] 94 (0, 0)), Rw 94 1 (cutP p21 (((roG (od i)).l ++ [(roG (nw i))]).length - 10) c22 1) (((roG (od i)).l ++ [(roG (nw i))]).length - (((roG (od i)).l ++ [(roG (nw i))]).length - 10)) (c22 - (((roG (od i)).l ++ [(roG (nw i))]).length - 10)) (fl rowL (((roG (od i)).l ++ [(roG (nw i))]).drop (((roG (od i)).l ++ [(roG (nw i))]).length - 10))), Ob b (.cells #[.map (some m1), .map (some m2), .map (some m3), .map (some m4)] 88 (0, 0)), Mp (Value.int .i64) roV okI m1 (delM nw i), Mp (Value.int .i64) roV okI m2 (upM (upM od i (⟨p21, c22, ((roG (od i)).l ++ [(roG (nw i))])⟩ : Ro (Ro E5))) i (⟨(cutP p21 (((roG (od i)).l ++ [(roG (nw i))]).length - 10) c22 1), (c22 - (((roG (od i)).l ++ [(roG (nw i))]).length - 10)), (((roG (od i)).l ++ [(roG (nw i))]).drop (((roG (od i)).l ++ [(roG (nw i))]).length - 10))⟩ : Ro (Ro E5))), Mp (Value.int .i64) Value.bool okI m3 bn, Mp (Value.int .i64) (Value.int .i64) okI m4 M, RowsI 109 5 e5L rs, RowsI 94 1 rowL ts, Old w (fps [Ob b (.cells #[.map (some m1), .map (some m2), .map (some m3), .map (some m4)] 88 (0, 0)), Mp (Value.int .i64) roV okI m1 nw, Mp (Value.int .i64) roV okI m2 od, Mp (Value.int .i64) Value.bool okI m3 bn, Mp (Value.int .i64) (Value.int .i64) okI m4 sc, RowsI 109 5 e5L rs, RowsI 94 1 rowL ts])] := H52.rwCutL rowE (k := 2) rfl (((roG (od i)).l ++ [(roG (nw i))]).length - 10) (by omega)
         obtain ⟨q9, hq9⟩ : ∃ q9 : Ro (Ro E5), q9 = (⟨(cutP p21 (((roG (od i)).l ++ [(roG (nw i))]).length - 10) c22 1), (c22 - (((roG (od i)).l ++ [(roG (nw i))]).length - 10)), (((roG (od i)).l ++ [(roG (nw i))]).drop (((roG (od i)).l ++ [(roG (nw i))]).length - 10))⟩ : Ro (Ro E5)) := ⟨_, rfl⟩
         have H55 : S wq51 [RowsI 94 1 rowL (ts ++ [q9]), Rw 3 1 p33 ((ascI ((roG (nw i)).l.map E5.pr)).length) c34 (fl intL (ascI ((roG (nw i)).l.map E5.pr))), Ob g18 (.cells #[.slice (roG (nw i)).p ((roG (nw i)).l.length) ((roG (nw i)).c)] 94 (0, 0)), Ob b (.cells #[.map (some m1), .map (some m2), .map (some m3), .map (some m4)] 88 (0, 0)), Mp (Value.int .i64) roV okI m1 (delM nw i), Mp (Value.int .i64) roV okI m2 (upM od i q9), Mp (Value.int .i64) Value.bool okI m3 bn, Mp (Value.int .i64) (Value.int .i64) okI m4 M, RowsI 109 5 e5L rs, Old w (fps [Ob b (.cells #[.map (some m1), .map (some m2), .map (some m3), .map (some m4)] 88 (0, 0)), Mp (Value.int .i64) roV okI m1 nw, Mp (Value.int .i64) roV okI m2 od, Mp (Value.int .i64) Value.bool okI m3 bn, Mp (Value.int .i64) (Value.int .i64) okI m4 sc, RowsI 109 5 e5L rs, RowsI 94 1 rowL ts])] := by
          have h8 := S.rowsAdd (H54.takes [9, 2, 0, 1, 3, 4, 5, 6, 7, 8, 10] (by decide)) (by rw [List.length_drop])
          rw [upM_upM] at h8
          rw [← hq9] at h8
          exact h8
         have hqq : q9.l = lastTen ((roG (od i)).l ++ [roG (nw i)]) := by rw [hq9]; exact rfl
         have hkk : k = (ascI ((roG (nw i)).l.map E5.pr)).length := by omega
         subst hkk
         rw [List.take_length] at hM
         have hE : (endE (RA nw od bn sc) i) = 0 := endE_0 hb3 rfl hne
         have hFR := failR_eq hE
         have hwo : whoL (trE (roG (nw i)).l) = (ascI ((roG (nw i)).l.map E5.pr)) := whoE (hR.nwOk i)
         have hw1 := one_of hx50 (by omega)
         have hfl : failL (trE (roG (nw i)).l) = [x50] := by unfold failL; rw [hwo, hw1]; rfl
         rw [hfl, banL_one] at hFR
         have H56 := H55.nilFl 3 1 intL
         rw [if_pos (show (RA nw od bn sc).bn x50 = true from hb53)] at hFR
         rw [hE, hFR]
         exact ⟨delM nw i, upM od i q9, bn, M, rs, ts ++ [q9], none, 0, hR.failQ hne hqq, ⟨fun _ h => h, fun x hx => List.mem_append_left _ hx⟩, RA_fail hE (hR.nwOk i) hqq hM (fun y => by rw [hfl]; by_cases e : y = x50 <;> simp [e, hb53]), rfl, H56.takes [0, 4, 5, 6, 7, 8, 9, 1, 10] (by decide)⟩
        ·
         refine g_cond_f rfl hb53 ?_
         refine g_skip ?_
         refine g_then ?_
         refine g_seq ?_
         refine g_any [] (fun wx => S wx [Rw 3 1 p33 ((ascI ((roG (nw i)).l.map E5.pr)).length) c34 (fl intL (ascI ((roG (nw i)).l.map E5.pr))), Ob g18 (.cells #[.slice (roG (nw i)).p ((roG (nw i)).l.length) ((roG (nw i)).c)] 94 (0, 0)), Rw 94 1 p21 (((roG (od i)).l ++ [(roG (nw i))]).length) c22 (fl rowL ((roG (od i)).l ++ [(roG (nw i))])), Ob b (.cells #[.map (some m1), .map (some m2), .map (some m3), .map (some m4)] 88 (0, 0)), Mp (Value.int .i64) roV okI m1 (delM nw i), Mp (Value.int .i64) roV okI m2 (upM (upM od i (⟨p21, c22, ((roG (od i)).l ++ [(roG (nw i))])⟩ : Ro (Ro E5))) i (⟨(cutP p21 (((roG (od i)).l ++ [(roG (nw i))]).length - 10) c22 1), (c22 - (((roG (od i)).l ++ [(roG (nw i))]).length - 10)), (((roG (od i)).l ++ [(roG (nw i))]).drop (((roG (od i)).l ++ [(roG (nw i))]).length - 10))⟩ : Ro (Ro E5))), Mp (Value.int .i64) Value.bool okI m3 bn, Mp (Value.int .i64) (Value.int .i64) okI m4 M, RowsI 109 5 e5L rs, RowsI 94 1 rowL ts, Old w (fps [Ob b (.cells #[.map (some m1), .map (some m2), .map (some m3), .map (some m4)] 88 (0, 0)), Mp (Value.int .i64) roV okI m1 nw, Mp (Value.int .i64) roV okI m2 od, Mp (Value.int .i64) Value.bool okI m3 bn, Mp (Value.int .i64) (Value.int .i64) okI m4 sc, RowsI 109 5 e5L rs, RowsI 94 1 rowL ts])]) [7] (by kernel_rfl) H52 (fun wq57 H58 => ?_)
         refine w_t 0 rfl H58 (fun _ _ => xm) ?_
         refine w_t 1 rfl H58 (fun _ _ => xn) ?_
         refine w_t 2 rfl H58 (fun _ _ => xf 2) ?_
         refine w_t 3 rfl H58 (fun _ H => xl H 3) ?_
         refine w_t 4 rfl H58 (fun _ _ => xm) ?_
         refine w_t (v := .pointer ((p33).map fun q => q.add (0 * 1))) 5 rfl H58 (fun _ _ => x_idxP 0 ((H58.rwReads (k := 0) rfl).some (by omega)) rfl rfl rfl Try.underlying24 sz3 (by omega)) ?_
         refine w_t (v := .int .i64 x50) 6 rfl H58 (fun _ H => x_loadR1 0 (H.rwReads (k := 0) rfl) (by omega) rfl rfl Try.underlying3 rfl (intE.flAt1 hx50 rfl)) ?_
         refine a_one (i := 7) (by kernel_rfl) rfl ?_
         refine s_mapUpdate (x := x50) (a := true) (intTy Try.underlying29 Try.underlying3) H58 6 (wt0 rfl) rfl rfl rfl rfl rfl rfl (hok_x50) ?_
         intro wq59 H60
         refine a_kt rfl ?_
         refine a_done (by kernel_rfl) ?_
         refine g_then ?_
         refine w_s ?_
         refine w_r3 ?_
         refine w_e ?_
         refine g_ret ?_
         refine fin_ret [.tmp 4, .tmp 5] [.slice p33 ((ascI ((roG (nw i)).l.map E5.pr)).length) c34, .int .i64 0] rfl ⟨rfl, rfl, trivial⟩ ?_
         have H61 : S wq59 [Rw 3 1 p33 ((ascI ((roG (nw i)).l.map E5.pr)).length) c34 (fl intL (ascI ((roG (nw i)).l.map E5.pr))), Ob g18 (.cells #[.slice (roG (nw i)).p ((roG (nw i)).l.length) ((roG (nw i)).c)] 94 (0, 0)), Rw 94 1 (cutP p21 (((roG (od i)).l ++ [(roG (nw i))]).length - 10) c22 1) (((roG (od i)).l ++ [(roG (nw i))]).length - (((roG (od i)).l ++ [(roG (nw i))]).length - 10)) (c22 - (((roG (od i)).l ++ [(roG (nw i))]).length - 10)) (fl rowL (((roG (od i)).l ++ [(roG (nw i))]).drop (((roG (od i)).l ++ [(roG (nw i))]).length - 10))), Ob b (.cells #[.map (some m1), .map (some m2), .map (some m3), .map (some m4)] 88 (0, 0)), Mp (Value.int .i64) roV okI m1 (delM nw i), Mp (Value.int .i64) roV okI m2 (upM (upM od i (⟨p21, c22, ((roG (od i)).l ++ [(roG (nw i))])⟩ : Ro (Ro E5))) i (⟨(cutP p21 (((roG (od i)).l ++ [(roG (nw i))]).length - 10) c22 1), (c22 - (((roG (od i)).l ++ [(roG (nw i))]).length - 10)), (((roG (od i)).l ++ [(roG (nw i))]).drop (((roG (od i)).l ++ [(roG (nw i))]).length - 10))⟩ : Ro (Ro E5))), Mp (Value.int .i64) Value.bool okI m3 (upM bn x50 true), Mp (Value.int .i64) (Value.int .i64) okI m4 M, RowsI 109 5 e5L rs, RowsI 94 1 rowL ts, Old w (fps [Ob b (.cells #[.map (some m1), .map (some m2), .map (some m3), .map (some m4)] 88 (0, 0)), Mp (Value.int .i64) roV okI m1 nw, Mp (Value.int .i64) roV okI m2 od, Mp (Value.int .i64) Value.bool okI m3 bn, Mp (Value.int .i64) (Value.int .i64) okI m4 sc, RowsI 109 5 e5L rs, RowsI 94 1 rowL ts])] := H60.rwCutL rowE (k := 2) rfl (((roG (od i)).l ++ [(roG (nw i))]).length - 10) (by omega)
         obtain ⟨q9, hq9⟩ : ∃ q9 : Ro (Ro E5), q9 = (⟨(cutP p21 (((roG (od i)).l ++ [(roG (nw i))]).length - 10) c22 1), (c22 - (((roG (od i)).l ++ [(roG (nw i))]).length - 10)), (((roG (od i)).l ++ [(roG (nw i))]).drop (((roG (od i)).l ++ [(roG (nw i))]).length - 10))⟩ : Ro (Ro E5)) := ⟨_, rfl⟩
         have H62 : S wq59 [RowsI 94 1 rowL (ts ++ [q9]), Rw 3 1 p33 ((ascI ((roG (nw i)).l.map E5.pr)).length) c34 (fl intL (ascI ((roG (nw i)).l.map E5.pr))), Ob g18 (.cells #[.slice (roG (nw i)).p ((roG (nw i)).l.length) ((roG (nw i)).c)] 94 (0, 0)), Ob b (.cells #[.map (some m1), .map (some m2), .map (some m3), .map (some m4)] 88 (0, 0)), Mp (Value.int .i64) roV okI m1 (delM nw i), Mp (Value.int .i64) roV okI m2 (upM od i q9), Mp (Value.int .i64) Value.bool okI m3 (upM bn x50 true), Mp (Value.int .i64) (Value.int .i64) okI m4 M, RowsI 109 5 e5L rs, Old w (fps [Ob b (.cells #[.map (some m1), .map (some m2), .map (some m3), .map (some m4)] 88 (0, 0)), Mp (Value.int .i64) roV okI m1 nw, Mp (Value.int .i64) roV okI m2 od, Mp (Value.int .i64) Value.bool okI m3 bn, Mp (Value.int .i64) (Value.int .i64) okI m4 sc, RowsI 109 5 e5L rs, RowsI 94 1 rowL ts])] := by
          have h8 := S.rowsAdd (H61.takes [9, 2, 0, 1, 3, 4, 5, 6, 7, 8, 10] (by decide)) (by rw [List.length_drop])
          rw [upM_upM] at h8
          rw [← hq9] at h8
          exact h8
         have hqq : q9.l = lastTen ((roG (od i)).l ++ [roG (nw i)]) := by rw [hq9]; exact rfl
         have hkk : k = (ascI ((roG (nw i)).l.map E5.pr)).length := by omega
         subst hkk
         rw [List.take_length] at hM
         have hE : (endE (RA nw od bn sc) i) = 0 := endE_0 hb3 rfl hne
         have hFR := failR_eq hE
         have hwo : whoL (trE (roG (nw i)).l) = (ascI ((roG (nw i)).l.map E5.pr)) := whoE (hR.nwOk i)
         have hw1 := one_of hx50 (by omega)
         have hfl : failL (trE (roG (nw i)).l) = [x50] := by unfold failL; rw [hwo, hw1]; rfl
         rw [hfl, banL_one] at hFR
         rw [if_neg (show ¬ (RA nw od bn sc).bn x50 = true from fun h9 => by rw [show (RA nw od bn sc).bn x50 = false from hb53] at h9; cases h9)] at hFR
         rw [hE, hFR, ← hw1]
         exact ⟨delM nw i, upM od i q9, upM bn x50 true, M, rs, ts ++ [q9], p33, c34, hR.failQ hne hqq, ⟨fun _ h => h, fun x hx => List.mem_append_left _ hx⟩, RA_fail hE (hR.nwOk i) hqq hM (fun y => by rw [hfl]; unfold upM; by_cases e : y = x50 <;> simp [e]), rfl, H62.takes [1, 3, 4, 5, 6, 7, 8, 0, 9] (by decide)⟩
     ·
      refine g_cond_f rfl (decide_eq_false hb28) ?_
      refine g_skip ?_
      refine g_then ?_
      refine w_s ?_
      refine w_m ?_
      refine l_of (s_call (wt0 rfl) (x_call' rfl rfl cl68) (who_r (roG (nw i)).p ((roG (nw i)).l.length) ((roG (nw i)).c) (roG (nw i)).l (by omega) _ ((rows_in (H27.at (k := 7) rfl) (hR.nwIn i)))) ?_)
      rintro _ wq66 ⟨p63, c64, rfl, H67⟩
      replace H67 : S wq66 [Rw 3 1 p63 ((ascI ((roG (nw i)).l.map E5.pr)).length) c64 (fl intL (ascI ((roG (nw i)).l.map E5.pr))), Ob g18 (.cells #[.slice (roG (nw i)).p ((roG (nw i)).l.length) ((roG (nw i)).c)] 94 (0, 0)), Rw 94 1 p21 (((roG (od i)).l ++ [(roG (nw i))]).length) c22 (fl rowL ((roG (od i)).l ++ [(roG (nw i))])), Ob b (.cells #[.map (some m1), .map (some m2), .map (some m3), .map (some m4)] 88 (0, 0)), Mp (Value.int .i64) roV okI m1 (delM nw i), Mp (Value.int .i64) roV okI m2 (upM od i (⟨p21, c22, ((roG (od i)).l ++ [(roG (nw i))])⟩ : Ro (Ro E5))), Mp (Value.int .i64) Value.bool okI m3 bn, Mp (Value.int .i64) (Value.int .i64) okI m4 sc, RowsI 109 5 e5L rs, RowsI 94 1 rowL ts, Old w (fps [Ob b (.cells #[.map (some m1), .map (some m2), .map (some m3), .map (some m4)] 88 (0, 0)), Mp (Value.int .i64) roV okI m1 nw, Mp (Value.int .i64) roV okI m2 od, Mp (Value.int .i64) Value.bool okI m3 bn, Mp (Value.int .i64) (Value.int .i64) okI m4 sc, RowsI 109 5 e5L rs, RowsI 94 1 rowL ts])] := by have h := H27.absorb H67; exact h
      refine b_ret rfl rfl ?_
      refine w_a ?_
      refine w_e ?_
      refine g_weak [(0, .pointer (some ⟨b, 0, none⟩)), (8, .slice p63 ((ascI ((roG (nw i)).l.map E5.pr)).length) c64)] ⟨rfl, rfl, trivial⟩ ?_
      refine g_seq ?_
      refine w_s ?_
      refine w_m ?_
      refine w_v (v := .int .i64 (((ascI ((roG (nw i)).l.map E5.pr)).length : Int))) (x_lenl rfl rfl Try.underlying24) ?_
      refine w_m ?_
      refine w_e ?_
      refine g_block ?_
      refine g_loop (ι := Nat × (Int → Option Int)) (fun (k, M) => [(0, .pointer (some ⟨b, 0, none⟩)), (8, .slice p63 ((ascI ((roG (nw i)).l.map E5.pr)).length) c64), (69, .slice p63 ((ascI ((roG (nw i)).l.map E5.pr)).length) c64), (70, .int .i64 (((ascI ((roG (nw i)).l.map E5.pr)).length : Int))), (71, .int .i64 ((k : Int)))]) (fun (k, M) wx => (k ≤ (ascI ((roG (nw i)).l.map E5.pr)).length) ∧ (∀ y, (M y).getD 0 = if y ∈ (ascI ((roG (nw i)).l.map E5.pr)).take k then IntKind.i64.wrap ((sc y).getD 0 + 1) else (sc y).getD 0) ∧ S wx [Rw 3 1 p63 ((ascI ((roG (nw i)).l.map E5.pr)).length) c64 (fl intL (ascI ((roG (nw i)).l.map E5.pr))), Ob g18 (.cells #[.slice (roG (nw i)).p ((roG (nw i)).l.length) ((roG (nw i)).c)] 94 (0, 0)), Rw 94 1 p21 (((roG (od i)).l ++ [(roG (nw i))]).length) c22 (fl rowL ((roG (od i)).l ++ [(roG (nw i))])), Ob b (.cells #[.map (some m1), .map (some m2), .map (some m3), .map (some m4)] 88 (0, 0)), Mp (Value.int .i64) roV okI m1 (delM nw i), Mp (Value.int .i64) roV okI m2 (upM od i (⟨p21, c22, ((roG (od i)).l ++ [(roG (nw i))])⟩ : Ro (Ro E5))), Mp (Value.int .i64) Value.bool okI m3 bn, Mp (Value.int .i64) (Value.int .i64) okI m4 M, RowsI 109 5 e5L rs, RowsI 94 1 rowL ts, Old w (fps [Ob b (.cells #[.map (some m1), .map (some m2), .map (some m3), .map (some m4)] 88 (0, 0)), Mp (Value.int .i64) roV okI m1 nw, Mp (Value.int .i64) roV okI m2 od, Mp (Value.int .i64) Value.bool okI m3 bn, Mp (Value.int .i64) (Value.int .i64) okI m4 sc, RowsI 109 5 e5L rs, RowsI 94 1 rowL ts])]) (fun (k, M) => ((ascI ((roG (nw i)).l.map E5.pr)).length) - k) (0, sc) ⟨rfl, rfl, rfl, rfl, rfl, trivial⟩ ⟨Nat.zero_le _, (fun y => by simp), H67⟩ ?_
      rintro ⟨k, M⟩ wq68 ⟨hk, hM, H69⟩
      refine g_weak [(0, .pointer (some ⟨b, 0, none⟩)), (8, .slice p63 ((ascI ((roG (nw i)).l.map E5.pr)).length) c64), (69, .slice p63 ((ascI ((roG (nw i)).l.map E5.pr)).length) c64), (70, .int .i64 (((ascI ((roG (nw i)).l.map E5.pr)).length : Int))), (71, .int .i64 ((k : Int)))] ⟨rfl, rfl, rfl, rfl, rfl, trivial⟩ ?_
      refine w_s ?_
      refine w_b ?_
      refine w_e ?_
      refine g_seq ?_
      by_cases hb70 : ((k : Int) : Int) < ((ascI ((roG (nw i)).l.map E5.pr)).length : Int)
      ·
       refine g_cond_t rfl (decide_eq_true hb70) ?_
       refine g_skip ?_
       refine g_then ?_
       refine g_seq ?_
       refine g_block ?_
       refine w_s ?_
       refine w_v (v := .pointer ((p63).map fun q => q.add (k * 1))) (x_idxR k (H69.rwReads (k := 0) rfl) rfl rfl rfl Try.underlying24 sz3 (by omega)) ?_
       have hlq := (H69.rwReads (k := 0) rfl).lenL intE
       obtain ⟨x71, hx71⟩ := ex_at (l := (ascI ((roG (nw i)).l.map E5.pr))) (j := k) (by omega)
       clear hlq
       have hok_x71 : okI x71 := okI_in (who_in (hR.nwOk i) (List.mem_of_getElem? hx71))
       refine w_v (v := .int .i64 x71) (x_loadR1 k (H69.rwReads (k := 0) rfl) (by omega) rfl rfl Try.underlying3 rfl (intE.flAt1 hx71 rfl)) ?_
       refine w_a ?_
       refine w_e ?_
       refine g_region ?_
       refine w_r3 ?_
       refine w_1 H69 3 ?_
       refine w_m ?_
       refine w_v (v := .int .i64 (((M x71).getD 0))) (ex_cast (x_lookup1 (x := x71) (intTy Try.underlying60 Try.underlying3) H69 7 rfl rfl rfl rfl (hok_x71) ze3) (look_I _)) ?_
       refine w_b (v := .int .i64 (IntKind.i64.wrap (((M x71).getD 0) + 1))) (hb := (b_add rfl)) ?_
       refine l_of (s_mapUpdate (x := x71) (a := IntKind.i64.wrap (((M x71).getD 0) + 1)) (intTy Try.underlying60 Try.underlying3) H69 7 (wt0 rfl) rfl rfl rfl rfl rfl rfl (hok_x71) ?_)
       intro wq72 H73
       refine g_nil ?_
       refine g_in ?_
       refine g_then ?_
       refine g_region ?_
       refine w_b (v := .int .i64 (((k + 1 : Nat) : Int))) (hb := (b_add (by rw [w64 (by omega)]; omega))) ?_
       refine w_m ?_
       refine w_e ?_
       refine g_round (i := (k, M)) ((k + 1), (upM M x71 (IntKind.i64.wrap (((M x71).getD 0) + 1)))) ?_ ?_ ?_
       · exact ⟨rfl, rfl, rfl, rfl, rfl, trivial⟩
       · exact ⟨by omega, (score_next (ascI_lt _) hx71 hM), H73⟩
       · (try dsimp only); omega
      ·
       refine g_cond_f rfl (decide_eq_false hb70) ?_
       refine g_exit ?_
       refine g_then_exit ?_
       refine g_then_exit ?_
       refine g_in_hit ?_
       refine g_then ?_
       refine g_seq ?_
       refine g_seq ?_
       refine g_quiet (by kernel_rfl) (by kernel_rfl) H69 ?_
       refine q_val (v := .slice p63 ((ascI ((roG (nw i)).l.map E5.pr)).length) c64) (wt0 rfl) rfl rfl (fun wx H => x_move rfl rfl) ?_
       refine q_val (v := .int .i64 (((ascI ((roG (nw i)).l.map E5.pr)).length : Int))) (wt0 rfl) rfl rfl (fun wx H => x_lenl rfl rfl Try.underlying24) ?_
       refine q_val (v := .bool (decide ((1 : Int) < ((ascI ((roG (nw i)).l.map E5.pr)).length : Int)))) (wt0 rfl) rfl rfl (fun wx H => x_bin rfl rfl rfl b_gtr) ?_
       refine q_val (v := .bool (decide ((1 : Int) < ((ascI ((roG (nw i)).l.map E5.pr)).length : Int)))) (wt0 rfl) rfl rfl (fun wx H => x_move rfl rfl) ?_
       by_cases hb74 : (1 : Int) < ((ascI ((roG (nw i)).l.map E5.pr)).length : Int)
       ·
        refine q_not (wn1 rfl rfl rfl rfl (decide_eq_true hb74)) rfl rfl ?_
        refine q_not (wn1 rfl rfl rfl rfl (decide_eq_true hb74)) rfl rfl ?_
        refine q_not (wn1 rfl rfl rfl rfl (decide_eq_true hb74)) rfl rfl ?_
        refine q_not (wn1 rfl rfl rfl rfl (decide_eq_true hb74)) rfl rfl ?_
        refine q_not (wn1 rfl rfl rfl rfl (decide_eq_true hb74)) rfl rfl ?_
        refine q_not (wn1 rfl rfl rfl rfl (decide_eq_true hb74)) rfl rfl ?_
        refine q_not (wn1 rfl rfl rfl rfl (decide_eq_true hb74)) rfl rfl ?_
        refine q_not (wn1 rfl rfl rfl rfl (decide_eq_true hb74)) rfl rfl ?_
        refine q_val (v := .bool true) (wt0 rfl) rfl rfl (fun wx H => x_pick_t rfl rfl (decide_eq_true hb74) rfl) ?_
        refine q_nil (fun wq75 H76 => ?_)
        refine g_then ?_
        refine g_weak [(0, .pointer (some ⟨b, 0, none⟩)), (8, .slice p63 ((ascI ((roG (nw i)).l.map E5.pr)).length) c64), (95, .bool true)] ⟨rfl, rfl, rfl, trivial⟩ ?_
        refine g_cond_t rfl rfl ?_
        refine w_s ?_
        refine w_r2 ?_
        refine w_e ?_
        refine g_ret ?_
        refine g_then_ret ?_
        refine fin_ret [.tmp 4, .tmp 5] [.slice none 0 0, .int .i64 0] rfl ⟨rfl, rfl, trivial⟩ ?_
        obtain ⟨q9, hq9⟩ : ∃ q9 : Ro (Ro E5), q9 = (⟨p21, c22, ((roG (od i)).l ++ [(roG (nw i))])⟩ : Ro (Ro E5)) := ⟨_, rfl⟩
        have H77 : S wq75 [RowsI 94 1 rowL (ts ++ [q9]), Rw 3 1 p63 ((ascI ((roG (nw i)).l.map E5.pr)).length) c64 (fl intL (ascI ((roG (nw i)).l.map E5.pr))), Ob g18 (.cells #[.slice (roG (nw i)).p ((roG (nw i)).l.length) ((roG (nw i)).c)] 94 (0, 0)), Ob b (.cells #[.map (some m1), .map (some m2), .map (some m3), .map (some m4)] 88 (0, 0)), Mp (Value.int .i64) roV okI m1 (delM nw i), Mp (Value.int .i64) roV okI m2 (upM od i q9), Mp (Value.int .i64) Value.bool okI m3 bn, Mp (Value.int .i64) (Value.int .i64) okI m4 M, RowsI 109 5 e5L rs, Old w (fps [Ob b (.cells #[.map (some m1), .map (some m2), .map (some m3), .map (some m4)] 88 (0, 0)), Mp (Value.int .i64) roV okI m1 nw, Mp (Value.int .i64) roV okI m2 od, Mp (Value.int .i64) Value.bool okI m3 bn, Mp (Value.int .i64) (Value.int .i64) okI m4 sc, RowsI 109 5 e5L rs, RowsI 94 1 rowL ts])] := by
         have h8 := S.rowsAdd (H76.takes [9, 2, 0, 1, 3, 4, 5, 6, 7, 8, 10] (by decide)) rfl
         rw [← hq9] at h8
         exact h8
        have hqq : q9.l = lastTen ((roG (od i)).l ++ [roG (nw i)]) := by rw [hq9]; exact (by show ((roG (od i)).l ++ [(roG (nw i))]) = lastTen ((roG (od i)).l ++ [(roG (nw i))]); unfold lastTen; rw [show ((roG (od i)).l ++ [(roG (nw i))]).length - 10 = 0 by omega]; rfl)
        have hkk : k = (ascI ((roG (nw i)).l.map E5.pr)).length := by omega
        subst hkk
        rw [List.take_length] at hM
        have hE : (endE (RA nw od bn sc) i) = 0 := endE_0 hb3 rfl hne
        have hFR := failR_eq hE
        have hwo : whoL (trE (roG (nw i)).l) = (ascI ((roG (nw i)).l.map E5.pr)) := whoE (hR.nwOk i)
        have hfl : failL (trE (roG (nw i)).l) = [] := by unfold failL; rw [hwo, if_neg (by omega)]
        have H78 := H77.nilFl 3 1 intL
        rw [hfl, banL_nil] at hFR
        rw [hE, hFR]
        exact ⟨delM nw i, upM od i q9, bn, M, rs, ts ++ [q9], none, 0, hR.failQ hne hqq, ⟨fun _ h => h, fun x hx => List.mem_append_left _ hx⟩, RA_fail hE (hR.nwOk i) hqq hM (fun y => by rw [hfl]; simp), rfl, H78.takes [0, 4, 5, 6, 7, 8, 9, 1, 10] (by decide)⟩
       ·
        refine q_val (v := .pointer (some ⟨b, 0, none⟩)) (wt1 rfl rfl rfl rfl (decide_eq_false hb74)) rfl rfl (fun wx H => x_move rfl rfl) ?_
        refine q_val (v := .pointer (some ⟨b, 0, none⟩)) (wt1 rfl rfl rfl rfl (decide_eq_false hb74)) rfl rfl (fun wx H => x_nilCheck rfl rfl) ?_
        refine q_val (v := .pointer (some ⟨b, 2, none⟩)) (wt1 rfl rfl rfl rfl (decide_eq_false hb74)) rfl rfl (fun wx H => x_fieldAddr rfl rfl fo88_2 rfl) ?_
        refine q_val (v := .map (some m3)) (wt1 rfl rfl rfl rfl (decide_eq_false hb74)) rfl rfl (fun wx H => x_load1 H 3 rfl rfl Try.underlying29 rfl rfl rfl) ?_
        refine q_val (v := .slice p63 ((ascI ((roG (nw i)).l.map E5.pr)).length) c64) (wt1 rfl rfl rfl rfl (decide_eq_false hb74)) rfl rfl (fun wx H => x_move rfl rfl) ?_
        refine q_val (v := .pointer ((p63).map fun q => q.add (0 * 1))) (wt1 rfl rfl rfl rfl (decide_eq_false hb74)) rfl rfl (fun wx H => x_idxP 0 ((H69.rwReads (k := 0) rfl).some (by omega)) rfl rfl rfl Try.underlying24 sz3 (by omega)) ?_
        have hlq := (H69.rwReads (k := 0) rfl).lenL intE
        obtain ⟨x79, hx79⟩ := ex_at (l := (ascI ((roG (nw i)).l.map E5.pr))) (j := 0) (by omega)
        clear hlq
        have hok_x79 : okI x79 := okI_in (who_in (hR.nwOk i) (List.mem_of_getElem? hx79))
        refine q_val (v := .int .i64 x79) (wt1 rfl rfl rfl rfl (decide_eq_false hb74)) rfl rfl (fun wx H => x_loadR1 0 (H.rwReads (k := 0) rfl) (by omega) rfl rfl Try.underlying3 rfl (intE.flAt1 hx79 rfl)) ?_
        refine q_val (v := .bool (((bn x79).getD false))) (wt1 rfl rfl rfl rfl (decide_eq_false hb74)) rfl rfl (fun wx H => ex_cast (x_lookup1 (x := x79) (intTy Try.underlying29 Try.underlying3) H 6 rfl rfl rfl rfl (hok_x79) ze4) (look_B _)) ?_
        refine q_val (v := .bool (((bn x79).getD false))) (wt0 rfl) rfl rfl (fun wx H => x_pick_f rfl rfl (decide_eq_false hb74) rfl) ?_
        refine q_nil (fun wq80 H81 => ?_)
        refine g_then ?_
        refine g_weak [(0, .pointer (some ⟨b, 0, none⟩)), (8, .slice p63 ((ascI ((roG (nw i)).l.map E5.pr)).length) c64), (95, .bool (((bn x79).getD false)))] ⟨rfl, rfl, rfl, trivial⟩ ?_
        rcases Bool.eq_false_or_eq_true (((bn x79).getD false)) with hb82 | hb82
        ·
         refine g_cond_t rfl hb82 ?_
         refine w_s ?_
         refine w_r2 ?_
         refine w_e ?_
         refine g_ret ?_
         refine g_then_ret ?_
         refine fin_ret [.tmp 4, .tmp 5] [.slice none 0 0, .int .i64 0] rfl ⟨rfl, rfl, trivial⟩ ?_
         obtain ⟨q9, hq9⟩ : ∃ q9 : Ro (Ro E5), q9 = (⟨p21, c22, ((roG (od i)).l ++ [(roG (nw i))])⟩ : Ro (Ro E5)) := ⟨_, rfl⟩
         have H83 : S wq80 [RowsI 94 1 rowL (ts ++ [q9]), Rw 3 1 p63 ((ascI ((roG (nw i)).l.map E5.pr)).length) c64 (fl intL (ascI ((roG (nw i)).l.map E5.pr))), Ob g18 (.cells #[.slice (roG (nw i)).p ((roG (nw i)).l.length) ((roG (nw i)).c)] 94 (0, 0)), Ob b (.cells #[.map (some m1), .map (some m2), .map (some m3), .map (some m4)] 88 (0, 0)), Mp (Value.int .i64) roV okI m1 (delM nw i), Mp (Value.int .i64) roV okI m2 (upM od i q9), Mp (Value.int .i64) Value.bool okI m3 bn, Mp (Value.int .i64) (Value.int .i64) okI m4 M, RowsI 109 5 e5L rs, Old w (fps [Ob b (.cells #[.map (some m1), .map (some m2), .map (some m3), .map (some m4)] 88 (0, 0)), Mp (Value.int .i64) roV okI m1 nw, Mp (Value.int .i64) roV okI m2 od, Mp (Value.int .i64) Value.bool okI m3 bn, Mp (Value.int .i64) (Value.int .i64) okI m4 sc, RowsI 109 5 e5L rs, RowsI 94 1 rowL ts])] := by
          have h8 := S.rowsAdd (H81.takes [9, 2, 0, 1, 3, 4, 5, 6, 7, 8, 10] (by decide)) rfl
          rw [← hq9] at h8
          exact h8
         have hqq : q9.l = lastTen ((roG (od i)).l ++ [roG (nw i)]) := by rw [hq9]; exact (by show ((roG (od i)).l ++ [(roG (nw i))]) = lastTen ((roG (od i)).l ++ [(roG (nw i))]); unfold lastTen; rw [show ((roG (od i)).l ++ [(roG (nw i))]).length - 10 = 0 by omega]; rfl)
         have hkk : k = (ascI ((roG (nw i)).l.map E5.pr)).length := by omega
         subst hkk
         rw [List.take_length] at hM
         have hE : (endE (RA nw od bn sc) i) = 0 := endE_0 hb3 rfl hne
         have hFR := failR_eq hE
         have hwo : whoL (trE (roG (nw i)).l) = (ascI ((roG (nw i)).l.map E5.pr)) := whoE (hR.nwOk i)
         have hw1 := one_of hx79 (by omega)
         have hfl : failL (trE (roG (nw i)).l) = [x79] := by unfold failL; rw [hwo, hw1]; rfl
         rw [hfl, banL_one] at hFR
         have H84 := H83.nilFl 3 1 intL
         rw [if_pos (show (RA nw od bn sc).bn x79 = true from hb82)] at hFR
         rw [hE, hFR]
         exact ⟨delM nw i, upM od i q9, bn, M, rs, ts ++ [q9], none, 0, hR.failQ hne hqq, ⟨fun _ h => h, fun x hx => List.mem_append_left _ hx⟩, RA_fail hE (hR.nwOk i) hqq hM (fun y => by rw [hfl]; by_cases e : y = x79 <;> simp [e, hb82]), rfl, H84.takes [0, 4, 5, 6, 7, 8, 9, 1, 10] (by decide)⟩
        ·
         refine g_cond_f rfl hb82 ?_
         refine g_skip ?_
         refine g_then ?_
         refine g_seq ?_
         refine g_any [] (fun wx => S wx [Rw 3 1 p63 ((ascI ((roG (nw i)).l.map E5.pr)).length) c64 (fl intL (ascI ((roG (nw i)).l.map E5.pr))), Ob g18 (.cells #[.slice (roG (nw i)).p ((roG (nw i)).l.length) ((roG (nw i)).c)] 94 (0, 0)), Rw 94 1 p21 (((roG (od i)).l ++ [(roG (nw i))]).length) c22 (fl rowL ((roG (od i)).l ++ [(roG (nw i))])), Ob b (.cells #[.map (some m1), .map (some m2), .map (some m3), .map (some m4)] 88 (0, 0)), Mp (Value.int .i64) roV okI m1 (delM nw i), Mp (Value.int .i64) roV okI m2 (upM od i (⟨p21, c22, ((roG (od i)).l ++ [(roG (nw i))])⟩ : Ro (Ro E5))), Mp (Value.int .i64) Value.bool okI m3 bn, Mp (Value.int .i64) (Value.int .i64) okI m4 M, RowsI 109 5 e5L rs, RowsI 94 1 rowL ts, Old w (fps [Ob b (.cells #[.map (some m1), .map (some m2), .map (some m3), .map (some m4)] 88 (0, 0)), Mp (Value.int .i64) roV okI m1 nw, Mp (Value.int .i64) roV okI m2 od, Mp (Value.int .i64) Value.bool okI m3 bn, Mp (Value.int .i64) (Value.int .i64) okI m4 sc, RowsI 109 5 e5L rs, RowsI 94 1 rowL ts])]) [7] (by kernel_rfl) H81 (fun wq85 H86 => ?_)
         refine w_t 0 rfl H86 (fun _ _ => xm) ?_
         refine w_t 1 rfl H86 (fun _ _ => xn) ?_
         refine w_t 2 rfl H86 (fun _ _ => xf 2) ?_
         refine w_t 3 rfl H86 (fun _ H => xl H 3) ?_
         refine w_t 4 rfl H86 (fun _ _ => xm) ?_
         refine w_t (v := .pointer ((p63).map fun q => q.add (0 * 1))) 5 rfl H86 (fun _ _ => x_idxP 0 ((H86.rwReads (k := 0) rfl).some (by omega)) rfl rfl rfl Try.underlying24 sz3 (by omega)) ?_
         refine w_t (v := .int .i64 x79) 6 rfl H86 (fun _ H => x_loadR1 0 (H.rwReads (k := 0) rfl) (by omega) rfl rfl Try.underlying3 rfl (intE.flAt1 hx79 rfl)) ?_
         refine a_one (i := 7) (by kernel_rfl) rfl ?_
         refine s_mapUpdate (x := x79) (a := true) (intTy Try.underlying29 Try.underlying3) H86 6 (wt0 rfl) rfl rfl rfl rfl rfl rfl (hok_x79) ?_
         intro wq87 H88
         refine a_kt rfl ?_
         refine a_done (by kernel_rfl) ?_
         refine g_then ?_
         refine w_s ?_
         refine w_r3 ?_
         refine w_e ?_
         refine g_ret ?_
         refine fin_ret [.tmp 4, .tmp 5] [.slice p63 ((ascI ((roG (nw i)).l.map E5.pr)).length) c64, .int .i64 0] rfl ⟨rfl, rfl, trivial⟩ ?_
         obtain ⟨q9, hq9⟩ : ∃ q9 : Ro (Ro E5), q9 = (⟨p21, c22, ((roG (od i)).l ++ [(roG (nw i))])⟩ : Ro (Ro E5)) := ⟨_, rfl⟩
         have H89 : S wq87 [RowsI 94 1 rowL (ts ++ [q9]), Rw 3 1 p63 ((ascI ((roG (nw i)).l.map E5.pr)).length) c64 (fl intL (ascI ((roG (nw i)).l.map E5.pr))), Ob g18 (.cells #[.slice (roG (nw i)).p ((roG (nw i)).l.length) ((roG (nw i)).c)] 94 (0, 0)), Ob b (.cells #[.map (some m1), .map (some m2), .map (some m3), .map (some m4)] 88 (0, 0)), Mp (Value.int .i64) roV okI m1 (delM nw i), Mp (Value.int .i64) roV okI m2 (upM od i q9), Mp (Value.int .i64) Value.bool okI m3 (upM bn x79 true), Mp (Value.int .i64) (Value.int .i64) okI m4 M, RowsI 109 5 e5L rs, Old w (fps [Ob b (.cells #[.map (some m1), .map (some m2), .map (some m3), .map (some m4)] 88 (0, 0)), Mp (Value.int .i64) roV okI m1 nw, Mp (Value.int .i64) roV okI m2 od, Mp (Value.int .i64) Value.bool okI m3 bn, Mp (Value.int .i64) (Value.int .i64) okI m4 sc, RowsI 109 5 e5L rs, RowsI 94 1 rowL ts])] := by
          have h8 := S.rowsAdd (H88.takes [9, 2, 0, 1, 3, 4, 5, 6, 7, 8, 10] (by decide)) rfl
          rw [← hq9] at h8
          exact h8
         have hqq : q9.l = lastTen ((roG (od i)).l ++ [roG (nw i)]) := by rw [hq9]; exact (by show ((roG (od i)).l ++ [(roG (nw i))]) = lastTen ((roG (od i)).l ++ [(roG (nw i))]); unfold lastTen; rw [show ((roG (od i)).l ++ [(roG (nw i))]).length - 10 = 0 by omega]; rfl)
         have hkk : k = (ascI ((roG (nw i)).l.map E5.pr)).length := by omega
         subst hkk
         rw [List.take_length] at hM
         have hE : (endE (RA nw od bn sc) i) = 0 := endE_0 hb3 rfl hne
         have hFR := failR_eq hE
         have hwo : whoL (trE (roG (nw i)).l) = (ascI ((roG (nw i)).l.map E5.pr)) := whoE (hR.nwOk i)
         have hw1 := one_of hx79 (by omega)
         have hfl : failL (trE (roG (nw i)).l) = [x79] := by unfold failL; rw [hwo, hw1]; rfl
         rw [hfl, banL_one] at hFR
         rw [if_neg (show ¬ (RA nw od bn sc).bn x79 = true from fun h9 => by rw [show (RA nw od bn sc).bn x79 = false from hb82] at h9; cases h9)] at hFR
         rw [hE, hFR, ← hw1]
         exact ⟨delM nw i, upM od i q9, upM bn x79 true, M, rs, ts ++ [q9], p63, c64, hR.failQ hne hqq, ⟨fun _ h => h, fun x hx => List.mem_append_left _ hx⟩, RA_fail hE (hR.nwOk i) hqq hM (fun y => by rw [hfl]; unfold upM; by_cases e : y = x79 <;> simp [e]), rfl, H89.takes [1, 3, 4, 5, 6, 7, 8, 0, 9] (by decide)⟩
    ·
     refine s_buildSlice H12 (wt0 rfl) rfl rfl rfl (vs := [.slice (roG (nw i)).p ((roG (nw i)).l.length) ((roG (nw i)).c)]) rfl Try.underlying95 sz94 ze94 rfl rfl (cells := #[.slice (roG (nw i)).p ((roG (nw i)).l.length) ((roG (nw i)).c)]) (by kernel_rfl) ?_
     intro g90 wq91 H92
     refine a_k (H92.mask [false, false, true, true, true, true, true, true, true, true]) ?_
     refine a_one (i := 12) (by kernel_rfl) rfl ?_
     have hln97a := (H92.rwReads (k := 1) rfl).lenL rowE
     have hln97b := ((rows_in (H92.at (k := 8) rfl) (hR.odIn i))).lenL rowE
     have hln97 : ((roG (od i)).l).length = 0 + ((roG (od i)).l.length) := by omega
     refine s_appLn (l := []) (l2 := (roG (od i)).l) rowE H92 1 (wt0 rfl) rfl rfl rfl rfl rfl rfl Try.underlying95 inf94 rfl (by decide) ((rows_in (H92.at (k := 8) rfl) (hR.odIn i))) (by omega) ?_
     intro p93 c94 wq95 H96
     rw [List.nil_append] at H96 ⊢
     replace H96 : S wq95 [Ob g90 (.cells #[.slice (roG (nw i)).p ((roG (nw i)).l.length) ((roG (nw i)).c)] 94 (0, 0)), Rw 94 1 p93 (((roG (od i)).l).length) c94 (fl rowL ((roG (od i)).l)), Ob b (.cells #[.map (some m1), .map (some m2), .map (some m3), .map (some m4)] 88 (0, 0)), Mp (Value.int .i64) roV okI m1 (delM nw i), Mp (Value.int .i64) roV okI m2 od, Mp (Value.int .i64) Value.bool okI m3 bn, Mp (Value.int .i64) (Value.int .i64) okI m4 sc, RowsI 109 5 e5L rs, RowsI 94 1 rowL ts, Old w (fps [Ob b (.cells #[.map (some m1), .map (some m2), .map (some m3), .map (some m4)] 88 (0, 0)), Mp (Value.int .i64) roV okI m1 nw, Mp (Value.int .i64) roV okI m2 od, Mp (Value.int .i64) Value.bool okI m3 bn, Mp (Value.int .i64) (Value.int .i64) okI m4 sc, RowsI 109 5 e5L rs, RowsI 94 1 rowL ts])] := H96
     refine a_k (H96.mask [false, false, true, true, true, true, true, true, true, true]) ?_
     refine a_one (i := 15) (by kernel_rfl) rfl ?_
     have hln102a := (H96.rwReads (k := 1) rfl).lenL rowE
     have hln102 : ((roG (od i)).l ++ [(roG (nw i))]).length = (((roG (od i)).l).length) + 1 := by simp only [List.length_append, List.length_cons, List.length_nil] <;> omega
     refine s_appBn (m := 1) (l := (roG (od i)).l) (l2 := [(roG (nw i))]) rowE H96 1 (j0 := 0) rfl rfl ⟨rfl, Nat.le_refl _⟩ (wt0 rfl) rfl rfl rfl rfl rfl rfl Try.underlying95 inf94 rfl (by decide) (by omega) ?_
     intro p98 c99 wq100 H101
     refine a_k (H101.mask [false, false, true, true, true, true, true, true, true, true]) ?_
     refine a_one (i := 16) (by kernel_rfl) rfl ?_
     refine s_mapUpdate (x := i) (a := (⟨p98, c99, ((roG (od i)).l ++ [(roG (nw i))])⟩ : Ro (Ro E5))) (intTy Try.underlying86 Try.underlying3) H101 4 (wt0 rfl) rfl rfl rfl rfl rfl rfl (hok_i) ?_
     intro wq103 H104
     refine a_kt rfl ?_
     refine a_done (by kernel_rfl) ?_
     refine g_then ?_
     refine g_weak [(0, .pointer (some ⟨b, 0, none⟩)), (1, .int .i64 i), (6, .slice (roG (nw i)).p ((roG (nw i)).l.length) ((roG (nw i)).c))] ⟨rfl, rfl, rfl, trivial⟩ ?_
     refine g_seq ?_
     refine w_s ?_
     refine w_r3 ?_
     refine w_1 H104 2 ?_
     refine w_m ?_
     refine w_v (v := .slice p98 (((roG (od i)).l ++ [(roG (nw i))]).length) c99) (ex_cast (x_lookup1 (x := i) (intTy Try.underlying86 Try.underlying3) H104 4 rfl rfl rfl rfl (hok_i) ze95) ((by rw [upM_self]; rfl))) ?_
     refine w_v (v := .int .i64 ((((roG (od i)).l ++ [(roG (nw i))]).length : Int))) (x_lenl rfl rfl Try.underlying95) ?_
     refine w_a ?_
     refine w_e ?_
     refine w_s ?_
     refine w_m ?_
     refine w_b ?_
     refine w_e ?_
     by_cases hb105 : (10 : Int) < (((roG (od i)).l ++ [(roG (nw i))]).length : Int)
     ·
      refine g_cond_t rfl (decide_eq_true hb105) ?_
      refine g_any [] (fun wx => S wx [Ob g90 (.cells #[.slice (roG (nw i)).p ((roG (nw i)).l.length) ((roG (nw i)).c)] 94 (0, 0)), Rw 94 1 p98 (((roG (od i)).l ++ [(roG (nw i))]).length) c99 (fl rowL ((roG (od i)).l ++ [(roG (nw i))])), Ob b (.cells #[.map (some m1), .map (some m2), .map (some m3), .map (some m4)] 88 (0, 0)), Mp (Value.int .i64) roV okI m1 (delM nw i), Mp (Value.int .i64) roV okI m2 (upM od i (⟨p98, c99, ((roG (od i)).l ++ [(roG (nw i))])⟩ : Ro (Ro E5))), Mp (Value.int .i64) Value.bool okI m3 bn, Mp (Value.int .i64) (Value.int .i64) okI m4 sc, RowsI 109 5 e5L rs, RowsI 94 1 rowL ts, Old w (fps [Ob b (.cells #[.map (some m1), .map (some m2), .map (some m3), .map (some m4)] 88 (0, 0)), Mp (Value.int .i64) roV okI m1 nw, Mp (Value.int .i64) roV okI m2 od, Mp (Value.int .i64) Value.bool okI m3 bn, Mp (Value.int .i64) (Value.int .i64) okI m4 sc, RowsI 109 5 e5L rs, RowsI 94 1 rowL ts])]) [14] (by kernel_rfl) H104 (fun wq106 H107 => ?_)
      refine w_t 0 rfl H107 (fun _ _ => xm) ?_
      refine w_t 1 rfl H107 (fun _ _ => xn) ?_
      refine w_t 2 rfl H107 (fun _ _ => xf 1) ?_
      refine w_t 3 rfl H107 (fun _ H => xl H 2) ?_
      refine w_t 4 rfl H107 (fun _ _ => xm) ?_
      refine w_t 5 rfl H107 (fun _ _ => xm) ?_
      refine w_t 6 rfl H107 (fun _ _ => xn) ?_
      refine w_t 7 rfl H107 (fun _ _ => xf 1) ?_
      refine w_t 8 rfl H107 (fun _ H => xl H 2) ?_
      refine w_t 9 rfl H107 (fun _ _ => xm) ?_
      refine w_t (v := .slice p98 (((roG (od i)).l ++ [(roG (nw i))]).length) c99) 10 rfl H107 (fun _ H => ex_cast (x_lookup1 (x := i) (intTy Try.underlying86 Try.underlying3) H 4 rfl rfl rfl rfl (hok_i) ze95) ((by rw [upM_self]; rfl))) ?_
      refine w_t 11 rfl H107 (fun _ _ => xm) ?_
      refine w_t (v := .int .i64 (((((roG (od i)).l ++ [(roG (nw i))]).length - 10 : Nat) : Int))) 12 rfl H107 (fun _ _ => x_bin rfl rfl rfl (b_subN (a := ((roG (od i)).l ++ [(roG (nw i))]).length) (b := 10) (by omega))) ?_
      have hnc := (H107.rwReads (k := 1) rfl).2.1
      have hnl := (H107.rwReads (k := 1) rfl).lenL rowE
      have hdl : (((roG (od i)).l ++ [(roG (nw i))]).drop (((roG (od i)).l ++ [(roG (nw i))]).length - 10)).length = (((roG (od i)).l ++ [(roG (nw i))]).length) - (((roG (od i)).l ++ [(roG (nw i))]).length - 10) := by rw [List.length_drop, ← hnl]
      refine w_t (v := .slice (cutP p98 (((roG (od i)).l ++ [(roG (nw i))]).length - 10) c99 1) ((((roG (od i)).l ++ [(roG (nw i))]).drop (((roG (od i)).l ++ [(roG (nw i))]).length - 10)).length) (c99 - (((roG (od i)).l ++ [(roG (nw i))]).length - 10))) 13 rfl H107 (fun _ _ => ex_cast (x_cut (((roG (od i)).l ++ [(roG (nw i))]).length - 10) rfl rfl rfl Try.underlying95 sz94 (by omega)) (by rw [List.length_drop, ← hnl])) ?_
      refine a_one (i := 14) (by kernel_rfl) rfl ?_
      refine s_mapUpdate (x := i) (a := (⟨(cutP p98 (((roG (od i)).l ++ [(roG (nw i))]).length - 10) c99 1), (c99 - (((roG (od i)).l ++ [(roG (nw i))]).length - 10)), (((roG (od i)).l ++ [(roG (nw i))]).drop (((roG (od i)).l ++ [(roG (nw i))]).length - 10))⟩ : Ro (Ro E5))) (intTy Try.underlying86 Try.underlying3) H107 4 (wt0 rfl) rfl rfl rfl rfl rfl rfl (hok_i) ?_
      intro wq108 H109
      refine a_kt rfl ?_
      refine a_done (by kernel_rfl) ?_
      refine g_then ?_
      refine g_weak [(0, .pointer (some ⟨b, 0, none⟩)), (6, .slice (roG (nw i)).p ((roG (nw i)).l.length) ((roG (nw i)).c))] ⟨rfl, rfl, trivial⟩ ?_
      refine w_s ?_
      refine w_m ?_
      refine l_of (s_call (wt0 rfl) (x_call' rfl rfl cl68) (who_r (roG (nw i)).p ((roG (nw i)).l.length) ((roG (nw i)).c) (roG (nw i)).l (by omega) _ ((rows_in (H109.at (k := 7) rfl) (hR.nwIn i)))) ?_)
      rintro _ wq113 ⟨p110, c111, rfl, H114⟩
      replace H114 : S wq113 [Rw 3 1 p110 ((ascI ((roG (nw i)).l.map E5.pr)).length) c111 (fl intL (ascI ((roG (nw i)).l.map E5.pr))), Ob g90 (.cells #[.slice (roG (nw i)).p ((roG (nw i)).l.length) ((roG (nw i)).c)] 94 (0, 0)), Rw 94 1 p98 (((roG (od i)).l ++ [(roG (nw i))]).length) c99 (fl rowL ((roG (od i)).l ++ [(roG (nw i))])), Ob b (.cells #[.map (some m1), .map (some m2), .map (some m3), .map (some m4)] 88 (0, 0)), Mp (Value.int .i64) roV okI m1 (delM nw i), Mp (Value.int .i64) roV okI m2 (upM (upM od i (⟨p98, c99, ((roG (od i)).l ++ [(roG (nw i))])⟩ : Ro (Ro E5))) i (⟨(cutP p98 (((roG (od i)).l ++ [(roG (nw i))]).length - 10) c99 1), (c99 - (((roG (od i)).l ++ [(roG (nw i))]).length - 10)), (((roG (od i)).l ++ [(roG (nw i))]).drop (((roG (od i)).l ++ [(roG (nw i))]).length - 10))⟩ : Ro (Ro E5))), Mp (Value.int .i64) Value.bool okI m3 bn, Mp (Value.int .i64) (Value.int .i64) okI m4 sc, RowsI 109 5 e5L rs, RowsI 94 1 rowL ts, Old w (fps [Ob b (.cells #[.map (some m1), .map (some m2), .map (some m3), .map (some m4)] 88 (0, 0)), Mp (Value.int .i64) roV okI m1 nw, Mp (Value.int .i64) roV okI m2 od, Mp (Value.int .i64) Value.bool okI m3 bn, Mp (Value.int .i64) (Value.int .i64) okI m4 sc, RowsI 109 5 e5L rs, RowsI 94 1 rowL ts])] := by have h := H109.absorb H114; exact h
      refine b_ret rfl rfl ?_
      refine w_a ?_
      refine w_e ?_
      refine g_seq ?_
      refine w_s ?_
      refine w_m ?_
      refine w_v (v := .int .i64 (((ascI ((roG (nw i)).l.map E5.pr)).length : Int))) (x_lenl rfl rfl Try.underlying24) ?_
      refine w_m ?_
      refine w_e ?_
      refine g_block ?_
      refine g_loop (ι := Nat × (Int → Option Int)) (fun (k, M) => [(0, .pointer (some ⟨b, 0, none⟩)), (8, .slice p110 ((ascI ((roG (nw i)).l.map E5.pr)).length) c111), (69, .slice p110 ((ascI ((roG (nw i)).l.map E5.pr)).length) c111), (70, .int .i64 (((ascI ((roG (nw i)).l.map E5.pr)).length : Int))), (71, .int .i64 ((k : Int)))]) (fun (k, M) wx => (k ≤ (ascI ((roG (nw i)).l.map E5.pr)).length) ∧ (∀ y, (M y).getD 0 = if y ∈ (ascI ((roG (nw i)).l.map E5.pr)).take k then IntKind.i64.wrap ((sc y).getD 0 + 1) else (sc y).getD 0) ∧ S wx [Rw 3 1 p110 ((ascI ((roG (nw i)).l.map E5.pr)).length) c111 (fl intL (ascI ((roG (nw i)).l.map E5.pr))), Ob g90 (.cells #[.slice (roG (nw i)).p ((roG (nw i)).l.length) ((roG (nw i)).c)] 94 (0, 0)), Rw 94 1 p98 (((roG (od i)).l ++ [(roG (nw i))]).length) c99 (fl rowL ((roG (od i)).l ++ [(roG (nw i))])), Ob b (.cells #[.map (some m1), .map (some m2), .map (some m3), .map (some m4)] 88 (0, 0)), Mp (Value.int .i64) roV okI m1 (delM nw i), Mp (Value.int .i64) roV okI m2 (upM (upM od i (⟨p98, c99, ((roG (od i)).l ++ [(roG (nw i))])⟩ : Ro (Ro E5))) i (⟨(cutP p98 (((roG (od i)).l ++ [(roG (nw i))]).length - 10) c99 1), (c99 - (((roG (od i)).l ++ [(roG (nw i))]).length - 10)), (((roG (od i)).l ++ [(roG (nw i))]).drop (((roG (od i)).l ++ [(roG (nw i))]).length - 10))⟩ : Ro (Ro E5))), Mp (Value.int .i64) Value.bool okI m3 bn, Mp (Value.int .i64) (Value.int .i64) okI m4 M, RowsI 109 5 e5L rs, RowsI 94 1 rowL ts, Old w (fps [Ob b (.cells #[.map (some m1), .map (some m2), .map (some m3), .map (some m4)] 88 (0, 0)), Mp (Value.int .i64) roV okI m1 nw, Mp (Value.int .i64) roV okI m2 od, Mp (Value.int .i64) Value.bool okI m3 bn, Mp (Value.int .i64) (Value.int .i64) okI m4 sc, RowsI 109 5 e5L rs, RowsI 94 1 rowL ts])]) (fun (k, M) => ((ascI ((roG (nw i)).l.map E5.pr)).length) - k) (0, sc) ⟨rfl, rfl, rfl, rfl, rfl, trivial⟩ ⟨Nat.zero_le _, (fun y => by simp), H114⟩ ?_
      rintro ⟨k, M⟩ wq115 ⟨hk, hM, H116⟩
      refine g_weak [(0, .pointer (some ⟨b, 0, none⟩)), (8, .slice p110 ((ascI ((roG (nw i)).l.map E5.pr)).length) c111), (69, .slice p110 ((ascI ((roG (nw i)).l.map E5.pr)).length) c111), (70, .int .i64 (((ascI ((roG (nw i)).l.map E5.pr)).length : Int))), (71, .int .i64 ((k : Int)))] ⟨rfl, rfl, rfl, rfl, rfl, trivial⟩ ?_
      refine w_s ?_
      refine w_b ?_
      refine w_e ?_
      refine g_seq ?_
      by_cases hb117 : ((k : Int) : Int) < ((ascI ((roG (nw i)).l.map E5.pr)).length : Int)
      ·
       refine g_cond_t rfl (decide_eq_true hb117) ?_
       refine g_skip ?_
       refine g_then ?_
       refine g_seq ?_
       refine g_block ?_
       refine w_s ?_
       refine w_v (v := .pointer ((p110).map fun q => q.add (k * 1))) (x_idxR k (H116.rwReads (k := 0) rfl) rfl rfl rfl Try.underlying24 sz3 (by omega)) ?_
       have hlq := (H116.rwReads (k := 0) rfl).lenL intE
       obtain ⟨x118, hx118⟩ := ex_at (l := (ascI ((roG (nw i)).l.map E5.pr))) (j := k) (by omega)
       clear hlq
       have hok_x118 : okI x118 := okI_in (who_in (hR.nwOk i) (List.mem_of_getElem? hx118))
       refine w_v (v := .int .i64 x118) (x_loadR1 k (H116.rwReads (k := 0) rfl) (by omega) rfl rfl Try.underlying3 rfl (intE.flAt1 hx118 rfl)) ?_
       refine w_a ?_
       refine w_e ?_
       refine g_region ?_
       refine w_r3 ?_
       refine w_1 H116 3 ?_
       refine w_m ?_
       refine w_v (v := .int .i64 (((M x118).getD 0))) (ex_cast (x_lookup1 (x := x118) (intTy Try.underlying60 Try.underlying3) H116 7 rfl rfl rfl rfl (hok_x118) ze3) (look_I _)) ?_
       refine w_b (v := .int .i64 (IntKind.i64.wrap (((M x118).getD 0) + 1))) (hb := (b_add rfl)) ?_
       refine l_of (s_mapUpdate (x := x118) (a := IntKind.i64.wrap (((M x118).getD 0) + 1)) (intTy Try.underlying60 Try.underlying3) H116 7 (wt0 rfl) rfl rfl rfl rfl rfl rfl (hok_x118) ?_)
       intro wq119 H120
       refine g_nil ?_
       refine g_in ?_
       refine g_then ?_
       refine g_region ?_
       refine w_b (v := .int .i64 (((k + 1 : Nat) : Int))) (hb := (b_add (by rw [w64 (by omega)]; omega))) ?_
       refine w_m ?_
       refine w_e ?_
       refine g_round (i := (k, M)) ((k + 1), (upM M x118 (IntKind.i64.wrap (((M x118).getD 0) + 1)))) ?_ ?_ ?_
       · exact ⟨rfl, rfl, rfl, rfl, rfl, trivial⟩
       · exact ⟨by omega, (score_next (ascI_lt _) hx118 hM), H120⟩
       · (try dsimp only); omega
      ·
       refine g_cond_f rfl (decide_eq_false hb117) ?_
       refine g_exit ?_
       refine g_then_exit ?_
       refine g_then_exit ?_
       refine g_in_hit ?_
       refine g_then ?_
       refine g_seq ?_
       refine g_seq ?_
       refine g_quiet (by kernel_rfl) (by kernel_rfl) H116 ?_
       refine q_val (v := .slice p110 ((ascI ((roG (nw i)).l.map E5.pr)).length) c111) (wt0 rfl) rfl rfl (fun wx H => x_move rfl rfl) ?_
       refine q_val (v := .int .i64 (((ascI ((roG (nw i)).l.map E5.pr)).length : Int))) (wt0 rfl) rfl rfl (fun wx H => x_lenl rfl rfl Try.underlying24) ?_
       refine q_val (v := .bool (decide ((1 : Int) < ((ascI ((roG (nw i)).l.map E5.pr)).length : Int)))) (wt0 rfl) rfl rfl (fun wx H => x_bin rfl rfl rfl b_gtr) ?_
       refine q_val (v := .bool (decide ((1 : Int) < ((ascI ((roG (nw i)).l.map E5.pr)).length : Int)))) (wt0 rfl) rfl rfl (fun wx H => x_move rfl rfl) ?_
       by_cases hb121 : (1 : Int) < ((ascI ((roG (nw i)).l.map E5.pr)).length : Int)
       ·
        refine q_not (wn1 rfl rfl rfl rfl (decide_eq_true hb121)) rfl rfl ?_
        refine q_not (wn1 rfl rfl rfl rfl (decide_eq_true hb121)) rfl rfl ?_
        refine q_not (wn1 rfl rfl rfl rfl (decide_eq_true hb121)) rfl rfl ?_
        refine q_not (wn1 rfl rfl rfl rfl (decide_eq_true hb121)) rfl rfl ?_
        refine q_not (wn1 rfl rfl rfl rfl (decide_eq_true hb121)) rfl rfl ?_
        refine q_not (wn1 rfl rfl rfl rfl (decide_eq_true hb121)) rfl rfl ?_
        refine q_not (wn1 rfl rfl rfl rfl (decide_eq_true hb121)) rfl rfl ?_
        refine q_not (wn1 rfl rfl rfl rfl (decide_eq_true hb121)) rfl rfl ?_
        refine q_val (v := .bool true) (wt0 rfl) rfl rfl (fun wx H => x_pick_t rfl rfl (decide_eq_true hb121) rfl) ?_
        refine q_nil (fun wq122 H123 => ?_)
        refine g_then ?_
        refine g_weak [(0, .pointer (some ⟨b, 0, none⟩)), (8, .slice p110 ((ascI ((roG (nw i)).l.map E5.pr)).length) c111), (95, .bool true)] ⟨rfl, rfl, rfl, trivial⟩ ?_
        refine g_cond_t rfl rfl ?_
        refine w_s ?_
        refine w_r2 ?_
        refine w_e ?_
        refine g_ret ?_
        refine g_then_ret ?_
        refine fin_ret [.tmp 4, .tmp 5] [.slice none 0 0, .int .i64 0] rfl ⟨rfl, rfl, trivial⟩ ?_
        have H124 : S wq122 [Rw 3 1 p110 ((ascI ((roG (nw i)).l.map E5.pr)).length) c111 (fl intL (ascI ((roG (nw i)).l.map E5.pr))), Ob g90 (.cells #[.slice (roG (nw i)).p ((roG (nw i)).l.length) ((roG (nw i)).c)] 94 (0, 0)), Rw 94 1 (cutP p98 (((roG (od i)).l ++ [(roG (nw i))]).length - 10) c99 1) (((roG (od i)).l ++ [(roG (nw i))]).length - (((roG (od i)).l ++ [(roG (nw i))]).length - 10)) (c99 - (((roG (od i)).l ++ [(roG (nw i))]).length - 10)) (fl rowL (((roG (od i)).l ++ [(roG (nw i))]).drop (((roG (od i)).l ++ [(roG (nw i))]).length - 10))), Ob b (.cells #[.map (some m1), .map (some m2), .map (some m3), .map (some m4)] 88 (0, 0)), Mp (Value.int .i64) roV okI m1 (delM nw i), Mp (Value.int .i64) roV okI m2 (upM (upM od i (⟨p98, c99, ((roG (od i)).l ++ [(roG (nw i))])⟩ : Ro (Ro E5))) i (⟨(cutP p98 (((roG (od i)).l ++ [(roG (nw i))]).length - 10) c99 1), (c99 - (((roG (od i)).l ++ [(roG (nw i))]).length - 10)), (((roG (od i)).l ++ [(roG (nw i))]).drop (((roG (od i)).l ++ [(roG (nw i))]).length - 10))⟩ : Ro (Ro E5))), Mp (Value.int .i64) Value.bool okI m3 bn, Mp (Value.int .i64) (Value.int .i64) okI m4 M, RowsI 109 5 e5L rs, RowsI 94 1 rowL ts, Old w (fps [Ob b (.cells #[.map (some m1), .map (some m2), .map (some m3), .map (some m4)] 88 (0, 0)), Mp (Value.int .i64) roV okI m1 nw, Mp (Value.int .i64) roV okI m2 od, Mp (Value.int .i64) Value.bool okI m3 bn, Mp (Value.int .i64) (Value.int .i64) okI m4 sc, RowsI 109 5 e5L rs, RowsI 94 1 rowL ts])] := H123.rwCutL rowE (k := 2) rfl (((roG (od i)).l ++ [(roG (nw i))]).length - 10) (by omega)
        obtain ⟨q9, hq9⟩ : ∃ q9 : Ro (Ro E5), q9 = (⟨(cutP p98 (((roG (od i)).l ++ [(roG (nw i))]).length - 10) c99 1), (c99 - (((roG (od i)).l ++ [(roG (nw i))]).length - 10)), (((roG (od i)).l ++ [(roG (nw i))]).drop (((roG (od i)).l ++ [(roG (nw i))]).length - 10))⟩ : Ro (Ro E5)) := ⟨_, rfl⟩
        have H125 : S wq122 [RowsI 94 1 rowL (ts ++ [q9]), Rw 3 1 p110 ((ascI ((roG (nw i)).l.map E5.pr)).length) c111 (fl intL (ascI ((roG (nw i)).l.map E5.pr))), Ob g90 (.cells #[.slice (roG (nw i)).p ((roG (nw i)).l.length) ((roG (nw i)).c)] 94 (0, 0)), Ob b (.cells #[.map (some m1), .map (some m2), .map (some m3), .map (some m4)] 88 (0, 0)), Mp (Value.int .i64) roV okI m1 (delM nw i), Mp (Value.int .i64) roV okI m2 (upM od i q9), Mp (Value.int .i64) Value.bool okI m3 bn, Mp (Value.int .i64) (Value.int .i64) okI m4 M, RowsI 109 5 e5L rs, Old w (fps [Ob b (.cells #[.map (some m1), .map (some m2), .map (some m3), .map (some m4)] 88 (0, 0)), Mp (Value.int .i64) roV okI m1 nw, Mp (Value.int .i64) roV okI m2 od, Mp (Value.int .i64) Value.bool okI m3 bn, Mp (Value.int .i64) (Value.int .i64) okI m4 sc, RowsI 109 5 e5L rs, RowsI 94 1 rowL ts])] := by
         have h8 := S.rowsAdd (H124.takes [9, 2, 0, 1, 3, 4, 5, 6, 7, 8, 10] (by decide)) (by rw [List.length_drop])
         rw [upM_upM] at h8
         rw [← hq9] at h8
         exact h8
        have hqq : q9.l = lastTen ((roG (od i)).l ++ [roG (nw i)]) := by rw [hq9]; exact rfl
        have hkk : k = (ascI ((roG (nw i)).l.map E5.pr)).length := by omega
        subst hkk
        rw [List.take_length] at hM
        have hE : (endE (RA nw od bn sc) i) = 0 := endE_0 hb3 rfl hne
        have hFR := failR_eq hE
        have hwo : whoL (trE (roG (nw i)).l) = (ascI ((roG (nw i)).l.map E5.pr)) := whoE (hR.nwOk i)
        have hfl : failL (trE (roG (nw i)).l) = [] := by unfold failL; rw [hwo, if_neg (by omega)]
        have H126 := H125.nilFl 3 1 intL
        rw [hfl, banL_nil] at hFR
        rw [hE, hFR]
        exact ⟨delM nw i, upM od i q9, bn, M, rs, ts ++ [q9], none, 0, hR.failQ hne hqq, ⟨fun _ h => h, fun x hx => List.mem_append_left _ hx⟩, RA_fail hE (hR.nwOk i) hqq hM (fun y => by rw [hfl]; simp), rfl, H126.takes [0, 4, 5, 6, 7, 8, 9, 1, 10] (by decide)⟩
       ·
        refine q_val (v := .pointer (some ⟨b, 0, none⟩)) (wt1 rfl rfl rfl rfl (decide_eq_false hb121)) rfl rfl (fun wx H => x_move rfl rfl) ?_
        refine q_val (v := .pointer (some ⟨b, 0, none⟩)) (wt1 rfl rfl rfl rfl (decide_eq_false hb121)) rfl rfl (fun wx H => x_nilCheck rfl rfl) ?_
        refine q_val (v := .pointer (some ⟨b, 2, none⟩)) (wt1 rfl rfl rfl rfl (decide_eq_false hb121)) rfl rfl (fun wx H => x_fieldAddr rfl rfl fo88_2 rfl) ?_
        refine q_val (v := .map (some m3)) (wt1 rfl rfl rfl rfl (decide_eq_false hb121)) rfl rfl (fun wx H => x_load1 H 3 rfl rfl Try.underlying29 rfl rfl rfl) ?_
        refine q_val (v := .slice p110 ((ascI ((roG (nw i)).l.map E5.pr)).length) c111) (wt1 rfl rfl rfl rfl (decide_eq_false hb121)) rfl rfl (fun wx H => x_move rfl rfl) ?_
        refine q_val (v := .pointer ((p110).map fun q => q.add (0 * 1))) (wt1 rfl rfl rfl rfl (decide_eq_false hb121)) rfl rfl (fun wx H => x_idxP 0 ((H116.rwReads (k := 0) rfl).some (by omega)) rfl rfl rfl Try.underlying24 sz3 (by omega)) ?_
        have hlq := (H116.rwReads (k := 0) rfl).lenL intE
        obtain ⟨x127, hx127⟩ := ex_at (l := (ascI ((roG (nw i)).l.map E5.pr))) (j := 0) (by omega)
        clear hlq
        have hok_x127 : okI x127 := okI_in (who_in (hR.nwOk i) (List.mem_of_getElem? hx127))
        refine q_val (v := .int .i64 x127) (wt1 rfl rfl rfl rfl (decide_eq_false hb121)) rfl rfl (fun wx H => x_loadR1 0 (H.rwReads (k := 0) rfl) (by omega) rfl rfl Try.underlying3 rfl (intE.flAt1 hx127 rfl)) ?_
        refine q_val (v := .bool (((bn x127).getD false))) (wt1 rfl rfl rfl rfl (decide_eq_false hb121)) rfl rfl (fun wx H => ex_cast (x_lookup1 (x := x127) (intTy Try.underlying29 Try.underlying3) H 6 rfl rfl rfl rfl (hok_x127) ze4) (look_B _)) ?_
        refine q_val (v := .bool (((bn x127).getD false))) (wt0 rfl) rfl rfl (fun wx H => x_pick_f rfl rfl (decide_eq_false hb121) rfl) ?_
        refine q_nil (fun wq128 H129 => ?_)
        refine g_then ?_
        refine g_weak [(0, .pointer (some ⟨b, 0, none⟩)), (8, .slice p110 ((ascI ((roG (nw i)).l.map E5.pr)).length) c111), (95, .bool (((bn x127).getD false)))] ⟨rfl, rfl, rfl, trivial⟩ ?_
        rcases Bool.eq_false_or_eq_true (((bn x127).getD false)) with hb130 | hb130
        ·
         refine g_cond_t rfl hb130 ?_
         refine w_s ?_
         refine w_r2 ?_
         refine w_e ?_
         refine g_ret ?_
         refine g_then_ret ?_
         refine fin_ret [.tmp 4, .tmp 5] [.slice none 0 0, .int .i64 0] rfl ⟨rfl, rfl, trivial⟩ ?_
         have H131 : S wq128 [Rw 3 1 p110 ((ascI ((roG (nw i)).l.map E5.pr)).length) c111 (fl intL (ascI ((roG (nw i)).l.map E5.pr))), Ob g90 (.cells #[.slice (roG (nw i)).p ((roG (nw i)).l.length) ((roG (nw i)).c)] 94 (0, 0)), Rw 94 1 (cutP p98 (((roG (od i)).l ++ [(roG (nw i))]).length - 10) c99 1) (((roG (od i)).l ++ [(roG (nw i))]).length - (((roG (od i)).l ++ [(roG (nw i))]).length - 10)) (c99 - (((roG (od i)).l ++ [(roG (nw i))]).length - 10)) (fl rowL (((roG (od i)).l ++ [(roG (nw i))]).drop (((roG (od i)).l ++ [(roG (nw i))]).length - 10))), Ob b (.cells #[.map (some m1), .map (some m2), .map (some m3), .map (some m4)] 88 (0, 0)), Mp (Value.int .i64) roV okI m1 (delM nw i), Mp (Value.int .i64) roV okI m2 (upM (upM od i (⟨p98, c99, ((roG (od i)).l ++ [(roG (nw i))])⟩ : Ro (Ro E5))) i (⟨(cutP p98 (((roG (od i)).l ++ [(roG (nw i))]).length - 10) c99 1), (c99 - (((roG (od i)).l ++ [(roG (nw i))]).length - 10)), (((roG (od i)).l ++ [(roG (nw i))]).drop (((roG (od i)).l ++ [(roG (nw i))]).length - 10))⟩ : Ro (Ro E5))), Mp (Value.int .i64) Value.bool okI m3 bn, Mp (Value.int .i64) (Value.int .i64) okI m4 M, RowsI 109 5 e5L rs, RowsI 94 1 rowL ts, Old w (fps [Ob b (.cells #[.map (some m1), .map (some m2), .map (some m3), .map (some m4)] 88 (0, 0)), Mp (Value.int .i64) roV okI m1 nw, Mp (Value.int .i64) roV okI m2 od, Mp (Value.int .i64) Value.bool okI m3 bn, Mp (Value.int .i64) (Value.int .i64) okI m4 sc, RowsI 109 5 e5L rs, RowsI 94 1 rowL ts])] := H129.rwCutL rowE (k := 2) rfl (((roG (od i)).l ++ [(roG (nw i))]).length - 10) (by omega)
         obtain ⟨q9, hq9⟩ : ∃ q9 : Ro (Ro E5), q9 = (⟨(cutP p98 (((roG (od i)).l ++ [(roG (nw i))]).length - 10) c99 1), (c99 - (((roG (od i)).l ++ [(roG (nw i))]).length - 10)), (((roG (od i)).l ++ [(roG (nw i))]).drop (((roG (od i)).l ++ [(roG (nw i))]).length - 10))⟩ : Ro (Ro E5)) := ⟨_, rfl⟩
         have H132 : S wq128 [RowsI 94 1 rowL (ts ++ [q9]), Rw 3 1 p110 ((ascI ((roG (nw i)).l.map E5.pr)).length) c111 (fl intL (ascI ((roG (nw i)).l.map E5.pr))), Ob g90 (.cells #[.slice (roG (nw i)).p ((roG (nw i)).l.length) ((roG (nw i)).c)] 94 (0, 0)), Ob b (.cells #[.map (some m1), .map (some m2), .map (some m3), .map (some m4)] 88 (0, 0)), Mp (Value.int .i64) roV okI m1 (delM nw i), Mp (Value.int .i64) roV okI m2 (upM od i q9), Mp (Value.int .i64) Value.bool okI m3 bn, Mp (Value.int .i64) (Value.int .i64) okI m4 M, RowsI 109 5 e5L rs, Old w (fps [Ob b (.cells #[.map (some m1), .map (some m2), .map (some m3), .map (some m4)] 88 (0, 0)), Mp (Value.int .i64) roV okI m1 nw, Mp (Value.int .i64) roV okI m2 od, Mp (Value.int .i64) Value.bool okI m3 bn, Mp (Value.int .i64) (Value.int .i64) okI m4 sc, RowsI 109 5 e5L rs, RowsI 94 1 rowL ts])] := by
          have h8 := S.rowsAdd (H131.takes [9, 2, 0, 1, 3, 4, 5, 6, 7, 8, 10] (by decide)) (by rw [List.length_drop])
          rw [upM_upM] at h8
          rw [← hq9] at h8
          exact h8
         have hqq : q9.l = lastTen ((roG (od i)).l ++ [roG (nw i)]) := by rw [hq9]; exact rfl
         have hkk : k = (ascI ((roG (nw i)).l.map E5.pr)).length := by omega
         subst hkk
         rw [List.take_length] at hM
         have hE : (endE (RA nw od bn sc) i) = 0 := endE_0 hb3 rfl hne
         have hFR := failR_eq hE
         have hwo : whoL (trE (roG (nw i)).l) = (ascI ((roG (nw i)).l.map E5.pr)) := whoE (hR.nwOk i)
         have hw1 := one_of hx127 (by omega)
         have hfl : failL (trE (roG (nw i)).l) = [x127] := by unfold failL; rw [hwo, hw1]; rfl
         rw [hfl, banL_one] at hFR
         have H133 := H132.nilFl 3 1 intL
         rw [if_pos (show (RA nw od bn sc).bn x127 = true from hb130)] at hFR
         rw [hE, hFR]
         exact ⟨delM nw i, upM od i q9, bn, M, rs, ts ++ [q9], none, 0, hR.failQ hne hqq, ⟨fun _ h => h, fun x hx => List.mem_append_left _ hx⟩, RA_fail hE (hR.nwOk i) hqq hM (fun y => by rw [hfl]; by_cases e : y = x127 <;> simp [e, hb130]), rfl, H133.takes [0, 4, 5, 6, 7, 8, 9, 1, 10] (by decide)⟩
        ·
         refine g_cond_f rfl hb130 ?_
         refine g_skip ?_
         refine g_then ?_
         refine g_seq ?_
         refine g_any [] (fun wx => S wx [Rw 3 1 p110 ((ascI ((roG (nw i)).l.map E5.pr)).length) c111 (fl intL (ascI ((roG (nw i)).l.map E5.pr))), Ob g90 (.cells #[.slice (roG (nw i)).p ((roG (nw i)).l.length) ((roG (nw i)).c)] 94 (0, 0)), Rw 94 1 p98 (((roG (od i)).l ++ [(roG (nw i))]).length) c99 (fl rowL ((roG (od i)).l ++ [(roG (nw i))])), Ob b (.cells #[.map (some m1), .map (some m2), .map (some m3), .map (some m4)] 88 (0, 0)), Mp (Value.int .i64) roV okI m1 (delM nw i), Mp (Value.int .i64) roV okI m2 (upM (upM od i (⟨p98, c99, ((roG (od i)).l ++ [(roG (nw i))])⟩ : Ro (Ro E5))) i (⟨(cutP p98 (((roG (od i)).l ++ [(roG (nw i))]).length - 10) c99 1), (c99 - (((roG (od i)).l ++ [(roG (nw i))]).length - 10)), (((roG (od i)).l ++ [(roG (nw i))]).drop (((roG (od i)).l ++ [(roG (nw i))]).length - 10))⟩ : Ro (Ro E5))), Mp (Value.int .i64) Value.bool okI m3 bn, Mp (Value.int .i64) (Value.int .i64) okI m4 M, RowsI 109 5 e5L rs, RowsI 94 1 rowL ts, Old w (fps [Ob b (.cells #[.map (some m1), .map (some m2), .map (some m3), .map (some m4)] 88 (0, 0)), Mp (Value.int .i64) roV okI m1 nw, Mp (Value.int .i64) roV okI m2 od, Mp (Value.int .i64) Value.bool okI m3 bn, Mp (Value.int .i64) (Value.int .i64) okI m4 sc, RowsI 109 5 e5L rs, RowsI 94 1 rowL ts])]) [7] (by kernel_rfl) H129 (fun wq134 H135 => ?_)
         refine w_t 0 rfl H135 (fun _ _ => xm) ?_
         refine w_t 1 rfl H135 (fun _ _ => xn) ?_
         refine w_t 2 rfl H135 (fun _ _ => xf 2) ?_
         refine w_t 3 rfl H135 (fun _ H => xl H 3) ?_
         refine w_t 4 rfl H135 (fun _ _ => xm) ?_
         refine w_t (v := .pointer ((p110).map fun q => q.add (0 * 1))) 5 rfl H135 (fun _ _ => x_idxP 0 ((H135.rwReads (k := 0) rfl).some (by omega)) rfl rfl rfl Try.underlying24 sz3 (by omega)) ?_
         refine w_t (v := .int .i64 x127) 6 rfl H135 (fun _ H => x_loadR1 0 (H.rwReads (k := 0) rfl) (by omega) rfl rfl Try.underlying3 rfl (intE.flAt1 hx127 rfl)) ?_
         refine a_one (i := 7) (by kernel_rfl) rfl ?_
         refine s_mapUpdate (x := x127) (a := true) (intTy Try.underlying29 Try.underlying3) H135 6 (wt0 rfl) rfl rfl rfl rfl rfl rfl (hok_x127) ?_
         intro wq136 H137
         refine a_kt rfl ?_
         refine a_done (by kernel_rfl) ?_
         refine g_then ?_
         refine w_s ?_
         refine w_r3 ?_
         refine w_e ?_
         refine g_ret ?_
         refine fin_ret [.tmp 4, .tmp 5] [.slice p110 ((ascI ((roG (nw i)).l.map E5.pr)).length) c111, .int .i64 0] rfl ⟨rfl, rfl, trivial⟩ ?_
         have H138 : S wq136 [Rw 3 1 p110 ((ascI ((roG (nw i)).l.map E5.pr)).length) c111 (fl intL (ascI ((roG (nw i)).l.map E5.pr))), Ob g90 (.cells #[.slice (roG (nw i)).p ((roG (nw i)).l.length) ((roG (nw i)).c)] 94 (0, 0)), Rw 94 1 (cutP p98 (((roG (od i)).l ++ [(roG (nw i))]).length - 10) c99 1) (((roG (od i)).l ++ [(roG (nw i))]).length - (((roG (od i)).l ++ [(roG (nw i))]).length - 10)) (c99 - (((roG (od i)).l ++ [(roG (nw i))]).length - 10)) (fl rowL (((roG (od i)).l ++ [(roG (nw i))]).drop (((roG (od i)).l ++ [(roG (nw i))]).length - 10))), Ob b (.cells #[.map (some m1), .map (some m2), .map (some m3), .map (some m4)] 88 (0, 0)), Mp (Value.int .i64) roV okI m1 (delM nw i), Mp (Value.int .i64) roV okI m2 (upM (upM od i (⟨p98, c99, ((roG (od i)).l ++ [(roG (nw i))])⟩ : Ro (Ro E5))) i (⟨(cutP p98 (((roG (od i)).l ++ [(roG (nw i))]).length - 10) c99 1), (c99 - (((roG (od i)).l ++ [(roG (nw i))]).length - 10)), (((roG (od i)).l ++ [(roG (nw i))]).drop (((roG (od i)).l ++ [(roG (nw i))]).length - 10))⟩ : Ro (Ro E5))), Mp (Value.int .i64) Value.bool okI m3 (upM bn x127 true), Mp (Value.int .i64) (Value.int .i64) okI m4 M, RowsI 109 5 e5L rs, RowsI 94 1 rowL ts, Old w (fps [Ob b (.cells #[.map (some m1), .map (some m2), .map (some m3), .map (some m4)] 88 (0, 0)), Mp (Value.int .i64) roV okI m1 nw, Mp (Value.int .i64) roV okI m2 od, Mp (Value.int .i64) Value.bool okI m3 bn, Mp (Value.int .i64) (Value.int .i64) okI m4 sc, RowsI 109 5 e5L rs, RowsI 94 1 rowL ts])] := H137.rwCutL rowE (k := 2) rfl (((roG (od i)).l ++ [(roG (nw i))]).length - 10) (by omega)
         obtain ⟨q9, hq9⟩ : ∃ q9 : Ro (Ro E5), q9 = (⟨(cutP p98 (((roG (od i)).l ++ [(roG (nw i))]).length - 10) c99 1), (c99 - (((roG (od i)).l ++ [(roG (nw i))]).length - 10)), (((roG (od i)).l ++ [(roG (nw i))]).drop (((roG (od i)).l ++ [(roG (nw i))]).length - 10))⟩ : Ro (Ro E5)) := ⟨_, rfl⟩
         have H139 : S wq136 [RowsI 94 1 rowL (ts ++ [q9]), Rw 3 1 p110 ((ascI ((roG (nw i)).l.map E5.pr)).length) c111 (fl intL (ascI ((roG (nw i)).l.map E5.pr))), Ob g90 (.cells #[.slice (roG (nw i)).p ((roG (nw i)).l.length) ((roG (nw i)).c)] 94 (0, 0)), Ob b (.cells #[.map (some m1), .map (some m2), .map (some m3), .map (some m4)] 88 (0, 0)), Mp (Value.int .i64) roV okI m1 (delM nw i), Mp (Value.int .i64) roV okI m2 (upM od i q9), Mp (Value.int .i64) Value.bool okI m3 (upM bn x127 true), Mp (Value.int .i64) (Value.int .i64) okI m4 M, RowsI 109 5 e5L rs, Old w (fps [Ob b (.cells #[.map (some m1), .map (some m2), .map (some m3), .map (some m4)] 88 (0, 0)), Mp (Value.int .i64) roV okI m1 nw, Mp (Value.int .i64) roV okI m2 od, Mp (Value.int .i64) Value.bool okI m3 bn, Mp (Value.int .i64) (Value.int .i64) okI m4 sc, RowsI 109 5 e5L rs, RowsI 94 1 rowL ts])] := by
          have h8 := S.rowsAdd (H138.takes [9, 2, 0, 1, 3, 4, 5, 6, 7, 8, 10] (by decide)) (by rw [List.length_drop])
          rw [upM_upM] at h8
          rw [← hq9] at h8
          exact h8
         have hqq : q9.l = lastTen ((roG (od i)).l ++ [roG (nw i)]) := by rw [hq9]; exact rfl
         have hkk : k = (ascI ((roG (nw i)).l.map E5.pr)).length := by omega
         subst hkk
         rw [List.take_length] at hM
         have hE : (endE (RA nw od bn sc) i) = 0 := endE_0 hb3 rfl hne
         have hFR := failR_eq hE
         have hwo : whoL (trE (roG (nw i)).l) = (ascI ((roG (nw i)).l.map E5.pr)) := whoE (hR.nwOk i)
         have hw1 := one_of hx127 (by omega)
         have hfl : failL (trE (roG (nw i)).l) = [x127] := by unfold failL; rw [hwo, hw1]; rfl
         rw [hfl, banL_one] at hFR
         rw [if_neg (show ¬ (RA nw od bn sc).bn x127 = true from fun h9 => by rw [show (RA nw od bn sc).bn x127 = false from hb130] at h9; cases h9)] at hFR
         rw [hE, hFR, ← hw1]
         exact ⟨delM nw i, upM od i q9, upM bn x127 true, M, rs, ts ++ [q9], p110, c111, hR.failQ hne hqq, ⟨fun _ h => h, fun x hx => List.mem_append_left _ hx⟩, RA_fail hE (hR.nwOk i) hqq hM (fun y => by rw [hfl]; unfold upM; by_cases e : y = x127 <;> simp [e]), rfl, H139.takes [1, 3, 4, 5, 6, 7, 8, 0, 9] (by decide)⟩
     ·
      refine g_cond_f rfl (decide_eq_false hb105) ?_
      refine g_skip ?_
      refine g_then ?_
      refine w_s ?_
      refine w_m ?_
      refine l_of (s_call (wt0 rfl) (x_call' rfl rfl cl68) (who_r (roG (nw i)).p ((roG (nw i)).l.length) ((roG (nw i)).c) (roG (nw i)).l (by omega) _ ((rows_in (H104.at (k := 7) rfl) (hR.nwIn i)))) ?_)
      rintro _ wq143 ⟨p140, c141, rfl, H144⟩
      replace H144 : S wq143 [Rw 3 1 p140 ((ascI ((roG (nw i)).l.map E5.pr)).length) c141 (fl intL (ascI ((roG (nw i)).l.map E5.pr))), Ob g90 (.cells #[.slice (roG (nw i)).p ((roG (nw i)).l.length) ((roG (nw i)).c)] 94 (0, 0)), Rw 94 1 p98 (((roG (od i)).l ++ [(roG (nw i))]).length) c99 (fl rowL ((roG (od i)).l ++ [(roG (nw i))])), Ob b (.cells #[.map (some m1), .map (some m2), .map (some m3), .map (some m4)] 88 (0, 0)), Mp (Value.int .i64) roV okI m1 (delM nw i), Mp (Value.int .i64) roV okI m2 (upM od i (⟨p98, c99, ((roG (od i)).l ++ [(roG (nw i))])⟩ : Ro (Ro E5))), Mp (Value.int .i64) Value.bool okI m3 bn, Mp (Value.int .i64) (Value.int .i64) okI m4 sc, RowsI 109 5 e5L rs, RowsI 94 1 rowL ts, Old w (fps [Ob b (.cells #[.map (some m1), .map (some m2), .map (some m3), .map (some m4)] 88 (0, 0)), Mp (Value.int .i64) roV okI m1 nw, Mp (Value.int .i64) roV okI m2 od, Mp (Value.int .i64) Value.bool okI m3 bn, Mp (Value.int .i64) (Value.int .i64) okI m4 sc, RowsI 109 5 e5L rs, RowsI 94 1 rowL ts])] := by have h := H104.absorb H144; exact h
      refine b_ret rfl rfl ?_
      refine w_a ?_
      refine w_e ?_
      refine g_weak [(0, .pointer (some ⟨b, 0, none⟩)), (8, .slice p140 ((ascI ((roG (nw i)).l.map E5.pr)).length) c141)] ⟨rfl, rfl, trivial⟩ ?_
      refine g_seq ?_
      refine w_s ?_
      refine w_m ?_
      refine w_v (v := .int .i64 (((ascI ((roG (nw i)).l.map E5.pr)).length : Int))) (x_lenl rfl rfl Try.underlying24) ?_
      refine w_m ?_
      refine w_e ?_
      refine g_block ?_
      refine g_loop (ι := Nat × (Int → Option Int)) (fun (k, M) => [(0, .pointer (some ⟨b, 0, none⟩)), (8, .slice p140 ((ascI ((roG (nw i)).l.map E5.pr)).length) c141), (69, .slice p140 ((ascI ((roG (nw i)).l.map E5.pr)).length) c141), (70, .int .i64 (((ascI ((roG (nw i)).l.map E5.pr)).length : Int))), (71, .int .i64 ((k : Int)))]) (fun (k, M) wx => (k ≤ (ascI ((roG (nw i)).l.map E5.pr)).length) ∧ (∀ y, (M y).getD 0 = if y ∈ (ascI ((roG (nw i)).l.map E5.pr)).take k then IntKind.i64.wrap ((sc y).getD 0 + 1) else (sc y).getD 0) ∧ S wx [Rw 3 1 p140 ((ascI ((roG (nw i)).l.map E5.pr)).length) c141 (fl intL (ascI ((roG (nw i)).l.map E5.pr))), Ob g90 (.cells #[.slice (roG (nw i)).p ((roG (nw i)).l.length) ((roG (nw i)).c)] 94 (0, 0)), Rw 94 1 p98 (((roG (od i)).l ++ [(roG (nw i))]).length) c99 (fl rowL ((roG (od i)).l ++ [(roG (nw i))])), Ob b (.cells #[.map (some m1), .map (some m2), .map (some m3), .map (some m4)] 88 (0, 0)), Mp (Value.int .i64) roV okI m1 (delM nw i), Mp (Value.int .i64) roV okI m2 (upM od i (⟨p98, c99, ((roG (od i)).l ++ [(roG (nw i))])⟩ : Ro (Ro E5))), Mp (Value.int .i64) Value.bool okI m3 bn, Mp (Value.int .i64) (Value.int .i64) okI m4 M, RowsI 109 5 e5L rs, RowsI 94 1 rowL ts, Old w (fps [Ob b (.cells #[.map (some m1), .map (some m2), .map (some m3), .map (some m4)] 88 (0, 0)), Mp (Value.int .i64) roV okI m1 nw, Mp (Value.int .i64) roV okI m2 od, Mp (Value.int .i64) Value.bool okI m3 bn, Mp (Value.int .i64) (Value.int .i64) okI m4 sc, RowsI 109 5 e5L rs, RowsI 94 1 rowL ts])]) (fun (k, M) => ((ascI ((roG (nw i)).l.map E5.pr)).length) - k) (0, sc) ⟨rfl, rfl, rfl, rfl, rfl, trivial⟩ ⟨Nat.zero_le _, (fun y => by simp), H144⟩ ?_
      rintro ⟨k, M⟩ wq145 ⟨hk, hM, H146⟩
      refine g_weak [(0, .pointer (some ⟨b, 0, none⟩)), (8, .slice p140 ((ascI ((roG (nw i)).l.map E5.pr)).length) c141), (69, .slice p140 ((ascI ((roG (nw i)).l.map E5.pr)).length) c141), (70, .int .i64 (((ascI ((roG (nw i)).l.map E5.pr)).length : Int))), (71, .int .i64 ((k : Int)))] ⟨rfl, rfl, rfl, rfl, rfl, trivial⟩ ?_
      refine w_s ?_
      refine w_b ?_
      refine w_e ?_
      refine g_seq ?_
      by_cases hb147 : ((k : Int) : Int) < ((ascI ((roG (nw i)).l.map E5.pr)).length : Int)
      ·
       refine g_cond_t rfl (decide_eq_true hb147) ?_
       refine g_skip ?_
       refine g_then ?_
       refine g_seq ?_
       refine g_block ?_
       refine w_s ?_
       refine w_v (v := .pointer ((p140).map fun q => q.add (k * 1))) (x_idxR k (H146.rwReads (k := 0) rfl) rfl rfl rfl Try.underlying24 sz3 (by omega)) ?_
       have hlq := (H146.rwReads (k := 0) rfl).lenL intE
       obtain ⟨x148, hx148⟩ := ex_at (l := (ascI ((roG (nw i)).l.map E5.pr))) (j := k) (by omega)
       clear hlq
       have hok_x148 : okI x148 := okI_in (who_in (hR.nwOk i) (List.mem_of_getElem? hx148))
       refine w_v (v := .int .i64 x148) (x_loadR1 k (H146.rwReads (k := 0) rfl) (by omega) rfl rfl Try.underlying3 rfl (intE.flAt1 hx148 rfl)) ?_
       refine w_a ?_
       refine w_e ?_
       refine g_region ?_
       refine w_r3 ?_
       refine w_1 H146 3 ?_
       refine w_m ?_
       refine w_v (v := .int .i64 (((M x148).getD 0))) (ex_cast (x_lookup1 (x := x148) (intTy Try.underlying60 Try.underlying3) H146 7 rfl rfl rfl rfl (hok_x148) ze3) (look_I _)) ?_
       refine w_b (v := .int .i64 (IntKind.i64.wrap (((M x148).getD 0) + 1))) (hb := (b_add rfl)) ?_
       refine l_of (s_mapUpdate (x := x148) (a := IntKind.i64.wrap (((M x148).getD 0) + 1)) (intTy Try.underlying60 Try.underlying3) H146 7 (wt0 rfl) rfl rfl rfl rfl rfl rfl (hok_x148) ?_)
       intro wq149 H150
       refine g_nil ?_
       refine g_in ?_
       refine g_then ?_
       refine g_region ?_
       refine w_b (v := .int .i64 (((k + 1 : Nat) : Int))) (hb := (b_add (by rw [w64 (by omega)]; omega))) ?_
       refine w_m ?_
       refine w_e ?_
       refine g_round (i := (k, M)) ((k + 1), (upM M x148 (IntKind.i64.wrap (((M x148).getD 0) + 1)))) ?_ ?_ ?_
       · exact ⟨rfl, rfl, rfl, rfl, rfl, trivial⟩
       · exact ⟨by omega, (score_next (ascI_lt _) hx148 hM), H150⟩
       · (try dsimp only); omega
      ·
       refine g_cond_f rfl (decide_eq_false hb147) ?_
       refine g_exit ?_
       refine g_then_exit ?_
       refine g_then_exit ?_
       refine g_in_hit ?_
       refine g_then ?_
       refine g_seq ?_
       refine g_seq ?_
       refine g_quiet (by kernel_rfl) (by kernel_rfl) H146 ?_
       refine q_val (v := .slice p140 ((ascI ((roG (nw i)).l.map E5.pr)).length) c141) (wt0 rfl) rfl rfl (fun wx H => x_move rfl rfl) ?_
       refine q_val (v := .int .i64 (((ascI ((roG (nw i)).l.map E5.pr)).length : Int))) (wt0 rfl) rfl rfl (fun wx H => x_lenl rfl rfl Try.underlying24) ?_
       refine q_val (v := .bool (decide ((1 : Int) < ((ascI ((roG (nw i)).l.map E5.pr)).length : Int)))) (wt0 rfl) rfl rfl (fun wx H => x_bin rfl rfl rfl b_gtr) ?_
       refine q_val (v := .bool (decide ((1 : Int) < ((ascI ((roG (nw i)).l.map E5.pr)).length : Int)))) (wt0 rfl) rfl rfl (fun wx H => x_move rfl rfl) ?_
       by_cases hb151 : (1 : Int) < ((ascI ((roG (nw i)).l.map E5.pr)).length : Int)
       ·
        refine q_not (wn1 rfl rfl rfl rfl (decide_eq_true hb151)) rfl rfl ?_
        refine q_not (wn1 rfl rfl rfl rfl (decide_eq_true hb151)) rfl rfl ?_
        refine q_not (wn1 rfl rfl rfl rfl (decide_eq_true hb151)) rfl rfl ?_
        refine q_not (wn1 rfl rfl rfl rfl (decide_eq_true hb151)) rfl rfl ?_
        refine q_not (wn1 rfl rfl rfl rfl (decide_eq_true hb151)) rfl rfl ?_
        refine q_not (wn1 rfl rfl rfl rfl (decide_eq_true hb151)) rfl rfl ?_
        refine q_not (wn1 rfl rfl rfl rfl (decide_eq_true hb151)) rfl rfl ?_
        refine q_not (wn1 rfl rfl rfl rfl (decide_eq_true hb151)) rfl rfl ?_
        refine q_val (v := .bool true) (wt0 rfl) rfl rfl (fun wx H => x_pick_t rfl rfl (decide_eq_true hb151) rfl) ?_
        refine q_nil (fun wq152 H153 => ?_)
        refine g_then ?_
        refine g_weak [(0, .pointer (some ⟨b, 0, none⟩)), (8, .slice p140 ((ascI ((roG (nw i)).l.map E5.pr)).length) c141), (95, .bool true)] ⟨rfl, rfl, rfl, trivial⟩ ?_
        refine g_cond_t rfl rfl ?_
        refine w_s ?_
        refine w_r2 ?_
        refine w_e ?_
        refine g_ret ?_
        refine g_then_ret ?_
        refine fin_ret [.tmp 4, .tmp 5] [.slice none 0 0, .int .i64 0] rfl ⟨rfl, rfl, trivial⟩ ?_
        obtain ⟨q9, hq9⟩ : ∃ q9 : Ro (Ro E5), q9 = (⟨p98, c99, ((roG (od i)).l ++ [(roG (nw i))])⟩ : Ro (Ro E5)) := ⟨_, rfl⟩
        have H154 : S wq152 [RowsI 94 1 rowL (ts ++ [q9]), Rw 3 1 p140 ((ascI ((roG (nw i)).l.map E5.pr)).length) c141 (fl intL (ascI ((roG (nw i)).l.map E5.pr))), Ob g90 (.cells #[.slice (roG (nw i)).p ((roG (nw i)).l.length) ((roG (nw i)).c)] 94 (0, 0)), Ob b (.cells #[.map (some m1), .map (some m2), .map (some m3), .map (some m4)] 88 (0, 0)), Mp (Value.int .i64) roV okI m1 (delM nw i), Mp (Value.int .i64) roV okI m2 (upM od i q9), Mp (Value.int .i64) Value.bool okI m3 bn, Mp (Value.int .i64) (Value.int .i64) okI m4 M, RowsI 109 5 e5L rs, Old w (fps [Ob b (.cells #[.map (some m1), .map (some m2), .map (some m3), .map (some m4)] 88 (0, 0)), Mp (Value.int .i64) roV okI m1 nw, Mp (Value.int .i64) roV okI m2 od, Mp (Value.int .i64) Value.bool okI m3 bn, Mp (Value.int .i64) (Value.int .i64) okI m4 sc, RowsI 109 5 e5L rs, RowsI 94 1 rowL ts])] := by
         have h8 := S.rowsAdd (H153.takes [9, 2, 0, 1, 3, 4, 5, 6, 7, 8, 10] (by decide)) rfl
         rw [← hq9] at h8
         exact h8
        have hqq : q9.l = lastTen ((roG (od i)).l ++ [roG (nw i)]) := by rw [hq9]; exact (by show ((roG (od i)).l ++ [(roG (nw i))]) = lastTen ((roG (od i)).l ++ [(roG (nw i))]); unfold lastTen; rw [show ((roG (od i)).l ++ [(roG (nw i))]).length - 10 = 0 by omega]; rfl)
        have hkk : k = (ascI ((roG (nw i)).l.map E5.pr)).length := by omega
        subst hkk
        rw [List.take_length] at hM
        have hE : (endE (RA nw od bn sc) i) = 0 := endE_0 hb3 rfl hne
        have hFR := failR_eq hE
        have hwo : whoL (trE (roG (nw i)).l) = (ascI ((roG (nw i)).l.map E5.pr)) := whoE (hR.nwOk i)
        have hfl : failL (trE (roG (nw i)).l) = [] := by unfold failL; rw [hwo, if_neg (by omega)]
        have H155 := H154.nilFl 3 1 intL
        rw [hfl, banL_nil] at hFR
        rw [hE, hFR]
        exact ⟨delM nw i, upM od i q9, bn, M, rs, ts ++ [q9], none, 0, hR.failQ hne hqq, ⟨fun _ h => h, fun x hx => List.mem_append_left _ hx⟩, RA_fail hE (hR.nwOk i) hqq hM (fun y => by rw [hfl]; simp), rfl, H155.takes [0, 4, 5, 6, 7, 8, 9, 1, 10] (by decide)⟩
       ·
        refine q_val (v := .pointer (some ⟨b, 0, none⟩)) (wt1 rfl rfl rfl rfl (decide_eq_false hb151)) rfl rfl (fun wx H => x_move rfl rfl) ?_
        refine q_val (v := .pointer (some ⟨b, 0, none⟩)) (wt1 rfl rfl rfl rfl (decide_eq_false hb151)) rfl rfl (fun wx H => x_nilCheck rfl rfl) ?_
        refine q_val (v := .pointer (some ⟨b, 2, none⟩)) (wt1 rfl rfl rfl rfl (decide_eq_false hb151)) rfl rfl (fun wx H => x_fieldAddr rfl rfl fo88_2 rfl) ?_
        refine q_val (v := .map (some m3)) (wt1 rfl rfl rfl rfl (decide_eq_false hb151)) rfl rfl (fun wx H => x_load1 H 3 rfl rfl Try.underlying29 rfl rfl rfl) ?_
        refine q_val (v := .slice p140 ((ascI ((roG (nw i)).l.map E5.pr)).length) c141) (wt1 rfl rfl rfl rfl (decide_eq_false hb151)) rfl rfl (fun wx H => x_move rfl rfl) ?_
        refine q_val (v := .pointer ((p140).map fun q => q.add (0 * 1))) (wt1 rfl rfl rfl rfl (decide_eq_false hb151)) rfl rfl (fun wx H => x_idxP 0 ((H146.rwReads (k := 0) rfl).some (by omega)) rfl rfl rfl Try.underlying24 sz3 (by omega)) ?_
        have hlq := (H146.rwReads (k := 0) rfl).lenL intE
        obtain ⟨x156, hx156⟩ := ex_at (l := (ascI ((roG (nw i)).l.map E5.pr))) (j := 0) (by omega)
        clear hlq
        have hok_x156 : okI x156 := okI_in (who_in (hR.nwOk i) (List.mem_of_getElem? hx156))
        refine q_val (v := .int .i64 x156) (wt1 rfl rfl rfl rfl (decide_eq_false hb151)) rfl rfl (fun wx H => x_loadR1 0 (H.rwReads (k := 0) rfl) (by omega) rfl rfl Try.underlying3 rfl (intE.flAt1 hx156 rfl)) ?_
        refine q_val (v := .bool (((bn x156).getD false))) (wt1 rfl rfl rfl rfl (decide_eq_false hb151)) rfl rfl (fun wx H => ex_cast (x_lookup1 (x := x156) (intTy Try.underlying29 Try.underlying3) H 6 rfl rfl rfl rfl (hok_x156) ze4) (look_B _)) ?_
        refine q_val (v := .bool (((bn x156).getD false))) (wt0 rfl) rfl rfl (fun wx H => x_pick_f rfl rfl (decide_eq_false hb151) rfl) ?_
        refine q_nil (fun wq157 H158 => ?_)
        refine g_then ?_
        refine g_weak [(0, .pointer (some ⟨b, 0, none⟩)), (8, .slice p140 ((ascI ((roG (nw i)).l.map E5.pr)).length) c141), (95, .bool (((bn x156).getD false)))] ⟨rfl, rfl, rfl, trivial⟩ ?_
        rcases Bool.eq_false_or_eq_true (((bn x156).getD false)) with hb159 | hb159
        ·
         refine g_cond_t rfl hb159 ?_
         refine w_s ?_
         refine w_r2 ?_
         refine w_e ?_
         refine g_ret ?_
         refine g_then_ret ?_
         refine fin_ret [.tmp 4, .tmp 5] [.slice none 0 0, .int .i64 0] rfl ⟨rfl, rfl, trivial⟩ ?_
         obtain ⟨q9, hq9⟩ : ∃ q9 : Ro (Ro E5), q9 = (⟨p98, c99, ((roG (od i)).l ++ [(roG (nw i))])⟩ : Ro (Ro E5)) := ⟨_, rfl⟩
         have H160 : S wq157 [RowsI 94 1 rowL (ts ++ [q9]), Rw 3 1 p140 ((ascI ((roG (nw i)).l.map E5.pr)).length) c141 (fl intL (ascI ((roG (nw i)).l.map E5.pr))), Ob g90 (.cells #[.slice (roG (nw i)).p ((roG (nw i)).l.length) ((roG (nw i)).c)] 94 (0, 0)), Ob b (.cells #[.map (some m1), .map (some m2), .map (some m3), .map (some m4)] 88 (0, 0)), Mp (Value.int .i64) roV okI m1 (delM nw i), Mp (Value.int .i64) roV okI m2 (upM od i q9), Mp (Value.int .i64) Value.bool okI m3 bn, Mp (Value.int .i64) (Value.int .i64) okI m4 M, RowsI 109 5 e5L rs, Old w (fps [Ob b (.cells #[.map (some m1), .map (some m2), .map (some m3), .map (some m4)] 88 (0, 0)), Mp (Value.int .i64) roV okI m1 nw, Mp (Value.int .i64) roV okI m2 od, Mp (Value.int .i64) Value.bool okI m3 bn, Mp (Value.int .i64) (Value.int .i64) okI m4 sc, RowsI 109 5 e5L rs, RowsI 94 1 rowL ts])] := by
          have h8 := S.rowsAdd (H158.takes [9, 2, 0, 1, 3, 4, 5, 6, 7, 8, 10] (by decide)) rfl
          rw [← hq9] at h8
          exact h8
         have hqq : q9.l = lastTen ((roG (od i)).l ++ [roG (nw i)]) := by rw [hq9]; exact (by show ((roG (od i)).l ++ [(roG (nw i))]) = lastTen ((roG (od i)).l ++ [(roG (nw i))]); unfold lastTen; rw [show ((roG (od i)).l ++ [(roG (nw i))]).length - 10 = 0 by omega]; rfl)
         have hkk : k = (ascI ((roG (nw i)).l.map E5.pr)).length := by omega
         subst hkk
         rw [List.take_length] at hM
         have hE : (endE (RA nw od bn sc) i) = 0 := endE_0 hb3 rfl hne
         have hFR := failR_eq hE
         have hwo : whoL (trE (roG (nw i)).l) = (ascI ((roG (nw i)).l.map E5.pr)) := whoE (hR.nwOk i)
         have hw1 := one_of hx156 (by omega)
         have hfl : failL (trE (roG (nw i)).l) = [x156] := by unfold failL; rw [hwo, hw1]; rfl
         rw [hfl, banL_one] at hFR
         have H161 := H160.nilFl 3 1 intL
         rw [if_pos (show (RA nw od bn sc).bn x156 = true from hb159)] at hFR
         rw [hE, hFR]
         exact ⟨delM nw i, upM od i q9, bn, M, rs, ts ++ [q9], none, 0, hR.failQ hne hqq, ⟨fun _ h => h, fun x hx => List.mem_append_left _ hx⟩, RA_fail hE (hR.nwOk i) hqq hM (fun y => by rw [hfl]; by_cases e : y = x156 <;> simp [e, hb159]), rfl, H161.takes [0, 4, 5, 6, 7, 8, 9, 1, 10] (by decide)⟩
        ·
         refine g_cond_f rfl hb159 ?_
         refine g_skip ?_
         refine g_then ?_
         refine g_seq ?_
         refine g_any [] (fun wx => S wx [Rw 3 1 p140 ((ascI ((roG (nw i)).l.map E5.pr)).length) c141 (fl intL (ascI ((roG (nw i)).l.map E5.pr))), Ob g90 (.cells #[.slice (roG (nw i)).p ((roG (nw i)).l.length) ((roG (nw i)).c)] 94 (0, 0)), Rw 94 1 p98 (((roG (od i)).l ++ [(roG (nw i))]).length) c99 (fl rowL ((roG (od i)).l ++ [(roG (nw i))])), Ob b (.cells #[.map (some m1), .map (some m2), .map (some m3), .map (some m4)] 88 (0, 0)), Mp (Value.int .i64) roV okI m1 (delM nw i), Mp (Value.int .i64) roV okI m2 (upM od i (⟨p98, c99, ((roG (od i)).l ++ [(roG (nw i))])⟩ : Ro (Ro E5))), Mp (Value.int .i64) Value.bool okI m3 bn, Mp (Value.int .i64) (Value.int .i64) okI m4 M, RowsI 109 5 e5L rs, RowsI 94 1 rowL ts, Old w (fps [Ob b (.cells #[.map (some m1), .map (some m2), .map (some m3), .map (some m4)] 88 (0, 0)), Mp (Value.int .i64) roV okI m1 nw, Mp (Value.int .i64) roV okI m2 od, Mp (Value.int .i64) Value.bool okI m3 bn, Mp (Value.int .i64) (Value.int .i64) okI m4 sc, RowsI 109 5 e5L rs, RowsI 94 1 rowL ts])]) [7] (by kernel_rfl) H158 (fun wq162 H163 => ?_)
         refine w_t 0 rfl H163 (fun _ _ => xm) ?_
         refine w_t 1 rfl H163 (fun _ _ => xn) ?_
         refine w_t 2 rfl H163 (fun _ _ => xf 2) ?_
         refine w_t 3 rfl H163 (fun _ H => xl H 3) ?_
         refine w_t 4 rfl H163 (fun _ _ => xm) ?_
         refine w_t (v := .pointer ((p140).map fun q => q.add (0 * 1))) 5 rfl H163 (fun _ _ => x_idxP 0 ((H163.rwReads (k := 0) rfl).some (by omega)) rfl rfl rfl Try.underlying24 sz3 (by omega)) ?_
         refine w_t (v := .int .i64 x156) 6 rfl H163 (fun _ H => x_loadR1 0 (H.rwReads (k := 0) rfl) (by omega) rfl rfl Try.underlying3 rfl (intE.flAt1 hx156 rfl)) ?_
         refine a_one (i := 7) (by kernel_rfl) rfl ?_
         refine s_mapUpdate (x := x156) (a := true) (intTy Try.underlying29 Try.underlying3) H163 6 (wt0 rfl) rfl rfl rfl rfl rfl rfl (hok_x156) ?_
         intro wq164 H165
         refine a_kt rfl ?_
         refine a_done (by kernel_rfl) ?_
         refine g_then ?_
         refine w_s ?_
         refine w_r3 ?_
         refine w_e ?_
         refine g_ret ?_
         refine fin_ret [.tmp 4, .tmp 5] [.slice p140 ((ascI ((roG (nw i)).l.map E5.pr)).length) c141, .int .i64 0] rfl ⟨rfl, rfl, trivial⟩ ?_
         obtain ⟨q9, hq9⟩ : ∃ q9 : Ro (Ro E5), q9 = (⟨p98, c99, ((roG (od i)).l ++ [(roG (nw i))])⟩ : Ro (Ro E5)) := ⟨_, rfl⟩
         have H166 : S wq164 [RowsI 94 1 rowL (ts ++ [q9]), Rw 3 1 p140 ((ascI ((roG (nw i)).l.map E5.pr)).length) c141 (fl intL (ascI ((roG (nw i)).l.map E5.pr))), Ob g90 (.cells #[.slice (roG (nw i)).p ((roG (nw i)).l.length) ((roG (nw i)).c)] 94 (0, 0)), Ob b (.cells #[.map (some m1), .map (some m2), .map (some m3), .map (some m4)] 88 (0, 0)), Mp (Value.int .i64) roV okI m1 (delM nw i), Mp (Value.int .i64) roV okI m2 (upM od i q9), Mp (Value.int .i64) Value.bool okI m3 (upM bn x156 true), Mp (Value.int .i64) (Value.int .i64) okI m4 M, RowsI 109 5 e5L rs, Old w (fps [Ob b (.cells #[.map (some m1), .map (some m2), .map (some m3), .map (some m4)] 88 (0, 0)), Mp (Value.int .i64) roV okI m1 nw, Mp (Value.int .i64) roV okI m2 od, Mp (Value.int .i64) Value.bool okI m3 bn, Mp (Value.int .i64) (Value.int .i64) okI m4 sc, RowsI 109 5 e5L rs, RowsI 94 1 rowL ts])] := by
          have h8 := S.rowsAdd (H165.takes [9, 2, 0, 1, 3, 4, 5, 6, 7, 8, 10] (by decide)) rfl
          rw [← hq9] at h8
          exact h8
         have hqq : q9.l = lastTen ((roG (od i)).l ++ [roG (nw i)]) := by rw [hq9]; exact (by show ((roG (od i)).l ++ [(roG (nw i))]) = lastTen ((roG (od i)).l ++ [(roG (nw i))]); unfold lastTen; rw [show ((roG (od i)).l ++ [(roG (nw i))]).length - 10 = 0 by omega]; rfl)
         have hkk : k = (ascI ((roG (nw i)).l.map E5.pr)).length := by omega
         subst hkk
         rw [List.take_length] at hM
         have hE : (endE (RA nw od bn sc) i) = 0 := endE_0 hb3 rfl hne
         have hFR := failR_eq hE
         have hwo : whoL (trE (roG (nw i)).l) = (ascI ((roG (nw i)).l.map E5.pr)) := whoE (hR.nwOk i)
         have hw1 := one_of hx156 (by omega)
         have hfl : failL (trE (roG (nw i)).l) = [x156] := by unfold failL; rw [hwo, hw1]; rfl
         rw [hfl, banL_one] at hFR
         rw [if_neg (show ¬ (RA nw od bn sc).bn x156 = true from fun h9 => by rw [show (RA nw od bn sc).bn x156 = false from hb159] at h9; cases h9)] at hFR
         rw [hE, hFR, ← hw1]
         exact ⟨delM nw i, upM od i q9, upM bn x156 true, M, rs, ts ++ [q9], p140, c141, hR.failQ hne hqq, ⟨fun _ h => h, fun x hx => List.mem_append_left _ hx⟩, RA_fail hE (hR.nwOk i) hqq hM (fun y => by rw [hfl]; unfold upM; by_cases e : y = x156 <;> simp [e]), rfl, H166.takes [1, 3, 4, 5, 6, 7, 8, 0, 9] (by decide)⟩
   ·
    refine s_buildSlice H9 (wt0 rfl) rfl rfl rfl (vs := [.slice (roG (nw i)).p ((roG (nw i)).l.length) ((roG (nw i)).c)]) rfl Try.underlying95 sz94 ze94 rfl rfl (cells := #[.slice (roG (nw i)).p ((roG (nw i)).l.length) ((roG (nw i)).c)]) (by kernel_rfl) ?_
    intro g167 wq168 H169
    refine a_k (H169.mask [false, true, true, true, true, true, true, true, true]) ?_
    refine a_one (i := 5) (by kernel_rfl) rfl ?_
    refine s_buildSlice0 H169 (wt0 rfl) rfl rfl rfl Try.underlying95 sz94 ?_
    intro g170 wq171 H172
    replace H172 : S wq171 [Rw 94 1 (some ⟨g170, 0, none⟩) 0 0 (fl rowL ([] : List (Ro E5))), Ob g167 (.cells #[.slice (roG (nw i)).p ((roG (nw i)).l.length) ((roG (nw i)).c)] 94 (0, 0)), Ob b (.cells #[.map (some m1), .map (some m2), .map (some m3), .map (some m4)] 88 (0, 0)), Mp (Value.int .i64) roV okI m1 (delM nw i), Mp (Value.int .i64) roV okI m2 od, Mp (Value.int .i64) Value.bool okI m3 bn, Mp (Value.int .i64) (Value.int .i64) okI m4 sc, RowsI 109 5 e5L rs, RowsI 94 1 rowL ts, Old w (fps [Ob b (.cells #[.map (some m1), .map (some m2), .map (some m3), .map (some m4)] 88 (0, 0)), Mp (Value.int .i64) roV okI m1 nw, Mp (Value.int .i64) roV okI m2 od, Mp (Value.int .i64) Value.bool okI m3 bn, Mp (Value.int .i64) (Value.int .i64) okI m4 sc, RowsI 109 5 e5L rs, RowsI 94 1 rowL ts])] := S.obFl rowE H172 (k := 0) rfl rfl (by decide) rfl
    refine a_k (H172.mask [false, false, true, true, true, true, true, true, true, true]) ?_
    refine a_one (i := 12) (by kernel_rfl) rfl ?_
    have hln177a := (H172.rwReads (k := 0) rfl).lenL rowE
    have hln177b := ((rows_in (H172.at (k := 8) rfl) (hR.odIn i))).lenL rowE
    have hln177 : ((roG (od i)).l).length = 0 + ((roG (od i)).l.length) := by omega
    refine s_appLn (l := []) (l2 := (roG (od i)).l) rowE H172 0 (wt0 rfl) rfl rfl rfl rfl rfl rfl Try.underlying95 inf94 rfl (by decide) ((rows_in (H172.at (k := 8) rfl) (hR.odIn i))) (by omega) ?_
    intro p173 c174 wq175 H176
    rw [List.nil_append] at H176 ⊢
    replace H176 : S wq175 [Rw 94 1 p173 (((roG (od i)).l).length) c174 (fl rowL ((roG (od i)).l)), Ob g167 (.cells #[.slice (roG (nw i)).p ((roG (nw i)).l.length) ((roG (nw i)).c)] 94 (0, 0)), Ob b (.cells #[.map (some m1), .map (some m2), .map (some m3), .map (some m4)] 88 (0, 0)), Mp (Value.int .i64) roV okI m1 (delM nw i), Mp (Value.int .i64) roV okI m2 od, Mp (Value.int .i64) Value.bool okI m3 bn, Mp (Value.int .i64) (Value.int .i64) okI m4 sc, RowsI 109 5 e5L rs, RowsI 94 1 rowL ts, Old w (fps [Ob b (.cells #[.map (some m1), .map (some m2), .map (some m3), .map (some m4)] 88 (0, 0)), Mp (Value.int .i64) roV okI m1 nw, Mp (Value.int .i64) roV okI m2 od, Mp (Value.int .i64) Value.bool okI m3 bn, Mp (Value.int .i64) (Value.int .i64) okI m4 sc, RowsI 109 5 e5L rs, RowsI 94 1 rowL ts])] := H176
    refine a_k (H176.mask [false, false, true, true, true, true, true, true, true, true]) ?_
    refine a_one (i := 15) (by kernel_rfl) rfl ?_
    have hln182a := (H176.rwReads (k := 0) rfl).lenL rowE
    have hln182 : ((roG (od i)).l ++ [(roG (nw i))]).length = (((roG (od i)).l).length) + 1 := by simp only [List.length_append, List.length_cons, List.length_nil] <;> omega
    refine s_appBn (m := 1) (l := (roG (od i)).l) (l2 := [(roG (nw i))]) rowE H176 0 (j0 := 1) rfl rfl ⟨rfl, Nat.le_refl _⟩ (wt0 rfl) rfl rfl rfl rfl rfl rfl Try.underlying95 inf94 rfl (by decide) (by omega) ?_
    intro p178 c179 wq180 H181
    refine a_k (H181.mask [false, false, true, true, true, true, true, true, true, true]) ?_
    refine a_one (i := 16) (by kernel_rfl) rfl ?_
    refine s_mapUpdate (x := i) (a := (⟨p178, c179, ((roG (od i)).l ++ [(roG (nw i))])⟩ : Ro (Ro E5))) (intTy Try.underlying86 Try.underlying3) H181 4 (wt0 rfl) rfl rfl rfl rfl rfl rfl (hok_i) ?_
    intro wq183 H184
    refine a_kt rfl ?_
    refine a_done (by kernel_rfl) ?_
    refine g_then ?_
    refine g_weak [(0, .pointer (some ⟨b, 0, none⟩)), (1, .int .i64 i), (6, .slice (roG (nw i)).p ((roG (nw i)).l.length) ((roG (nw i)).c))] ⟨rfl, rfl, rfl, trivial⟩ ?_
    refine g_seq ?_
    refine w_s ?_
    refine w_r3 ?_
    refine w_1 H184 2 ?_
    refine w_m ?_
    refine w_v (v := .slice p178 (((roG (od i)).l ++ [(roG (nw i))]).length) c179) (ex_cast (x_lookup1 (x := i) (intTy Try.underlying86 Try.underlying3) H184 4 rfl rfl rfl rfl (hok_i) ze95) ((by rw [upM_self]; rfl))) ?_
    refine w_v (v := .int .i64 ((((roG (od i)).l ++ [(roG (nw i))]).length : Int))) (x_lenl rfl rfl Try.underlying95) ?_
    refine w_a ?_
    refine w_e ?_
    refine w_s ?_
    refine w_m ?_
    refine w_b ?_
    refine w_e ?_
    by_cases hb185 : (10 : Int) < (((roG (od i)).l ++ [(roG (nw i))]).length : Int)
    ·
     refine g_cond_t rfl (decide_eq_true hb185) ?_
     refine g_any [] (fun wx => S wx [Rw 94 1 p178 (((roG (od i)).l ++ [(roG (nw i))]).length) c179 (fl rowL ((roG (od i)).l ++ [(roG (nw i))])), Ob g167 (.cells #[.slice (roG (nw i)).p ((roG (nw i)).l.length) ((roG (nw i)).c)] 94 (0, 0)), Ob b (.cells #[.map (some m1), .map (some m2), .map (some m3), .map (some m4)] 88 (0, 0)), Mp (Value.int .i64) roV okI m1 (delM nw i), Mp (Value.int .i64) roV okI m2 (upM od i (⟨p178, c179, ((roG (od i)).l ++ [(roG (nw i))])⟩ : Ro (Ro E5))), Mp (Value.int .i64) Value.bool okI m3 bn, Mp (Value.int .i64) (Value.int .i64) okI m4 sc, RowsI 109 5 e5L rs, RowsI 94 1 rowL ts, Old w (fps [Ob b (.cells #[.map (some m1), .map (some m2), .map (some m3), .map (some m4)] 88 (0, 0)), Mp (Value.int .i64) roV okI m1 nw, Mp (Value.int .i64) roV okI m2 od, Mp (Value.int .i64) Value.bool okI m3 bn, Mp (Value.int .i64) (Value.int .i64) okI m4 sc, RowsI 109 5 e5L rs, RowsI 94 1 rowL ts])]) [14] (by kernel_rfl) H184 (fun wq186 H187 => ?_)
     refine w_t 0 rfl H187 (fun _ _ => xm) ?_
     refine w_t 1 rfl H187 (fun _ _ => xn) ?_
     refine w_t 2 rfl H187 (fun _ _ => xf 1) ?_
     refine w_t 3 rfl H187 (fun _ H => xl H 2) ?_
     refine w_t 4 rfl H187 (fun _ _ => xm) ?_
     refine w_t 5 rfl H187 (fun _ _ => xm) ?_
     refine w_t 6 rfl H187 (fun _ _ => xn) ?_
     refine w_t 7 rfl H187 (fun _ _ => xf 1) ?_
     refine w_t 8 rfl H187 (fun _ H => xl H 2) ?_
     refine w_t 9 rfl H187 (fun _ _ => xm) ?_
     refine w_t (v := .slice p178 (((roG (od i)).l ++ [(roG (nw i))]).length) c179) 10 rfl H187 (fun _ H => ex_cast (x_lookup1 (x := i) (intTy Try.underlying86 Try.underlying3) H 4 rfl rfl rfl rfl (hok_i) ze95) ((by rw [upM_self]; rfl))) ?_
     refine w_t 11 rfl H187 (fun _ _ => xm) ?_
     refine w_t (v := .int .i64 (((((roG (od i)).l ++ [(roG (nw i))]).length - 10 : Nat) : Int))) 12 rfl H187 (fun _ _ => x_bin rfl rfl rfl (b_subN (a := ((roG (od i)).l ++ [(roG (nw i))]).length) (b := 10) (by omega))) ?_
     have hnc := (H187.rwReads (k := 0) rfl).2.1
     have hnl := (H187.rwReads (k := 0) rfl).lenL rowE
     have hdl : (((roG (od i)).l ++ [(roG (nw i))]).drop (((roG (od i)).l ++ [(roG (nw i))]).length - 10)).length = (((roG (od i)).l ++ [(roG (nw i))]).length) - (((roG (od i)).l ++ [(roG (nw i))]).length - 10) := by rw [List.length_drop, ← hnl]
     refine w_t (v := .slice (cutP p178 (((roG (od i)).l ++ [(roG (nw i))]).length - 10) c179 1) ((((roG (od i)).l ++ [(roG (nw i))]).drop (((roG (od i)).l ++ [(roG (nw i))]).length - 10)).length) (c179 - (((roG (od i)).l ++ [(roG (nw i))]).length - 10))) 13 rfl H187 (fun _ _ => ex_cast (x_cut (((roG (od i)).l ++ [(roG (nw i))]).length - 10) rfl rfl rfl Try.underlying95 sz94 (by omega)) (by rw [List.length_drop, ← hnl])) ?_
     refine a_one (i := 14) (by kernel_rfl) rfl ?_
     refine s_mapUpdate (x := i) (a := (⟨(cutP p178 (((roG (od i)).l ++ [(roG (nw i))]).length - 10) c179 1), (c179 - (((roG (od i)).l ++ [(roG (nw i))]).length - 10)), (((roG (od i)).l ++ [(roG (nw i))]).drop (((roG (od i)).l ++ [(roG (nw i))]).length - 10))⟩ : Ro (Ro E5))) (intTy Try.underlying86 Try.underlying3) H187 4 (wt0 rfl) rfl rfl rfl rfl rfl rfl (hok_i) ?_
     intro wq188 H189
     refine a_kt rfl ?_
     refine a_done (by kernel_rfl) ?_
     refine g_then ?_
     refine g_weak [(0, .pointer (some ⟨b, 0, none⟩)), (6, .slice (roG (nw i)).p ((roG (nw i)).l.length) ((roG (nw i)).c))] ⟨rfl, rfl, trivial⟩ ?_
     refine w_s ?_
     refine w_m ?_
     refine l_of (s_call (wt0 rfl) (x_call' rfl rfl cl68) (who_r (roG (nw i)).p ((roG (nw i)).l.length) ((roG (nw i)).c) (roG (nw i)).l (by omega) _ ((rows_in (H189.at (k := 7) rfl) (hR.nwIn i)))) ?_)
     rintro _ wq193 ⟨p190, c191, rfl, H194⟩
     replace H194 : S wq193 [Rw 3 1 p190 ((ascI ((roG (nw i)).l.map E5.pr)).length) c191 (fl intL (ascI ((roG (nw i)).l.map E5.pr))), Rw 94 1 p178 (((roG (od i)).l ++ [(roG (nw i))]).length) c179 (fl rowL ((roG (od i)).l ++ [(roG (nw i))])), Ob g167 (.cells #[.slice (roG (nw i)).p ((roG (nw i)).l.length) ((roG (nw i)).c)] 94 (0, 0)), Ob b (.cells #[.map (some m1), .map (some m2), .map (some m3), .map (some m4)] 88 (0, 0)), Mp (Value.int .i64) roV okI m1 (delM nw i), Mp (Value.int .i64) roV okI m2 (upM (upM od i (⟨p178, c179, ((roG (od i)).l ++ [(roG (nw i))])⟩ : Ro (Ro E5))) i (⟨(cutP p178 (((roG (od i)).l ++ [(roG (nw i))]).length - 10) c179 1), (c179 - (((roG (od i)).l ++ [(roG (nw i))]).length - 10)), (((roG (od i)).l ++ [(roG (nw i))]).drop (((roG (od i)).l ++ [(roG (nw i))]).length - 10))⟩ : Ro (Ro E5))), Mp (Value.int .i64) Value.bool okI m3 bn, Mp (Value.int .i64) (Value.int .i64) okI m4 sc, RowsI 109 5 e5L rs, RowsI 94 1 rowL ts, Old w (fps [Ob b (.cells #[.map (some m1), .map (some m2), .map (some m3), .map (some m4)] 88 (0, 0)), Mp (Value.int .i64) roV okI m1 nw, Mp (Value.int .i64) roV okI m2 od, Mp (Value.int .i64) Value.bool okI m3 bn, Mp (Value.int .i64) (Value.int .i64) okI m4 sc, RowsI 109 5 e5L rs, RowsI 94 1 rowL ts])] := by have h := H189.absorb H194; exact h
     refine b_ret rfl rfl ?_
     refine w_a ?_
     refine w_e ?_
     refine g_seq ?_
     refine w_s ?_
     refine w_m ?_
     refine w_v (v := .int .i64 (((ascI ((roG (nw i)).l.map E5.pr)).length : Int))) (x_lenl rfl rfl Try.underlying24) ?_
     refine w_m ?_
     refine w_e ?_
     refine g_block ?_
     refine g_loop (ι := Nat × (Int → Option Int)) (fun (k, M) => [(0, .pointer (some ⟨b, 0, none⟩)), (8, .slice p190 ((ascI ((roG (nw i)).l.map E5.pr)).length) c191), (69, .slice p190 ((ascI ((roG (nw i)).l.map E5.pr)).length) c191), (70, .int .i64 (((ascI ((roG (nw i)).l.map E5.pr)).length : Int))), (71, .int .i64 ((k : Int)))]) (fun (k, M) wx => (k ≤ (ascI ((roG (nw i)).l.map E5.pr)).length) ∧ (∀ y, (M y).getD 0 = if y ∈ (ascI ((roG (nw i)).l.map E5.pr)).take k then IntKind.i64.wrap ((sc y).getD 0 + 1) else (sc y).getD 0) ∧ S wx [Rw 3 1 p190 ((ascI ((roG (nw i)).l.map E5.pr)).length) c191 (fl intL (ascI ((roG (nw i)).l.map E5.pr))), Rw 94 1 p178 (((roG (od i)).l ++ [(roG (nw i))]).length) c179 (fl rowL ((roG (od i)).l ++ [(roG (nw i))])), Ob g167 (.cells #[.slice (roG (nw i)).p ((roG (nw i)).l.length) ((roG (nw i)).c)] 94 (0, 0)), Ob b (.cells #[.map (some m1), .map (some m2), .map (some m3), .map (some m4)] 88 (0, 0)), Mp (Value.int .i64) roV okI m1 (delM nw i), Mp (Value.int .i64) roV okI m2 (upM (upM od i (⟨p178, c179, ((roG (od i)).l ++ [(roG (nw i))])⟩ : Ro (Ro E5))) i (⟨(cutP p178 (((roG (od i)).l ++ [(roG (nw i))]).length - 10) c179 1), (c179 - (((roG (od i)).l ++ [(roG (nw i))]).length - 10)), (((roG (od i)).l ++ [(roG (nw i))]).drop (((roG (od i)).l ++ [(roG (nw i))]).length - 10))⟩ : Ro (Ro E5))), Mp (Value.int .i64) Value.bool okI m3 bn, Mp (Value.int .i64) (Value.int .i64) okI m4 M, RowsI 109 5 e5L rs, RowsI 94 1 rowL ts, Old w (fps [Ob b (.cells #[.map (some m1), .map (some m2), .map (some m3), .map (some m4)] 88 (0, 0)), Mp (Value.int .i64) roV okI m1 nw, Mp (Value.int .i64) roV okI m2 od, Mp (Value.int .i64) Value.bool okI m3 bn, Mp (Value.int .i64) (Value.int .i64) okI m4 sc, RowsI 109 5 e5L rs, RowsI 94 1 rowL ts])]) (fun (k, M) => ((ascI ((roG (nw i)).l.map E5.pr)).length) - k) (0, sc) ⟨rfl, rfl, rfl, rfl, rfl, trivial⟩ ⟨Nat.zero_le _, (fun y => by simp), H194⟩ ?_
     rintro ⟨k, M⟩ wq195 ⟨hk, hM, H196⟩
     refine g_weak [(0, .pointer (some ⟨b, 0, none⟩)), (8, .slice p190 ((ascI ((roG (nw i)).l.map E5.pr)).length) c191), (69, .slice p190 ((ascI ((roG (nw i)).l.map E5.pr)).length) c191), (70, .int .i64 (((ascI ((roG (nw i)).l.map E5.pr)).length : Int))), (71, .int .i64 ((k : Int)))] ⟨rfl, rfl, rfl, rfl, rfl, trivial⟩ ?_
     refine w_s ?_
     refine w_b ?_
     refine w_e ?_
     refine g_seq ?_
     by_cases hb197 : ((k : Int) : Int) < ((ascI ((roG (nw i)).l.map E5.pr)).length : Int)
     ·
      refine g_cond_t rfl (decide_eq_true hb197) ?_
      refine g_skip ?_
      refine g_then ?_
      refine g_seq ?_
      refine g_block ?_
      refine w_s ?_
      refine w_v (v := .pointer ((p190).map fun q => q.add (k * 1))) (x_idxR k (H196.rwReads (k := 0) rfl) rfl rfl rfl Try.underlying24 sz3 (by omega)) ?_
      have hlq := (H196.rwReads (k := 0) rfl).lenL intE
      obtain ⟨x198, hx198⟩ := ex_at (l := (ascI ((roG (nw i)).l.map E5.pr))) (j := k) (by omega)
      clear hlq
      have hok_x198 : okI x198 := okI_in (who_in (hR.nwOk i) (List.mem_of_getElem? hx198))
      refine w_v (v := .int .i64 x198) (x_loadR1 k (H196.rwReads (k := 0) rfl) (by omega) rfl rfl Try.underlying3 rfl (intE.flAt1 hx198 rfl)) ?_
      refine w_a ?_
      refine w_e ?_
      refine g_region ?_
      refine w_r3 ?_
      refine w_1 H196 3 ?_
      refine w_m ?_
      refine w_v (v := .int .i64 (((M x198).getD 0))) (ex_cast (x_lookup1 (x := x198) (intTy Try.underlying60 Try.underlying3) H196 7 rfl rfl rfl rfl (hok_x198) ze3) (look_I _)) ?_
      refine w_b (v := .int .i64 (IntKind.i64.wrap (((M x198).getD 0) + 1))) (hb := (b_add rfl)) ?_
      refine l_of (s_mapUpdate (x := x198) (a := IntKind.i64.wrap (((M x198).getD 0) + 1)) (intTy Try.underlying60 Try.underlying3) H196 7 (wt0 rfl) rfl rfl rfl rfl rfl rfl (hok_x198) ?_)
      intro wq199 H200
      refine g_nil ?_
      refine g_in ?_
      refine g_then ?_
      refine g_region ?_
      refine w_b (v := .int .i64 (((k + 1 : Nat) : Int))) (hb := (b_add (by rw [w64 (by omega)]; omega))) ?_
      refine w_m ?_
      refine w_e ?_
      refine g_round (i := (k, M)) ((k + 1), (upM M x198 (IntKind.i64.wrap (((M x198).getD 0) + 1)))) ?_ ?_ ?_
      · exact ⟨rfl, rfl, rfl, rfl, rfl, trivial⟩
      · exact ⟨by omega, (score_next (ascI_lt _) hx198 hM), H200⟩
      · (try dsimp only); omega
     ·
      refine g_cond_f rfl (decide_eq_false hb197) ?_
      refine g_exit ?_
      refine g_then_exit ?_
      refine g_then_exit ?_
      refine g_in_hit ?_
      refine g_then ?_
      refine g_seq ?_
      refine g_seq ?_
      refine g_quiet (by kernel_rfl) (by kernel_rfl) H196 ?_
      refine q_val (v := .slice p190 ((ascI ((roG (nw i)).l.map E5.pr)).length) c191) (wt0 rfl) rfl rfl (fun wx H => x_move rfl rfl) ?_
      refine q_val (v := .int .i64 (((ascI ((roG (nw i)).l.map E5.pr)).length : Int))) (wt0 rfl) rfl rfl (fun wx H => x_lenl rfl rfl Try.underlying24) ?_
      refine q_val (v := .bool (decide ((1 : Int) < ((ascI ((roG (nw i)).l.map E5.pr)).length : Int)))) (wt0 rfl) rfl rfl (fun wx H => x_bin rfl rfl rfl b_gtr) ?_
      refine q_val (v := .bool (decide ((1 : Int) < ((ascI ((roG (nw i)).l.map E5.pr)).length : Int)))) (wt0 rfl) rfl rfl (fun wx H => x_move rfl rfl) ?_
      by_cases hb201 : (1 : Int) < ((ascI ((roG (nw i)).l.map E5.pr)).length : Int)
      ·
       refine q_not (wn1 rfl rfl rfl rfl (decide_eq_true hb201)) rfl rfl ?_
       refine q_not (wn1 rfl rfl rfl rfl (decide_eq_true hb201)) rfl rfl ?_
       refine q_not (wn1 rfl rfl rfl rfl (decide_eq_true hb201)) rfl rfl ?_
       refine q_not (wn1 rfl rfl rfl rfl (decide_eq_true hb201)) rfl rfl ?_
       refine q_not (wn1 rfl rfl rfl rfl (decide_eq_true hb201)) rfl rfl ?_
       refine q_not (wn1 rfl rfl rfl rfl (decide_eq_true hb201)) rfl rfl ?_
       refine q_not (wn1 rfl rfl rfl rfl (decide_eq_true hb201)) rfl rfl ?_
       refine q_not (wn1 rfl rfl rfl rfl (decide_eq_true hb201)) rfl rfl ?_
       refine q_val (v := .bool true) (wt0 rfl) rfl rfl (fun wx H => x_pick_t rfl rfl (decide_eq_true hb201) rfl) ?_
       refine q_nil (fun wq202 H203 => ?_)
       refine g_then ?_
       refine g_weak [(0, .pointer (some ⟨b, 0, none⟩)), (8, .slice p190 ((ascI ((roG (nw i)).l.map E5.pr)).length) c191), (95, .bool true)] ⟨rfl, rfl, rfl, trivial⟩ ?_
       refine g_cond_t rfl rfl ?_
       refine w_s ?_
       refine w_r2 ?_
       refine w_e ?_
       refine g_ret ?_
       refine g_then_ret ?_
       refine fin_ret [.tmp 4, .tmp 5] [.slice none 0 0, .int .i64 0] rfl ⟨rfl, rfl, trivial⟩ ?_
       have H204 : S wq202 [Rw 3 1 p190 ((ascI ((roG (nw i)).l.map E5.pr)).length) c191 (fl intL (ascI ((roG (nw i)).l.map E5.pr))), Rw 94 1 (cutP p178 (((roG (od i)).l ++ [(roG (nw i))]).length - 10) c179 1) (((roG (od i)).l ++ [(roG (nw i))]).length - (((roG (od i)).l ++ [(roG (nw i))]).length - 10)) (c179 - (((roG (od i)).l ++ [(roG (nw i))]).length - 10)) (fl rowL (((roG (od i)).l ++ [(roG (nw i))]).drop (((roG (od i)).l ++ [(roG (nw i))]).length - 10))), Ob g167 (.cells #[.slice (roG (nw i)).p ((roG (nw i)).l.length) ((roG (nw i)).c)] 94 (0, 0)), Ob b (.cells #[.map (some m1), .map (some m2), .map (some m3), .map (some m4)] 88 (0, 0)), Mp (Value.int .i64) roV okI m1 (delM nw i), Mp (Value.int .i64) roV okI m2 (upM (upM od i (⟨p178, c179, ((roG (od i)).l ++ [(roG (nw i))])⟩ : Ro (Ro E5))) i (⟨(cutP p178 (((roG (od i)).l ++ [(roG (nw i))]).length - 10) c179 1), (c179 - (((roG (od i)).l ++ [(roG (nw i))]).length - 10)), (((roG (od i)).l ++ [(roG (nw i))]).drop (((roG (od i)).l ++ [(roG (nw i))]).length - 10))⟩ : Ro (Ro E5))), Mp (Value.int .i64) Value.bool okI m3 bn, Mp (Value.int .i64) (Value.int .i64) okI m4 M, RowsI 109 5 e5L rs, RowsI 94 1 rowL ts, Old w (fps [Ob b (.cells #[.map (some m1), .map (some m2), .map (some m3), .map (some m4)] 88 (0, 0)), Mp (Value.int .i64) roV okI m1 nw, Mp (Value.int .i64) roV okI m2 od, Mp (Value.int .i64) Value.bool okI m3 bn, Mp (Value.int .i64) (Value.int .i64) okI m4 sc, RowsI 109 5 e5L rs, RowsI 94 1 rowL ts])] := H203.rwCutL rowE (k := 1) rfl (((roG (od i)).l ++ [(roG (nw i))]).length - 10) (by omega)
       obtain ⟨q9, hq9⟩ : ∃ q9 : Ro (Ro E5), q9 = (⟨(cutP p178 (((roG (od i)).l ++ [(roG (nw i))]).length - 10) c179 1), (c179 - (((roG (od i)).l ++ [(roG (nw i))]).length - 10)), (((roG (od i)).l ++ [(roG (nw i))]).drop (((roG (od i)).l ++ [(roG (nw i))]).length - 10))⟩ : Ro (Ro E5)) := ⟨_, rfl⟩
       have H205 : S wq202 [RowsI 94 1 rowL (ts ++ [q9]), Rw 3 1 p190 ((ascI ((roG (nw i)).l.map E5.pr)).length) c191 (fl intL (ascI ((roG (nw i)).l.map E5.pr))), Ob g167 (.cells #[.slice (roG (nw i)).p ((roG (nw i)).l.length) ((roG (nw i)).c)] 94 (0, 0)), Ob b (.cells #[.map (some m1), .map (some m2), .map (some m3), .map (some m4)] 88 (0, 0)), Mp (Value.int .i64) roV okI m1 (delM nw i), Mp (Value.int .i64) roV okI m2 (upM od i q9), Mp (Value.int .i64) Value.bool okI m3 bn, Mp (Value.int .i64) (Value.int .i64) okI m4 M, RowsI 109 5 e5L rs, Old w (fps [Ob b (.cells #[.map (some m1), .map (some m2), .map (some m3), .map (some m4)] 88 (0, 0)), Mp (Value.int .i64) roV okI m1 nw, Mp (Value.int .i64) roV okI m2 od, Mp (Value.int .i64) Value.bool okI m3 bn, Mp (Value.int .i64) (Value.int .i64) okI m4 sc, RowsI 109 5 e5L rs, RowsI 94 1 rowL ts])] := by
        have h8 := S.rowsAdd (H204.takes [9, 1, 0, 2, 3, 4, 5, 6, 7, 8, 10] (by decide)) (by rw [List.length_drop])
        rw [upM_upM] at h8
        rw [← hq9] at h8
        exact h8
       have hqq : q9.l = lastTen ((roG (od i)).l ++ [roG (nw i)]) := by rw [hq9]; exact rfl
       have hkk : k = (ascI ((roG (nw i)).l.map E5.pr)).length := by omega
       subst hkk
       rw [List.take_length] at hM
       have hE : (endE (RA nw od bn sc) i) = 0 := endE_0 hb3 rfl hne
       have hFR := failR_eq hE
       have hwo : whoL (trE (roG (nw i)).l) = (ascI ((roG (nw i)).l.map E5.pr)) := whoE (hR.nwOk i)
       have hfl : failL (trE (roG (nw i)).l) = [] := by unfold failL; rw [hwo, if_neg (by omega)]
       have H206 := H205.nilFl 3 1 intL
       rw [hfl, banL_nil] at hFR
       rw [hE, hFR]
       exact ⟨delM nw i, upM od i q9, bn, M, rs, ts ++ [q9], none, 0, hR.failQ hne hqq, ⟨fun _ h => h, fun x hx => List.mem_append_left _ hx⟩, RA_fail hE (hR.nwOk i) hqq hM (fun y => by rw [hfl]; simp), rfl, H206.takes [0, 4, 5, 6, 7, 8, 9, 1, 10] (by decide)⟩
      ·
       refine q_val (v := .pointer (some ⟨b, 0, none⟩)) (wt1 rfl rfl rfl rfl (decide_eq_false hb201)) rfl rfl (fun wx H => x_move rfl rfl) ?_
       refine q_val (v := .pointer (some ⟨b, 0, none⟩)) (wt1 rfl rfl rfl rfl (decide_eq_false hb201)) rfl rfl (fun wx H => x_nilCheck rfl rfl) ?_
       refine q_val (v := .pointer (some ⟨b, 2, none⟩)) (wt1 rfl rfl rfl rfl (decide_eq_false hb201)) rfl rfl (fun wx H => x_fieldAddr rfl rfl fo88_2 rfl) ?_
       refine q_val (v := .map (some m3)) (wt1 rfl rfl rfl rfl (decide_eq_false hb201)) rfl rfl (fun wx H => x_load1 H 3 rfl rfl Try.underlying29 rfl rfl rfl) ?_
       refine q_val (v := .slice p190 ((ascI ((roG (nw i)).l.map E5.pr)).length) c191) (wt1 rfl rfl rfl rfl (decide_eq_false hb201)) rfl rfl (fun wx H => x_move rfl rfl) ?_
       refine q_val (v := .pointer ((p190).map fun q => q.add (0 * 1))) (wt1 rfl rfl rfl rfl (decide_eq_false hb201)) rfl rfl (fun wx H => x_idxP 0 ((H196.rwReads (k := 0) rfl).some (by omega)) rfl rfl rfl Try.underlying24 sz3 (by omega)) ?_
       have hlq := (H196.rwReads (k := 0) rfl).lenL intE
       obtain ⟨x207, hx207⟩ := ex_at (l := (ascI ((roG (nw i)).l.map E5.pr))) (j := 0) (by omega)
       clear hlq
       have hok_x207 : okI x207 := okI_in (who_in (hR.nwOk i) (List.mem_of_getElem? hx207))
       refine q_val (v := .int .i64 x207) (wt1 rfl rfl rfl rfl (decide_eq_false hb201)) rfl rfl (fun wx H => x_loadR1 0 (H.rwReads (k := 0) rfl) (by omega) rfl rfl Try.underlying3 rfl (intE.flAt1 hx207 rfl)) ?_
       refine q_val (v := .bool (((bn x207).getD false))) (wt1 rfl rfl rfl rfl (decide_eq_false hb201)) rfl rfl (fun wx H => ex_cast (x_lookup1 (x := x207) (intTy Try.underlying29 Try.underlying3) H 6 rfl rfl rfl rfl (hok_x207) ze4) (look_B _)) ?_
       refine q_val (v := .bool (((bn x207).getD false))) (wt0 rfl) rfl rfl (fun wx H => x_pick_f rfl rfl (decide_eq_false hb201) rfl) ?_
       refine q_nil (fun wq208 H209 => ?_)
       refine g_then ?_
       refine g_weak [(0, .pointer (some ⟨b, 0, none⟩)), (8, .slice p190 ((ascI ((roG (nw i)).l.map E5.pr)).length) c191), (95, .bool (((bn x207).getD false)))] ⟨rfl, rfl, rfl, trivial⟩ ?_
       rcases Bool.eq_false_or_eq_true (((bn x207).getD false)) with hb210 | hb210
       ·
        refine g_cond_t rfl hb210 ?_
        refine w_s ?_
        refine w_r2 ?_
        refine w_e ?_
        refine g_ret ?_
        refine g_then_ret ?_
        refine fin_ret [.tmp 4, .tmp 5] [.slice none 0 0, .int .i64 0] rfl ⟨rfl, rfl, trivial⟩ ?_
        have H211 : S wq208 [Rw 3 1 p190 ((ascI ((roG (nw i)).l.map E5.pr)).length) c191 (fl intL (ascI ((roG (nw i)).l.map E5.pr))), Rw 94 1 (cutP p178 (((roG (od i)).l ++ [(roG (nw i))]).length - 10) c179 1) (((roG (od i)).l ++ [(roG (nw i))]).length - (((roG (od i)).l ++ [(roG (nw i))]).length - 10)) (c179 - (((roG (od i)).l ++ [(roG (nw i))]).length - 10)) (fl rowL (((roG (od i)).l ++ [(roG (nw i))]).drop (((roG (od i)).l ++ [(roG (nw i))]).length - 10))), Ob g167 (.cells #[.slice (roG (nw i)).p ((roG (nw i)).l.length) ((roG (nw i)).c)] 94 (0, 0)), Ob b (.cells #[.map (some m1), .map (some m2), .map (some m3), .map (some m4)] 88 (0, 0)), Mp (Value.int .i64) roV okI m1 (delM nw i), Mp (Value.int .i64) roV okI m2 (upM (upM od i (⟨p178, c179, ((roG (od i)).l ++ [(roG (nw i))])⟩ : Ro (Ro E5))) i (⟨(cutP p178 (((roG (od i)).l ++ [(roG (nw i))]).length - 10) c179 1), (c179 - (((roG (od i)).l ++ [(roG (nw i))]).length - 10)), (((roG (od i)).l ++ [(roG (nw i))]).drop (((roG (od i)).l ++ [(roG (nw i))]).length - 10))⟩ : Ro (Ro E5))), Mp (Value.int .i64) Value.bool okI m3 bn, Mp (Value.int .i64) (Value.int .i64) okI m4 M, RowsI 109 5 e5L rs, RowsI 94 1 rowL ts, Old w (fps [Ob b (.cells #[.map (some m1), .map (some m2), .map (some m3), .map (some m4)] 88 (0, 0)), Mp (Value.int .i64) roV okI m1 nw, Mp (Value.int .i64) roV okI m2 od, Mp (Value.int .i64) Value.bool okI m3 bn, Mp (Value.int .i64) (Value.int .i64) okI m4 sc, RowsI 109 5 e5L rs, RowsI 94 1 rowL ts])] := H209.rwCutL rowE (k := 1) rfl (((roG (od i)).l ++ [(roG (nw i))]).length - 10) (by omega)
        obtain ⟨q9, hq9⟩ : ∃ q9 : Ro (Ro E5), q9 = (⟨(cutP p178 (((roG (od i)).l ++ [(roG (nw i))]).length - 10) c179 1), (c179 - (((roG (od i)).l ++ [(roG (nw i))]).length - 10)), (((roG (od i)).l ++ [(roG (nw i))]).drop (((roG (od i)).l ++ [(roG (nw i))]).length - 10))⟩ : Ro (Ro E5)) := ⟨_, rfl⟩
        have H212 : S wq208 [RowsI 94 1 rowL (ts ++ [q9]), Rw 3 1 p190 ((ascI ((roG (nw i)).l.map E5.pr)).length) c191 (fl intL (ascI ((roG (nw i)).l.map E5.pr))), Ob g167 (.cells #[.slice (roG (nw i)).p ((roG (nw i)).l.length) ((roG (nw i)).c)] 94 (0, 0)), Ob b (.cells #[.map (some m1), .map (some m2), .map (some m3), .map (some m4)] 88 (0, 0)), Mp (Value.int .i64) roV okI m1 (delM nw i), Mp (Value.int .i64) roV okI m2 (upM od i q9), Mp (Value.int .i64) Value.bool okI m3 bn, Mp (Value.int .i64) (Value.int .i64) okI m4 M, RowsI 109 5 e5L rs, Old w (fps [Ob b (.cells #[.map (some m1), .map (some m2), .map (some m3), .map (some m4)] 88 (0, 0)), Mp (Value.int .i64) roV okI m1 nw, Mp (Value.int .i64) roV okI m2 od, Mp (Value.int .i64) Value.bool okI m3 bn, Mp (Value.int .i64) (Value.int .i64) okI m4 sc, RowsI 109 5 e5L rs, RowsI 94 1 rowL ts])] := by
         have h8 := S.rowsAdd (H211.takes [9, 1, 0, 2, 3, 4, 5, 6, 7, 8, 10] (by decide)) (by rw [List.length_drop])
         rw [upM_upM] at h8
         rw [← hq9] at h8
         exact h8
        have hqq : q9.l = lastTen ((roG (od i)).l ++ [roG (nw i)]) := by rw [hq9]; exact rfl
        have hkk : k = (ascI ((roG (nw i)).l.map E5.pr)).length := by omega
        subst hkk
        rw [List.take_length] at hM
        have hE : (endE (RA nw od bn sc) i) = 0 := endE_0 hb3 rfl hne
        have hFR := failR_eq hE
        have hwo : whoL (trE (roG (nw i)).l) = (ascI ((roG (nw i)).l.map E5.pr)) := whoE (hR.nwOk i)
        have hw1 := one_of hx207 (by omega)
        have hfl : failL (trE (roG (nw i)).l) = [x207] := by unfold failL; rw [hwo, hw1]; rfl
        rw [hfl, banL_one] at hFR
        have H213 := H212.nilFl 3 1 intL
        rw [if_pos (show (RA nw od bn sc).bn x207 = true from hb210)] at hFR
        rw [hE, hFR]
        exact ⟨delM nw i, upM od i q9, bn, M, rs, ts ++ [q9], none, 0, hR.failQ hne hqq, ⟨fun _ h => h, fun x hx => List.mem_append_left _ hx⟩, RA_fail hE (hR.nwOk i) hqq hM (fun y => by rw [hfl]; by_cases e : y = x207 <;> simp [e, hb210]), rfl, H213.takes [0, 4, 5, 6, 7, 8, 9, 1, 10] (by decide)⟩
       ·
        refine g_cond_f rfl hb210 ?_
        refine g_skip ?_
        refine g_then ?_
        refine g_seq ?_
        refine g_any [] (fun wx => S wx [Rw 3 1 p190 ((ascI ((roG (nw i)).l.map E5.pr)).length) c191 (fl intL (ascI ((roG (nw i)).l.map E5.pr))), Rw 94 1 p178 (((roG (od i)).l ++ [(roG (nw i))]).length) c179 (fl rowL ((roG (od i)).l ++ [(roG (nw i))])), Ob g167 (.cells #[.slice (roG (nw i)).p ((roG (nw i)).l.length) ((roG (nw i)).c)] 94 (0, 0)), Ob b (.cells #[.map (some m1), .map (some m2), .map (some m3), .map (some m4)] 88 (0, 0)), Mp (Value.int .i64) roV okI m1 (delM nw i), Mp (Value.int .i64) roV okI m2 (upM (upM od i (⟨p178, c179, ((roG (od i)).l ++ [(roG (nw i))])⟩ : Ro (Ro E5))) i (⟨(cutP p178 (((roG (od i)).l ++ [(roG (nw i))]).length - 10) c179 1), (c179 - (((roG (od i)).l ++ [(roG (nw i))]).length - 10)), (((roG (od i)).l ++ [(roG (nw i))]).drop (((roG (od i)).l ++ [(roG (nw i))]).length - 10))⟩ : Ro (Ro E5))), Mp (Value.int .i64) Value.bool okI m3 bn, Mp (Value.int .i64) (Value.int .i64) okI m4 M, RowsI 109 5 e5L rs, RowsI 94 1 rowL ts, Old w (fps [Ob b (.cells #[.map (some m1), .map (some m2), .map (some m3), .map (some m4)] 88 (0, 0)), Mp (Value.int .i64) roV okI m1 nw, Mp (Value.int .i64) roV okI m2 od, Mp (Value.int .i64) Value.bool okI m3 bn, Mp (Value.int .i64) (Value.int .i64) okI m4 sc, RowsI 109 5 e5L rs, RowsI 94 1 rowL ts])]) [7] (by kernel_rfl) H209 (fun wq214 H215 => ?_)
        refine w_t 0 rfl H215 (fun _ _ => xm) ?_
        refine w_t 1 rfl H215 (fun _ _ => xn) ?_
        refine w_t 2 rfl H215 (fun _ _ => xf 2) ?_
        refine w_t 3 rfl H215 (fun _ H => xl H 3) ?_
        refine w_t 4 rfl H215 (fun _ _ => xm) ?_
        refine w_t (v := .pointer ((p190).map fun q => q.add (0 * 1))) 5 rfl H215 (fun _ _ => x_idxP 0 ((H215.rwReads (k := 0) rfl).some (by omega)) rfl rfl rfl Try.underlying24 sz3 (by omega)) ?_
        refine w_t (v := .int .i64 x207) 6 rfl H215 (fun _ H => x_loadR1 0 (H.rwReads (k := 0) rfl) (by omega) rfl rfl Try.underlying3 rfl (intE.flAt1 hx207 rfl)) ?_
        refine a_one (i := 7) (by kernel_rfl) rfl ?_
        refine s_mapUpdate (x := x207) (a := true) (intTy Try.underlying29 Try.underlying3) H215 6 (wt0 rfl) rfl rfl rfl rfl rfl rfl (hok_x207) ?_
        intro wq216 H217
        refine a_kt rfl ?_
        refine a_done (by kernel_rfl) ?_
        refine g_then ?_
        refine w_s ?_
        refine w_r3 ?_
        refine w_e ?_
        refine g_ret ?_
        refine fin_ret [.tmp 4, .tmp 5] [.slice p190 ((ascI ((roG (nw i)).l.map E5.pr)).length) c191, .int .i64 0] rfl ⟨rfl, rfl, trivial⟩ ?_
        have H218 : S wq216 [Rw 3 1 p190 ((ascI ((roG (nw i)).l.map E5.pr)).length) c191 (fl intL (ascI ((roG (nw i)).l.map E5.pr))), Rw 94 1 (cutP p178 (((roG (od i)).l ++ [(roG (nw i))]).length - 10) c179 1) (((roG (od i)).l ++ [(roG (nw i))]).length - (((roG (od i)).l ++ [(roG (nw i))]).length - 10)) (c179 - (((roG (od i)).l ++ [(roG (nw i))]).length - 10)) (fl rowL (((roG (od i)).l ++ [(roG (nw i))]).drop (((roG (od i)).l ++ [(roG (nw i))]).length - 10))), Ob g167 (.cells #[.slice (roG (nw i)).p ((roG (nw i)).l.length) ((roG (nw i)).c)] 94 (0, 0)), Ob b (.cells #[.map (some m1), .map (some m2), .map (some m3), .map (some m4)] 88 (0, 0)), Mp (Value.int .i64) roV okI m1 (delM nw i), Mp (Value.int .i64) roV okI m2 (upM (upM od i (⟨p178, c179, ((roG (od i)).l ++ [(roG (nw i))])⟩ : Ro (Ro E5))) i (⟨(cutP p178 (((roG (od i)).l ++ [(roG (nw i))]).length - 10) c179 1), (c179 - (((roG (od i)).l ++ [(roG (nw i))]).length - 10)), (((roG (od i)).l ++ [(roG (nw i))]).drop (((roG (od i)).l ++ [(roG (nw i))]).length - 10))⟩ : Ro (Ro E5))), Mp (Value.int .i64) Value.bool okI m3 (upM bn x207 true), Mp (Value.int .i64) (Value.int .i64) okI m4 M, RowsI 109 5 e5L rs, RowsI 94 1 rowL ts, Old w (fps [Ob b (.cells #[.map (some m1), .map (some m2), .map (some m3), .map (some m4)] 88 (0, 0)), Mp (Value.int .i64) roV okI m1 nw, Mp (Value.int .i64) roV okI m2 od, Mp (Value.int .i64) Value.bool okI m3 bn, Mp (Value.int .i64) (Value.int .i64) okI m4 sc, RowsI 109 5 e5L rs, RowsI 94 1 rowL ts])] := H217.rwCutL rowE (k := 1) rfl (((roG (od i)).l ++ [(roG (nw i))]).length - 10) (by omega)
        obtain ⟨q9, hq9⟩ : ∃ q9 : Ro (Ro E5), q9 = (⟨(cutP p178 (((roG (od i)).l ++ [(roG (nw i))]).length - 10) c179 1), (c179 - (((roG (od i)).l ++ [(roG (nw i))]).length - 10)), (((roG (od i)).l ++ [(roG (nw i))]).drop (((roG (od i)).l ++ [(roG (nw i))]).length - 10))⟩ : Ro (Ro E5)) := ⟨_, rfl⟩
        have H219 : S wq216 [RowsI 94 1 rowL (ts ++ [q9]), Rw 3 1 p190 ((ascI ((roG (nw i)).l.map E5.pr)).length) c191 (fl intL (ascI ((roG (nw i)).l.map E5.pr))), Ob g167 (.cells #[.slice (roG (nw i)).p ((roG (nw i)).l.length) ((roG (nw i)).c)] 94 (0, 0)), Ob b (.cells #[.map (some m1), .map (some m2), .map (some m3), .map (some m4)] 88 (0, 0)), Mp (Value.int .i64) roV okI m1 (delM nw i), Mp (Value.int .i64) roV okI m2 (upM od i q9), Mp (Value.int .i64) Value.bool okI m3 (upM bn x207 true), Mp (Value.int .i64) (Value.int .i64) okI m4 M, RowsI 109 5 e5L rs, Old w (fps [Ob b (.cells #[.map (some m1), .map (some m2), .map (some m3), .map (some m4)] 88 (0, 0)), Mp (Value.int .i64) roV okI m1 nw, Mp (Value.int .i64) roV okI m2 od, Mp (Value.int .i64) Value.bool okI m3 bn, Mp (Value.int .i64) (Value.int .i64) okI m4 sc, RowsI 109 5 e5L rs, RowsI 94 1 rowL ts])] := by
         have h8 := S.rowsAdd (H218.takes [9, 1, 0, 2, 3, 4, 5, 6, 7, 8, 10] (by decide)) (by rw [List.length_drop])
         rw [upM_upM] at h8
         rw [← hq9] at h8
         exact h8
        have hqq : q9.l = lastTen ((roG (od i)).l ++ [roG (nw i)]) := by rw [hq9]; exact rfl
        have hkk : k = (ascI ((roG (nw i)).l.map E5.pr)).length := by omega
        subst hkk
        rw [List.take_length] at hM
        have hE : (endE (RA nw od bn sc) i) = 0 := endE_0 hb3 rfl hne
        have hFR := failR_eq hE
        have hwo : whoL (trE (roG (nw i)).l) = (ascI ((roG (nw i)).l.map E5.pr)) := whoE (hR.nwOk i)
        have hw1 := one_of hx207 (by omega)
        have hfl : failL (trE (roG (nw i)).l) = [x207] := by unfold failL; rw [hwo, hw1]; rfl
        rw [hfl, banL_one] at hFR
        rw [if_neg (show ¬ (RA nw od bn sc).bn x207 = true from fun h9 => by rw [show (RA nw od bn sc).bn x207 = false from hb210] at h9; cases h9)] at hFR
        rw [hE, hFR, ← hw1]
        exact ⟨delM nw i, upM od i q9, upM bn x207 true, M, rs, ts ++ [q9], p190, c191, hR.failQ hne hqq, ⟨fun _ h => h, fun x hx => List.mem_append_left _ hx⟩, RA_fail hE (hR.nwOk i) hqq hM (fun y => by rw [hfl]; unfold upM; by_cases e : y = x207 <;> simp [e]), rfl, H219.takes [1, 3, 4, 5, 6, 7, 8, 0, 9] (by decide)⟩
    ·
     refine g_cond_f rfl (decide_eq_false hb185) ?_
     refine g_skip ?_
     refine g_then ?_
     refine w_s ?_
     refine w_m ?_
     refine l_of (s_call (wt0 rfl) (x_call' rfl rfl cl68) (who_r (roG (nw i)).p ((roG (nw i)).l.length) ((roG (nw i)).c) (roG (nw i)).l (by omega) _ ((rows_in (H184.at (k := 7) rfl) (hR.nwIn i)))) ?_)
     rintro _ wq223 ⟨p220, c221, rfl, H224⟩
     replace H224 : S wq223 [Rw 3 1 p220 ((ascI ((roG (nw i)).l.map E5.pr)).length) c221 (fl intL (ascI ((roG (nw i)).l.map E5.pr))), Rw 94 1 p178 (((roG (od i)).l ++ [(roG (nw i))]).length) c179 (fl rowL ((roG (od i)).l ++ [(roG (nw i))])), Ob g167 (.cells #[.slice (roG (nw i)).p ((roG (nw i)).l.length) ((roG (nw i)).c)] 94 (0, 0)), Ob b (.cells #[.map (some m1), .map (some m2), .map (some m3), .map (some m4)] 88 (0, 0)), Mp (Value.int .i64) roV okI m1 (delM nw i), Mp (Value.int .i64) roV okI m2 (upM od i (⟨p178, c179, ((roG (od i)).l ++ [(roG (nw i))])⟩ : Ro (Ro E5))), Mp (Value.int .i64) Value.bool okI m3 bn, Mp (Value.int .i64) (Value.int .i64) okI m4 sc, RowsI 109 5 e5L rs, RowsI 94 1 rowL ts, Old w (fps [Ob b (.cells #[.map (some m1), .map (some m2), .map (some m3), .map (some m4)] 88 (0, 0)), Mp (Value.int .i64) roV okI m1 nw, Mp (Value.int .i64) roV okI m2 od, Mp (Value.int .i64) Value.bool okI m3 bn, Mp (Value.int .i64) (Value.int .i64) okI m4 sc, RowsI 109 5 e5L rs, RowsI 94 1 rowL ts])] := by have h := H184.absorb H224; exact h
     refine b_ret rfl rfl ?_
     refine w_a ?_
     refine w_e ?_
     refine g_weak [(0, .pointer (some ⟨b, 0, none⟩)), (8, .slice p220 ((ascI ((roG (nw i)).l.map E5.pr)).length) c221)] ⟨rfl, rfl, trivial⟩ ?_
     refine g_seq ?_
     refine w_s ?_
     refine w_m ?_
     refine w_v (v := .int .i64 (((ascI ((roG (nw i)).l.map E5.pr)).length : Int))) (x_lenl rfl rfl Try.underlying24) ?_
     refine w_m ?_
     refine w_e ?_
     refine g_block ?_
     refine g_loop (ι := Nat × (Int → Option Int)) (fun (k, M) => [(0, .pointer (some ⟨b, 0, none⟩)), (8, .slice p220 ((ascI ((roG (nw i)).l.map E5.pr)).length) c221), (69, .slice p220 ((ascI ((roG (nw i)).l.map E5.pr)).length) c221), (70, .int .i64 (((ascI ((roG (nw i)).l.map E5.pr)).length : Int))), (71, .int .i64 ((k : Int)))]) (fun (k, M) wx => (k ≤ (ascI ((roG (nw i)).l.map E5.pr)).length) ∧ (∀ y, (M y).getD 0 = if y ∈ (ascI ((roG (nw i)).l.map E5.pr)).take k then IntKind.i64.wrap ((sc y).getD 0 + 1) else (sc y).getD 0) ∧ S wx [Rw 3 1 p220 ((ascI ((roG (nw i)).l.map E5.pr)).length) c221 (fl intL (ascI ((roG (nw i)).l.map E5.pr))), Rw 94 1 p178 (((roG (od i)).l ++ [(roG (nw i))]).length) c179 (fl rowL ((roG (od i)).l ++ [(roG (nw i))])), Ob g167 (.cells #[.slice (roG (nw i)).p ((roG (nw i)).l.length) ((roG (nw i)).c)] 94 (0, 0)), Ob b (.cells #[.map (some m1), .map (some m2), .map (some m3), .map (some m4)] 88 (0, 0)), Mp (Value.int .i64) roV okI m1 (delM nw i), Mp (Value.int .i64) roV okI m2 (upM od i (⟨p178, c179, ((roG (od i)).l ++ [(roG (nw i))])⟩ : Ro (Ro E5))), Mp (Value.int .i64) Value.bool okI m3 bn, Mp (Value.int .i64) (Value.int .i64) okI m4 M, RowsI 109 5 e5L rs, RowsI 94 1 rowL ts, Old w (fps [Ob b (.cells #[.map (some m1), .map (some m2), .map (some m3), .map (some m4)] 88 (0, 0)), Mp (Value.int .i64) roV okI m1 nw, Mp (Value.int .i64) roV okI m2 od, Mp (Value.int .i64) Value.bool okI m3 bn, Mp (Value.int .i64) (Value.int .i64) okI m4 sc, RowsI 109 5 e5L rs, RowsI 94 1 rowL ts])]) (fun (k, M) => ((ascI ((roG (nw i)).l.map E5.pr)).length) - k) (0, sc) ⟨rfl, rfl, rfl, rfl, rfl, trivial⟩ ⟨Nat.zero_le _, (fun y => by simp), H224⟩ ?_
     rintro ⟨k, M⟩ wq225 ⟨hk, hM, H226⟩
     refine g_weak [(0, .pointer (some ⟨b, 0, none⟩)), (8, .slice p220 ((ascI ((roG (nw i)).l.map E5.pr)).length) c221), (69, .slice p220 ((ascI ((roG (nw i)).l.map E5.pr)).length) c221), (70, .int .i64 (((ascI ((roG (nw i)).l.map E5.pr)).length : Int))), (71, .int .i64 ((k : Int)))] ⟨rfl, rfl, rfl, rfl, rfl, trivial⟩ ?_
     refine w_s ?_
     refine w_b ?_
     refine w_e ?_
     refine g_seq ?_
     by_cases hb227 : ((k : Int) : Int) < ((ascI ((roG (nw i)).l.map E5.pr)).length : Int)
     ·
      refine g_cond_t rfl (decide_eq_true hb227) ?_
      refine g_skip ?_
      refine g_then ?_
      refine g_seq ?_
      refine g_block ?_
      refine w_s ?_
      refine w_v (v := .pointer ((p220).map fun q => q.add (k * 1))) (x_idxR k (H226.rwReads (k := 0) rfl) rfl rfl rfl Try.underlying24 sz3 (by omega)) ?_
      have hlq := (H226.rwReads (k := 0) rfl).lenL intE
      obtain ⟨x228, hx228⟩ := ex_at (l := (ascI ((roG (nw i)).l.map E5.pr))) (j := k) (by omega)
      clear hlq
      have hok_x228 : okI x228 := okI_in (who_in (hR.nwOk i) (List.mem_of_getElem? hx228))
      refine w_v (v := .int .i64 x228) (x_loadR1 k (H226.rwReads (k := 0) rfl) (by omega) rfl rfl Try.underlying3 rfl (intE.flAt1 hx228 rfl)) ?_
      refine w_a ?_
      refine w_e ?_
      refine g_region ?_
      refine w_r3 ?_
      refine w_1 H226 3 ?_
      refine w_m ?_
      refine w_v (v := .int .i64 (((M x228).getD 0))) (ex_cast (x_lookup1 (x := x228) (intTy Try.underlying60 Try.underlying3) H226 7 rfl rfl rfl rfl (hok_x228) ze3) (look_I _)) ?_
      refine w_b (v := .int .i64 (IntKind.i64.wrap (((M x228).getD 0) + 1))) (hb := (b_add rfl)) ?_
      refine l_of (s_mapUpdate (x := x228) (a := IntKind.i64.wrap (((M x228).getD 0) + 1)) (intTy Try.underlying60 Try.underlying3) H226 7 (wt0 rfl) rfl rfl rfl rfl rfl rfl (hok_x228) ?_)
      intro wq229 H230
      refine g_nil ?_
      refine g_in ?_
      refine g_then ?_
      refine g_region ?_
      refine w_b (v := .int .i64 (((k + 1 : Nat) : Int))) (hb := (b_add (by rw [w64 (by omega)]; omega))) ?_
      refine w_m ?_
      refine w_e ?_
      refine g_round (i := (k, M)) ((k + 1), (upM M x228 (IntKind.i64.wrap (((M x228).getD 0) + 1)))) ?_ ?_ ?_
      · exact ⟨rfl, rfl, rfl, rfl, rfl, trivial⟩
      · exact ⟨by omega, (score_next (ascI_lt _) hx228 hM), H230⟩
      · (try dsimp only); omega
     ·
      refine g_cond_f rfl (decide_eq_false hb227) ?_
      refine g_exit ?_
      refine g_then_exit ?_
      refine g_then_exit ?_
      refine g_in_hit ?_
      refine g_then ?_
      refine g_seq ?_
      refine g_seq ?_
      refine g_quiet (by kernel_rfl) (by kernel_rfl) H226 ?_
      refine q_val (v := .slice p220 ((ascI ((roG (nw i)).l.map E5.pr)).length) c221) (wt0 rfl) rfl rfl (fun wx H => x_move rfl rfl) ?_
      refine q_val (v := .int .i64 (((ascI ((roG (nw i)).l.map E5.pr)).length : Int))) (wt0 rfl) rfl rfl (fun wx H => x_lenl rfl rfl Try.underlying24) ?_
      refine q_val (v := .bool (decide ((1 : Int) < ((ascI ((roG (nw i)).l.map E5.pr)).length : Int)))) (wt0 rfl) rfl rfl (fun wx H => x_bin rfl rfl rfl b_gtr) ?_
      refine q_val (v := .bool (decide ((1 : Int) < ((ascI ((roG (nw i)).l.map E5.pr)).length : Int)))) (wt0 rfl) rfl rfl (fun wx H => x_move rfl rfl) ?_
      by_cases hb231 : (1 : Int) < ((ascI ((roG (nw i)).l.map E5.pr)).length : Int)
      ·
       refine q_not (wn1 rfl rfl rfl rfl (decide_eq_true hb231)) rfl rfl ?_
       refine q_not (wn1 rfl rfl rfl rfl (decide_eq_true hb231)) rfl rfl ?_
       refine q_not (wn1 rfl rfl rfl rfl (decide_eq_true hb231)) rfl rfl ?_
       refine q_not (wn1 rfl rfl rfl rfl (decide_eq_true hb231)) rfl rfl ?_
       refine q_not (wn1 rfl rfl rfl rfl (decide_eq_true hb231)) rfl rfl ?_
       refine q_not (wn1 rfl rfl rfl rfl (decide_eq_true hb231)) rfl rfl ?_
       refine q_not (wn1 rfl rfl rfl rfl (decide_eq_true hb231)) rfl rfl ?_
       refine q_not (wn1 rfl rfl rfl rfl (decide_eq_true hb231)) rfl rfl ?_
       refine q_val (v := .bool true) (wt0 rfl) rfl rfl (fun wx H => x_pick_t rfl rfl (decide_eq_true hb231) rfl) ?_
       refine q_nil (fun wq232 H233 => ?_)
       refine g_then ?_
       refine g_weak [(0, .pointer (some ⟨b, 0, none⟩)), (8, .slice p220 ((ascI ((roG (nw i)).l.map E5.pr)).length) c221), (95, .bool true)] ⟨rfl, rfl, rfl, trivial⟩ ?_
       refine g_cond_t rfl rfl ?_
       refine w_s ?_
       refine w_r2 ?_
       refine w_e ?_
       refine g_ret ?_
       refine g_then_ret ?_
       refine fin_ret [.tmp 4, .tmp 5] [.slice none 0 0, .int .i64 0] rfl ⟨rfl, rfl, trivial⟩ ?_
       obtain ⟨q9, hq9⟩ : ∃ q9 : Ro (Ro E5), q9 = (⟨p178, c179, ((roG (od i)).l ++ [(roG (nw i))])⟩ : Ro (Ro E5)) := ⟨_, rfl⟩
       have H234 : S wq232 [RowsI 94 1 rowL (ts ++ [q9]), Rw 3 1 p220 ((ascI ((roG (nw i)).l.map E5.pr)).length) c221 (fl intL (ascI ((roG (nw i)).l.map E5.pr))), Ob g167 (.cells #[.slice (roG (nw i)).p ((roG (nw i)).l.length) ((roG (nw i)).c)] 94 (0, 0)), Ob b (.cells #[.map (some m1), .map (some m2), .map (some m3), .map (some m4)] 88 (0, 0)), Mp (Value.int .i64) roV okI m1 (delM nw i), Mp (Value.int .i64) roV okI m2 (upM od i q9), Mp (Value.int .i64) Value.bool okI m3 bn, Mp (Value.int .i64) (Value.int .i64) okI m4 M, RowsI 109 5 e5L rs, Old w (fps [Ob b (.cells #[.map (some m1), .map (some m2), .map (some m3), .map (some m4)] 88 (0, 0)), Mp (Value.int .i64) roV okI m1 nw, Mp (Value.int .i64) roV okI m2 od, Mp (Value.int .i64) Value.bool okI m3 bn, Mp (Value.int .i64) (Value.int .i64) okI m4 sc, RowsI 109 5 e5L rs, RowsI 94 1 rowL ts])] := by
        have h8 := S.rowsAdd (H233.takes [9, 1, 0, 2, 3, 4, 5, 6, 7, 8, 10] (by decide)) rfl
        rw [← hq9] at h8
        exact h8
       have hqq : q9.l = lastTen ((roG (od i)).l ++ [roG (nw i)]) := by rw [hq9]; exact (by show ((roG (od i)).l ++ [(roG (nw i))]) = lastTen ((roG (od i)).l ++ [(roG (nw i))]); unfold lastTen; rw [show ((roG (od i)).l ++ [(roG (nw i))]).length - 10 = 0 by omega]; rfl)
       have hkk : k = (ascI ((roG (nw i)).l.map E5.pr)).length := by omega
       subst hkk
       rw [List.take_length] at hM
       have hE : (endE (RA nw od bn sc) i) = 0 := endE_0 hb3 rfl hne
       have hFR := failR_eq hE
       have hwo : whoL (trE (roG (nw i)).l) = (ascI ((roG (nw i)).l.map E5.pr)) := whoE (hR.nwOk i)
       have hfl : failL (trE (roG (nw i)).l) = [] := by unfold failL; rw [hwo, if_neg (by omega)]
       have H235 := H234.nilFl 3 1 intL
       rw [hfl, banL_nil] at hFR
       rw [hE, hFR]
       exact ⟨delM nw i, upM od i q9, bn, M, rs, ts ++ [q9], none, 0, hR.failQ hne hqq, ⟨fun _ h => h, fun x hx => List.mem_append_left _ hx⟩, RA_fail hE (hR.nwOk i) hqq hM (fun y => by rw [hfl]; simp), rfl, H235.takes [0, 4, 5, 6, 7, 8, 9, 1, 10] (by decide)⟩
      ·
       refine q_val (v := .pointer (some ⟨b, 0, none⟩)) (wt1 rfl rfl rfl rfl (decide_eq_false hb231)) rfl rfl (fun wx H => x_move rfl rfl) ?_
       refine q_val (v := .pointer (some ⟨b, 0, none⟩)) (wt1 rfl rfl rfl rfl (decide_eq_false hb231)) rfl rfl (fun wx H => x_nilCheck rfl rfl) ?_
       refine q_val (v := .pointer (some ⟨b, 2, none⟩)) (wt1 rfl rfl rfl rfl (decide_eq_false hb231)) rfl rfl (fun wx H => x_fieldAddr rfl rfl fo88_2 rfl) ?_
       refine q_val (v := .map (some m3)) (wt1 rfl rfl rfl rfl (decide_eq_false hb231)) rfl rfl (fun wx H => x_load1 H 3 rfl rfl Try.underlying29 rfl rfl rfl) ?_
       refine q_val (v := .slice p220 ((ascI ((roG (nw i)).l.map E5.pr)).length) c221) (wt1 rfl rfl rfl rfl (decide_eq_false hb231)) rfl rfl (fun wx H => x_move rfl rfl) ?_
       refine q_val (v := .pointer ((p220).map fun q => q.add (0 * 1))) (wt1 rfl rfl rfl rfl (decide_eq_false hb231)) rfl rfl (fun wx H => x_idxP 0 ((H226.rwReads (k := 0) rfl).some (by omega)) rfl rfl rfl Try.underlying24 sz3 (by omega)) ?_
       have hlq := (H226.rwReads (k := 0) rfl).lenL intE
       obtain ⟨x236, hx236⟩ := ex_at (l := (ascI ((roG (nw i)).l.map E5.pr))) (j := 0) (by omega)
       clear hlq
       have hok_x236 : okI x236 := okI_in (who_in (hR.nwOk i) (List.mem_of_getElem? hx236))
       refine q_val (v := .int .i64 x236) (wt1 rfl rfl rfl rfl (decide_eq_false hb231)) rfl rfl (fun wx H => x_loadR1 0 (H.rwReads (k := 0) rfl) (by omega) rfl rfl Try.underlying3 rfl (intE.flAt1 hx236 rfl)) ?_
       refine q_val (v := .bool (((bn x236).getD false))) (wt1 rfl rfl rfl rfl (decide_eq_false hb231)) rfl rfl (fun wx H => ex_cast (x_lookup1 (x := x236) (intTy Try.underlying29 Try.underlying3) H 6 rfl rfl rfl rfl (hok_x236) ze4) (look_B _)) ?_
       refine q_val (v := .bool (((bn x236).getD false))) (wt0 rfl) rfl rfl (fun wx H => x_pick_f rfl rfl (decide_eq_false hb231) rfl) ?_
       refine q_nil (fun wq237 H238 => ?_)
       refine g_then ?_
       refine g_weak [(0, .pointer (some ⟨b, 0, none⟩)), (8, .slice p220 ((ascI ((roG (nw i)).l.map E5.pr)).length) c221), (95, .bool (((bn x236).getD false)))] ⟨rfl, rfl, rfl, trivial⟩ ?_
       rcases Bool.eq_false_or_eq_true (((bn x236).getD false)) with hb239 | hb239
       ·
        refine g_cond_t rfl hb239 ?_
        refine w_s ?_
        refine w_r2 ?_
        refine w_e ?_
        refine g_ret ?_
        refine g_then_ret ?_
        refine fin_ret [.tmp 4, .tmp 5] [.slice none 0 0, .int .i64 0] rfl ⟨rfl, rfl, trivial⟩ ?_
        obtain ⟨q9, hq9⟩ : ∃ q9 : Ro (Ro E5), q9 = (⟨p178, c179, ((roG (od i)).l ++ [(roG (nw i))])⟩ : Ro (Ro E5)) := ⟨_, rfl⟩
        have H240 : S wq237 [RowsI 94 1 rowL (ts ++ [q9]), Rw 3 1 p220 ((ascI ((roG (nw i)).l.map E5.pr)).length) c221 (fl intL (ascI ((roG (nw i)).l.map E5.pr))), Ob g167 (.cells #[.slice (roG (nw i)).p ((roG (nw i)).l.length) ((roG (nw i)).c)] 94 (0, 0)), Ob b (.cells #[.map (some m1), .map (some m2), .map (some m3), .map (some m4)] 88 (0, 0)), Mp (Value.int .i64) roV okI m1 (delM nw i), Mp (Value.int .i64) roV okI m2 (upM od i q9), Mp (Value.int .i64) Value.bool okI m3 bn, Mp (Value.int .i64) (Value.int .i64) okI m4 M, RowsI 109 5 e5L rs, Old w (fps [Ob b (.cells #[.map (some m1), .map (some m2), .map (some m3), .map (some m4)] 88 (0, 0)), Mp (Value.int .i64) roV okI m1 nw, Mp (Value.int .i64) roV okI m2 od, Mp (Value.int .i64) Value.bool okI m3 bn, Mp (Value.int .i64) (Value.int .i64) okI m4 sc, RowsI 109 5 e5L rs, RowsI 94 1 rowL ts])] := by
         have h8 := S.rowsAdd (H238.takes [9, 1, 0, 2, 3, 4, 5, 6, 7, 8, 10] (by decide)) rfl
         rw [← hq9] at h8
         exact h8
        have hqq : q9.l = lastTen ((roG (od i)).l ++ [roG (nw i)]) := by rw [hq9]; exact (by show ((roG (od i)).l ++ [(roG (nw i))]) = lastTen ((roG (od i)).l ++ [(roG (nw i))]); unfold lastTen; rw [show ((roG (od i)).l ++ [(roG (nw i))]).length - 10 = 0 by omega]; rfl)
        have hkk : k = (ascI ((roG (nw i)).l.map E5.pr)).length := by omega
        subst hkk
        rw [List.take_length] at hM
        have hE : (endE (RA nw od bn sc) i) = 0 := endE_0 hb3 rfl hne
        have hFR := failR_eq hE
        have hwo : whoL (trE (roG (nw i)).l) = (ascI ((roG (nw i)).l.map E5.pr)) := whoE (hR.nwOk i)
        have hw1 := one_of hx236 (by omega)
        have hfl : failL (trE (roG (nw i)).l) = [x236] := by unfold failL; rw [hwo, hw1]; rfl
        rw [hfl, banL_one] at hFR
        have H241 := H240.nilFl 3 1 intL
        rw [if_pos (show (RA nw od bn sc).bn x236 = true from hb239)] at hFR
        rw [hE, hFR]
        exact ⟨delM nw i, upM od i q9, bn, M, rs, ts ++ [q9], none, 0, hR.failQ hne hqq, ⟨fun _ h => h, fun x hx => List.mem_append_left _ hx⟩, RA_fail hE (hR.nwOk i) hqq hM (fun y => by rw [hfl]; by_cases e : y = x236 <;> simp [e, hb239]), rfl, H241.takes [0, 4, 5, 6, 7, 8, 9, 1, 10] (by decide)⟩
       ·
        refine g_cond_f rfl hb239 ?_
        refine g_skip ?_
        refine g_then ?_
        refine g_seq ?_
        refine g_any [] (fun wx => S wx [Rw 3 1 p220 ((ascI ((roG (nw i)).l.map E5.pr)).length) c221 (fl intL (ascI ((roG (nw i)).l.map E5.pr))), Rw 94 1 p178 (((roG (od i)).l ++ [(roG (nw i))]).length) c179 (fl rowL ((roG (od i)).l ++ [(roG (nw i))])), Ob g167 (.cells #[.slice (roG (nw i)).p ((roG (nw i)).l.length) ((roG (nw i)).c)] 94 (0, 0)), Ob b (.cells #[.map (some m1), .map (some m2), .map (some m3), .map (some m4)] 88 (0, 0)), Mp (Value.int .i64) roV okI m1 (delM nw i), Mp (Value.int .i64) roV okI m2 (upM od i (⟨p178, c179, ((roG (od i)).l ++ [(roG (nw i))])⟩ : Ro (Ro E5))), Mp (Value.int .i64) Value.bool okI m3 bn, Mp (Value.int .i64) (Value.int .i64) okI m4 M, RowsI 109 5 e5L rs, RowsI 94 1 rowL ts, Old w (fps [Ob b (.cells #[.map (some m1), .map (some m2), .map (some m3), .map (some m4)] 88 (0, 0)), Mp (Value.int .i64) roV okI m1 nw, Mp (Value.int .i64) roV okI m2 od, Mp (Value.int .i64) Value.bool okI m3 bn, Mp (Value.int .i64) (Value.int .i64) okI m4 sc, RowsI 109 5 e5L rs, RowsI 94 1 rowL ts])]) [7] (by kernel_rfl) H238 (fun wq242 H243 => ?_)
        refine w_t 0 rfl H243 (fun _ _ => xm) ?_
        refine w_t 1 rfl H243 (fun _ _ => xn) ?_
        refine w_t 2 rfl H243 (fun _ _ => xf 2) ?_
        refine w_t 3 rfl H243 (fun _ H => xl H 3) ?_
        refine w_t 4 rfl H243 (fun _ _ => xm) ?_
        refine w_t (v := .pointer ((p220).map fun q => q.add (0 * 1))) 5 rfl H243 (fun _ _ => x_idxP 0 ((H243.rwReads (k := 0) rfl).some (by omega)) rfl rfl rfl Try.underlying24 sz3 (by omega)) ?_
        refine w_t (v := .int .i64 x236) 6 rfl H243 (fun _ H => x_loadR1 0 (H.rwReads (k := 0) rfl) (by omega) rfl rfl Try.underlying3 rfl (intE.flAt1 hx236 rfl)) ?_
        refine a_one (i := 7) (by kernel_rfl) rfl ?_
        refine s_mapUpdate (x := x236) (a := true) (intTy Try.underlying29 Try.underlying3) H243 6 (wt0 rfl) rfl rfl rfl rfl rfl rfl (hok_x236) ?_
        intro wq244 H245
        refine a_kt rfl ?_
        refine a_done (by kernel_rfl) ?_
        refine g_then ?_
        refine w_s ?_
        refine w_r3 ?_
        refine w_e ?_
        refine g_ret ?_
        refine fin_ret [.tmp 4, .tmp 5] [.slice p220 ((ascI ((roG (nw i)).l.map E5.pr)).length) c221, .int .i64 0] rfl ⟨rfl, rfl, trivial⟩ ?_
        obtain ⟨q9, hq9⟩ : ∃ q9 : Ro (Ro E5), q9 = (⟨p178, c179, ((roG (od i)).l ++ [(roG (nw i))])⟩ : Ro (Ro E5)) := ⟨_, rfl⟩
        have H246 : S wq244 [RowsI 94 1 rowL (ts ++ [q9]), Rw 3 1 p220 ((ascI ((roG (nw i)).l.map E5.pr)).length) c221 (fl intL (ascI ((roG (nw i)).l.map E5.pr))), Ob g167 (.cells #[.slice (roG (nw i)).p ((roG (nw i)).l.length) ((roG (nw i)).c)] 94 (0, 0)), Ob b (.cells #[.map (some m1), .map (some m2), .map (some m3), .map (some m4)] 88 (0, 0)), Mp (Value.int .i64) roV okI m1 (delM nw i), Mp (Value.int .i64) roV okI m2 (upM od i q9), Mp (Value.int .i64) Value.bool okI m3 (upM bn x236 true), Mp (Value.int .i64) (Value.int .i64) okI m4 M, RowsI 109 5 e5L rs, Old w (fps [Ob b (.cells #[.map (some m1), .map (some m2), .map (some m3), .map (some m4)] 88 (0, 0)), Mp (Value.int .i64) roV okI m1 nw, Mp (Value.int .i64) roV okI m2 od, Mp (Value.int .i64) Value.bool okI m3 bn, Mp (Value.int .i64) (Value.int .i64) okI m4 sc, RowsI 109 5 e5L rs, RowsI 94 1 rowL ts])] := by
         have h8 := S.rowsAdd (H245.takes [9, 1, 0, 2, 3, 4, 5, 6, 7, 8, 10] (by decide)) rfl
         rw [← hq9] at h8
         exact h8
        have hqq : q9.l = lastTen ((roG (od i)).l ++ [roG (nw i)]) := by rw [hq9]; exact (by show ((roG (od i)).l ++ [(roG (nw i))]) = lastTen ((roG (od i)).l ++ [(roG (nw i))]); unfold lastTen; rw [show ((roG (od i)).l ++ [(roG (nw i))]).length - 10 = 0 by omega]; rfl)
        have hkk : k = (ascI ((roG (nw i)).l.map E5.pr)).length := by omega
        subst hkk
        rw [List.take_length] at hM
        have hE : (endE (RA nw od bn sc) i) = 0 := endE_0 hb3 rfl hne
        have hFR := failR_eq hE
        have hwo : whoL (trE (roG (nw i)).l) = (ascI ((roG (nw i)).l.map E5.pr)) := whoE (hR.nwOk i)
        have hw1 := one_of hx236 (by omega)
        have hfl : failL (trE (roG (nw i)).l) = [x236] := by unfold failL; rw [hwo, hw1]; rfl
        rw [hfl, banL_one] at hFR
        rw [if_neg (show ¬ (RA nw od bn sc).bn x236 = true from fun h9 => by rw [show (RA nw od bn sc).bn x236 = false from hb239] at h9; cases h9)] at hFR
        rw [hE, hFR, ← hw1]
        exact ⟨delM nw i, upM od i q9, upM bn x236 true, M, rs, ts ++ [q9], p220, c221, hR.failQ hne hqq, ⟨fun _ h => h, fun x hx => List.mem_append_left _ hx⟩, RA_fail hE (hR.nwOk i) hqq hM (fun y => by rw [hfl]; unfold upM; by_cases e : y = x236 <;> simp [e]), rfl, H246.takes [1, 3, 4, 5, 6, 7, 8, 0, 9] (by decide)⟩
 ·
  refine g_cond_t rfl (neg_of hb3) ?_
  refine w_s ?_
  refine w_r2 ?_
  refine w_e ?_
  refine g_ret ?_
  refine g_then_ret ?_
  refine fin_ret [.tmp 4, .tmp 5] [.slice none 0 0, .int .i64 7] rfl ⟨rfl, rfl, trivial⟩ ?_
  have H247 := H2.nilFl 3 1 intL
  have hE : (endE (RA nw od bn sc) i) = 7 := endE_7 hb3
  obtain ⟨e1, e2, _⟩ := failA_err hE (by decide)
  rw [hE, e2]
  exact ⟨nw, od, bn, sc, rs, ts, none, 0, hR, .refl _, e1.symm, rfl, H247.takes [0, 1, 2, 3, 4, 5, 6, 7, 8] (by decide)⟩
end Go.Proofs.Ytlikhpfdncidkaa
