import Derived.Test.YtlikhpfdncidkaaFk
import Derived.Test.YtlikhpfdncidkaaBw
import Derived.Test.YtlikhpfdncidkaaHc
set_option linter.unusedSimpArgs false
set_option linter.unusedVariables false
namespace Go.Proofs.Ytlikhpfdncidkaa
open Go.RowKit

theorem cl33 : callable Try.prog 33 = true := by kernel_rfl
theorem cl34 : callable Try.prog 34 = true := by kernel_rfl
theorem sz37 : szO Try.prog 37 = some 3 := by kernel_rfl
set_option maxRecDepth 20000 in
set_option maxHeartbeats 4000000 in
theorem sent_1 {b m1 m2 m3 m4 : Nat} {bn : Int → Option Bool} {nw : Int → Option Nat} {od : Int → Option (Ro Nat)} {rs : List (Ro Nat)} {ms : List Nat} {ct : Nat → Tr} {p i bg ln : Int} {data : ByteArray} (hB : BI nw od rs ms ct) (hok_p : okI p) (hok_i : okI i) {m : Nat} (hn : nw i = some m)  (w : World) (HS : S w [Ob b (.cells #[.map (some m1), .map (some m2), .map (some m3), .map (some m4)] 66 (0, 0)), Mp (Value.int .i64) Value.bool okI m2 bn, Mp (Value.int .i64) mpV okI m3 nw, FamM spK snV okP ms ct]) : Calls Try.prog 13 #[.pointer (some ⟨b, 0, none⟩), .int .i64 p, .agg #[.int .i64 i, .int .i64 bg, .int .i64 ln], .string data] w fun e w' => ((peerB p && blockB i bg ln) = false ∧ e = .returned (.int .i64 7) ∧ S w' ([Ob b (.cells #[.map (some m1), .map (some m2), .map (some m3), .map (some m4)] 66 (0, 0)), Mp (Value.int .i64) Value.bool okI m2 bn, Mp (Value.int .i64) mpV okI m3 nw, FamM spK snV okP ms ct] ++ [Old w (fps [Ob b (.cells #[.map (some m1), .map (some m2), .map (some m3), .map (some m4)] 66 (0, 0)), Mp (Value.int .i64) Value.bool okI m2 bn, Mp (Value.int .i64) mpV okI m3 nw, FamM spK snV okP ms ct])])) ∨ ((peerB p && blockB i bg ln) = true ∧ ¬ (data.size : Int) = ln ∧ e = .returned (.int .i64 11) ∧ S w' ([Ob b (.cells #[.map (some m1), .map (some m2), .map (some m3), .map (some m4)] 66 (0, 0)), Mp (Value.int .i64) Value.bool okI m2 bn, Mp (Value.int .i64) mpV okI m3 nw, FamM spK snV okP ms ct] ++ [Old w (fps [Ob b (.cells #[.map (some m1), .map (some m2), .map (some m3), .map (some m4)] 66 (0, 0)), Mp (Value.int .i64) Value.bool okI m2 bn, Mp (Value.int .i64) mpV okI m3 nw, FamM spK snV okP ms ct])])) ∨ ((peerB p && blockB i bg ln) = true ∧ (data.size : Int) = ln ∧ (bn p).getD false = true ∧ e = .returned (.int .i64 20) ∧ S w' ([Ob b (.cells #[.map (some m1), .map (some m2), .map (some m3), .map (some m4)] 66 (0, 0)), Mp (Value.int .i64) Value.bool okI m2 bn, Mp (Value.int .i64) mpV okI m3 nw, FamM spK snV okP ms ct] ++ [Old w (fps [Ob b (.cells #[.map (some m1), .map (some m2), .map (some m3), .map (some m4)] 66 (0, 0)), Mp (Value.int .i64) Value.bool okI m2 bn, Mp (Value.int .i64) mpV okI m3 nw, FamM spK snV okP ms ct])])) ∨ ((peerB p && blockB i bg ln) = true ∧ (data.size : Int) = ln ∧ (bn p).getD false = false ∧ (∃ s v, tryOf ct (nw i) s = some v ∧ s.1 = bg) ∧ e = .returned (.int .i64 6) ∧ S w' ([Ob b (.cells #[.map (some m1), .map (some m2), .map (some m3), .map (some m4)] 66 (0, 0)), Mp (Value.int .i64) Value.bool okI m2 bn, Mp (Value.int .i64) mpV okI m3 nw, FamM spK snV okP ms ct] ++ [Old w (fps [Ob b (.cells #[.map (some m1), .map (some m2), .map (some m3), .map (some m4)] 66 (0, 0)), Mp (Value.int .i64) Value.bool okI m2 bn, Mp (Value.int .i64) mpV okI m3 nw, FamM spK snV okP ms ct])])) ∨ ((peerB p && blockB i bg ln) = true ∧ (data.size : Int) = ln ∧ (bn p).getD false = false ∧ (∀ s v, tryOf ct (nw i) s = some v → ¬ s.1 = bg) ∧ ∃ nw' ms' ct', Sent5 nw nw' od rs ms' ct ct' i (bg, ln) (p, sumS data) ∧ e = .returned (.int .i64 0) ∧ S w' ([Ob b (.cells #[.map (some m1), .map (some m2), .map (some m3), .map (some m4)] 66 (0, 0)), Mp (Value.int .i64) Value.bool okI m2 bn, Mp (Value.int .i64) mpV okI m3 nw', FamM spK snV okP ms' ct'] ++ [Old w (fps [Ob b (.cells #[.map (some m1), .map (some m2), .map (some m3), .map (some m4)] 66 (0, 0)), Mp (Value.int .i64) Value.bool okI m2 bn, Mp (Value.int .i64) mpV okI m3 nw, FamM spK snV okP ms ct])])) := by
 have H0 := HS.beginI
 have hms := hB.nwm i m hn
 refine enter 75 Try.func13 rfl rfl rfl ?_
 refine g_weak [(0, .pointer (some ⟨b, 0, none⟩)), (1, .int .i64 p), (2, .agg #[.int .i64 i, .int .i64 bg, .int .i64 ln]), (3, .string data)] ⟨rfl, rfl, rfl, rfl, trivial⟩ ?_
 refine w_s ?_
 refine l_of (s_box H0 (wt0 rfl) rfl rfl rfl rfl ?_)
 intro g1 wq2 H3
 refine w_a ?_
 refine w_e ?_
 refine g_seq ?_
 refine g_block ?_
 refine w_s ?_
 refine w_m ?_
 refine w_b (v := .bool false) (hb := (b_eqN (r := false) Try.underlying28 rfl)) ?_
 refine w_a ?_
 refine w_e ?_
 refine g_cond_f rfl rfl ?_
 refine w_s ?_
 refine w_m ?_
 refine l_of (s_call0 H3 (wt0 rfl) (x_call' rfl rfl cl32) (peer_s _ _) rfl rfl ?_)
 intro wq4 H5
 refine w_v (v := .bool (!((peerB p)))) (x_not (b := (peerB p)) rfl rfl) ?_
 refine w_m ?_
 rcases Bool.eq_false_or_eq_true ((peerB p)) with hb6 | hb6
 ·
  refine w_g (v := .agg #[.int .i64 i, .int .i64 bg, .int .i64 ln]) (neg_of hb6) (x_loadA H5 0 rfl rfl Try.underlying37 rfl sz37 rfl rfl rfl) ?_
  refine l_of (s_call0 H5 (wt1 rfl rfl rfl rfl (neg_of hb6)) (x_call' rfl rfl cl33) (block_s _ _ _ _) rfl rfl ?_)
  intro wq7 H8
  refine w_g (v := .bool (!((blockB i bg ln)))) (neg_of hb6) (x_not (b := (blockB i bg ln)) rfl rfl) ?_
  refine w_v (v := .bool (!((blockB i bg ln)))) (x_pick_f rfl rfl (neg_of hb6) rfl) ?_
  refine w_a ?_
  refine w_e ?_
  refine g_weak [(0, .pointer (some ⟨b, 0, none⟩)), (1, .int .i64 p), (3, .string data), (6, .pointer (some ⟨g1, 0, none⟩)), (14, .bool (!((blockB i bg ln))))] ⟨rfl, rfl, rfl, rfl, rfl, trivial⟩ ?_
  rcases Bool.eq_false_or_eq_true ((blockB i bg ln)) with hb9 | hb9
  ·
   have hpb : (peerB p && blockB i bg ln) = true := by rw [hb6, hb9]; rfl
   have hbt := blockB_true hpb
   refine g_cond_f rfl (neg_of hb9) ?_
   refine w_s ?_
   refine w_m ?_
   refine w_v (v := .int .i64 ((data.size : Int))) (x_lens rfl rfl Try.underlying9) ?_
   refine w_f 2 ?_
   refine w_1 H8 0 ?_
   refine w_b (v := .bool (!decide (((data.size : Int) : Int) = ln))) (hb := b_neq) ?_
   refine w_a ?_
   refine w_e ?_
   by_cases hb10 : ((data.size : Int) : Int) = ln
   ·
    refine g_cond_f rfl (nf hb10) ?_
    refine w_s ?_
    refine w_r4 ?_
    refine w_1 H8 1 ?_
    refine w_m ?_
    refine w_v (v := .bool (((bn p).getD false))) (ex_cast (x_lookup1 (x := p) (intTy Try.underlying29 Try.underlying3) H8 2 rfl rfl rfl rfl (hok_p) ze4) (look_B _)) ?_
    refine w_a ?_
    refine w_e ?_
    refine g_weak [(0, .pointer (some ⟨b, 0, none⟩)), (1, .int .i64 p), (3, .string data), (6, .pointer (some ⟨g1, 0, none⟩)), (29, .bool (((bn p).getD false)))] ⟨rfl, rfl, rfl, rfl, rfl, trivial⟩ ?_
    rcases Bool.eq_false_or_eq_true (((bn p).getD false)) with hb11 | hb11
    ·
     refine g_cond_t rfl hb11 ?_
     refine w_s ?_
     refine w_a ?_
     refine w_e ?_
     refine g_ret ?_
     refine g_in_ret ?_
     refine g_then_ret ?_
     refine fin_ret [.tmp 8] [.int .i64 20] rfl ⟨rfl, trivial⟩ ?_
     exact .inr (.inr (.inl ⟨hpb, hb10, hb11, rfl, H8.takes [1, 2, 3, 4, 5] (by decide)⟩))
    ·
     refine g_cond_f rfl hb11 ?_
     refine g_skip ?_
     refine g_in ?_
     refine g_then ?_
     refine g_seq ?_
     refine g_quiet (by kernel_rfl) (by kernel_rfl) H8 ?_
     refine q_val (v := .pointer (some ⟨b, 0, none⟩)) (wt0 rfl) rfl rfl (fun wx H => x_move rfl rfl) ?_
     refine q_val (v := .pointer (some ⟨b, 0, none⟩)) (wt0 rfl) rfl rfl (fun wx H => x_nilCheck rfl rfl) ?_
     refine q_val (v := .pointer (some ⟨b, 2, none⟩)) (wt0 rfl) rfl rfl (fun wx H => x_fieldAddr rfl rfl fo66_1 rfl) ?_
     refine q_val (v := .map (some m3)) (wt0 rfl) rfl rfl (fun wx H => x_load1 H 1 rfl rfl Try.underlying63 rfl rfl rfl) ?_
     refine q_val (v := .pointer (some ⟨g1, 0, none⟩)) (wt0 rfl) rfl rfl (fun wx H => x_fieldAddr rfl rfl fo37_0 rfl) ?_
     refine q_val (v := .int .i64 i) (wt0 rfl) rfl rfl (fun wx H => x_load1 H 0 rfl rfl Try.underlying3 rfl rfl rfl) ?_
     refine q_val (v := .map (some m)) (wt0 rfl) rfl rfl (fun wx H => ex_cast (x_lookup1 (x := i) (intTy Try.underlying63 Try.underlying3) H 3 rfl rfl rfl rfl (hok_i) ze70) ((look_M _).trans (by rw [hn]))) ?_
     refine q_val (v := .map (some m)) (wt0 rfl) rfl rfl (fun wx H => x_assign rfl rfl) ?_
     refine q_nil (fun wq12 H13 => ?_)
     refine g_then ?_
     refine g_seq ?_
     refine w_s ?_
     refine w_m ?_
     have hmn := H13.famMnodup (k := 4) rfl
     have H14 : S wq12 [Mp spK snV okP m (ct m), FamM spK snV okP (ms.erase m) ct, Ob g1 (.cells #[.int .i64 i, .int .i64 bg, .int .i64 ln] 37 (0, 0)), Ob b (.cells #[.map (some m1), .map (some m2), .map (some m3), .map (some m4)] 66 (0, 0)), Mp (Value.int .i64) Value.bool okI m2 bn, Mp (Value.int .i64) mpV okI m3 nw, Old w (fps [Ob b (.cells #[.map (some m1), .map (some m2), .map (some m3), .map (some m4)] 66 (0, 0)), Mp (Value.int .i64) Value.bool okI m2 bn, Mp (Value.int .i64) mpV okI m3 nw, FamM spK snV okP ms ct])] := S.famMout (H13.takes [4, 0, 1, 2, 3, 5] (by decide)) hms
     refine l_of (s_rangeN tryT H14 0 (wt0 rfl) rfl rfl rfl rfl rfl ?_)
     intro rr15 rem16 wq17 hnrem16 hrem16 H18
     refine w_e ?_
     refine g_block ?_
     refine g_loop (ι := List (Sp × Sn) × Option (Sp × Sn)) (fun (rem, cur) => [(0, .pointer (some ⟨b, 0, none⟩)), (1, .int .i64 p), (3, .string data), (6, .pointer (some ⟨g1, 0, none⟩)), (9, .map (some m)), (45, .pointer (some ⟨rr15, 0, none⟩))]) (fun (rem, cur) wx => (∀ q ∈ rem16, q ∉ rem → ¬ q.1.1 = bg) ∧ S wx [MpR spK snV okP m rr15 (ct m) rem cur, FamM spK snV okP (ms.erase m) ct, Ob g1 (.cells #[.int .i64 i, .int .i64 bg, .int .i64 ln] 37 (0, 0)), Ob b (.cells #[.map (some m1), .map (some m2), .map (some m3), .map (some m4)] 66 (0, 0)), Mp (Value.int .i64) Value.bool okI m2 bn, Mp (Value.int .i64) mpV okI m3 nw, Old w (fps [Ob b (.cells #[.map (some m1), .map (some m2), .map (some m3), .map (some m4)] 66 (0, 0)), Mp (Value.int .i64) Value.bool okI m2 bn, Mp (Value.int .i64) mpV okI m3 nw, FamM spK snV okP ms ct])]) (fun (rem, cur) => rem.length) (rem16, none) ⟨rfl, rfl, rfl, rfl, rfl, rfl, trivial⟩ ⟨(fun _ h h2 => absurd h h2), (H18.takes [0, 1, 2, 3, 4, 5, 6] (by decide))⟩ ?_
     rintro ⟨rem, cur⟩ wq19 ⟨hrn, H20⟩
     refine g_weak [(0, .pointer (some ⟨b, 0, none⟩)), (1, .int .i64 p), (3, .string data), (6, .pointer (some ⟨g1, 0, none⟩)), (9, .map (some m)), (45, .pointer (some ⟨rr15, 0, none⟩))] ⟨rfl, rfl, rfl, rfl, rfl, rfl, trivial⟩ ?_
     refine w_s ?_
     refine l_of (s_next H20 0 (wt0 rfl) rfl rfl rfl rfl rfl (fun hnil30 => ?_) (fun q21 rem22 wx23 hp24 hok25 hN26 hm27 hl28 Hx29 => ?_))
     ·
      subst hnil30
      have H31 : S wq19 [Mp spK snV okP m (ct m), FamM spK snV okP (ms.erase m) ct, Ob g1 (.cells #[.int .i64 i, .int .i64 bg, .int .i64 ln] 37 (0, 0)), Ob b (.cells #[.map (some m1), .map (some m2), .map (some m3), .map (some m4)] 66 (0, 0)), Mp (Value.int .i64) Value.bool okI m2 bn, Mp (Value.int .i64) mpV okI m3 nw, Old w (fps [Ob b (.cells #[.map (some m1), .map (some m2), .map (some m3), .map (some m4)] 66 (0, 0)), Mp (Value.int .i64) Value.bool okI m2 bn, Mp (Value.int .i64) mpV okI m3 nw, FamM spK snV okP ms ct])] := H20.unR (k0 := 0) rfl
      refine w_v xe ?_
      refine w_e ?_
      refine g_seq ?_
      refine g_cond_f rfl rfl ?_
      refine g_exit ?_
      refine g_then_exit ?_
      refine g_then_exit ?_
      refine g_in_hit ?_
      refine g_then ?_
      refine g_seq ?_
      refine w_s ?_
      refine w_m ?_
      refine w_b (v := .bool false) (hb := (b_eqN (r := false) Try.underlying70 rfl)) ?_
      refine w_e ?_
      refine g_cond_f rfl rfl ?_
      refine g_skip ?_
      refine g_then ?_
      refine g_seq ?_
      refine g_anyY [] (fun wx => S wx [Ob g1 (.cells #[.int .i64 i, .int .i64 bg, .int .i64 ln] 37 (0, 0))]) (fun wx => S wx []) [10] (by kernel_rfl) H31 (fun wq32 H33 => ?_)
      refine w_y 0 rfl (wt0 rfl) rfl rfl rfl (by kernel_rfl) (fun _ => x_move rfl rfl) ?_
      refine w_y 1 rfl (wt0 rfl) rfl rfl rfl (by kernel_rfl) (fun _ => x_fieldAddr (off' := 1) rfl rfl fo37_1 rfl) ?_
      have cm1 := H33.mask [false, false, true, false, false, false, false]
      refine y_take (v := .int .i64 bg) 2 rfl (wt0 rfl) rfl rfl rfl (by kernel_rfl) (by kernel_rfl) (by kernel_rfl) (by kernel_rfl) (by kernel_rfl) cm1 (fun wx H => x_load1 H 0 rfl rfl Try.underlying3 rfl rfl rfl) ?_
      refine w_y 3 rfl (wt0 rfl) rfl rfl rfl (by kernel_rfl) (fun _ => x_fieldAddr (off' := 2) rfl rfl fo37_2 rfl) ?_
      refine y_take (v := .int .i64 ln) 4 rfl (wt0 rfl) rfl rfl rfl (by kernel_rfl) (by kernel_rfl) (by kernel_rfl) (by kernel_rfl) (by kernel_rfl) cm1 (fun wx H => x_load1 H 0 rfl rfl Try.underlying3 rfl rfl rfl) ?_
      refine w_y (v := .agg #[.int .i64 bg, .int .i64 ln]) 5 rfl (wt0 rfl) rfl rfl rfl (by kernel_rfl) (fun _ => x_build (vs := [.int .i64 bg, .int .i64 ln]) rfl rfl (cells := #[.int .i64 bg, .int .i64 ln]) (by kernel_rfl)) ?_
      refine w_y 6 rfl (wt0 rfl) rfl rfl rfl (by kernel_rfl) (fun _ => x_move rfl rfl) ?_
      refine w_y 7 rfl (wt0 rfl) rfl rfl rfl (by kernel_rfl) (fun _ => x_move rfl rfl) ?_
      refine y_one (i := 8) (by kernel_rfl) rfl ?_
      refine s_call0 H33 (wt0 rfl) (x_call' rfl rfl cl34) (sum_h data (by omega) _) rfl rfl ?_
      intro wq34 H35
      refine y_k (H35.mask [false, false, true, false, false, false, false]) (H35.mask [false, false, false, false, false, false, false]) ?_
      refine w_y (v := .agg #[.int .i64 p, .string ((sumS data))]) 9 rfl (wt0 rfl) rfl rfl rfl (by kernel_rfl) (fun _ => x_build (vs := [.int .i64 p, .string ((sumS data))]) rfl rfl (cells := #[.int .i64 p, .string ((sumS data))]) (by kernel_rfl)) ?_
      refine y_one (i := 10) (by kernel_rfl) rfl ?_
      refine s_mapUpdate (x := (bg, ln)) (a := (p, (sumS data))) tryT H35 0 (wt0 rfl) rfl rfl rfl rfl rfl rfl ((okP_of hbt.2.2)) ?_
      intro wq36 H37
      refine y_kt rfl (H37.mask [false, false, false, false, false, false, false]) ?_
      refine y_done (by kernel_rfl) ?_
      refine g_then ?_
      refine g_weak [] trivial ?_
      refine w_s ?_
      refine w_a ?_
      refine w_e ?_
      refine g_ret ?_
      refine fin_ret [.tmp 8] [.int .i64 0] rfl ⟨rfl, trivial⟩ ?_
      have H38 := S.famMin (H37.takes [0, 1, 2, 3, 4, 5, 6] (by decide)) hms hmn
      have hno : ∀ s v, tryOf ct (nw i) s = some v → ¬ s.1 = bg := fun s v h => by rw [hn] at h; exact hrn (s, v) ((hrem16 (s, v)).2 ⟨(hB.tok m hms).okp h, h⟩) (by simp)
      have h5 := sent_some hB hn (s := (bg, ln)) (v := (p, sumS data)) ((hB.tok m hms).add hbt.2.2 hbt.1 (fun s v h => hno s v (by rw [hn]; exact h)))
      exact .inr (.inr (.inr (.inr ⟨hpb, hb10, hb11, hno, nw, ms, _, h5, rfl, H38.takes [2, 3, 4, 0, 5] (by decide)⟩)))
     ·
      have H39 : S wx23 [MpR spK snV okP m rr15 (ct m) rem22 (some q21), FamM spK snV okP (ms.erase m) ct, Ob g1 (.cells #[.int .i64 i, .int .i64 bg, .int .i64 ln] 37 (0, 0)), Ob b (.cells #[.map (some m1), .map (some m2), .map (some m3), .map (some m4)] 66 (0, 0)), Mp (Value.int .i64) Value.bool okI m2 bn, Mp (Value.int .i64) mpV okI m3 nw, Old w (fps [Ob b (.cells #[.map (some m1), .map (some m2), .map (some m3), .map (some m4)] 66 (0, 0)), Mp (Value.int .i64) Value.bool okI m2 bn, Mp (Value.int .i64) mpV okI m3 nw, FamM spK snV okP ms ct])] := Hx29
      refine w_v xe ?_
      refine w_e ?_
      refine g_seq ?_
      refine g_cond_t rfl rfl ?_
      refine g_skip ?_
      refine g_then ?_
      refine g_block ?_
      refine w_s ?_
      refine w_v (v := .tuple #[.agg #[.int .i64 (q21.1.1), .int .i64 (q21.1.2)], .agg #[.int .i64 (q21.2.1), .string (q21.2.2)]]) (x_entry (k := 0) (t := 0) (e0 := 0) H39 0 rfl rfl rfl) ?_
      refine w_v xe ?_
      refine l_of (s_alloc H39 (wt0 rfl) rfl rfl rfl ze74 ?_)
      intro g40 wq41 H42
      refine l_of (w_st #[.int .i64 (q21.1.1), .int .i64 (q21.1.2)] H42 0 ?_)
      intro wq43 H44
      refine w_e ?_
      refine w_s ?_
      refine w_f 0 ?_
      refine w_1 H44 0 ?_
      refine w_f 1 ?_
      refine w_1 H44 3 ?_
      refine w_b ?_
      refine w_e ?_
      by_cases hb45 : (q21.1.1 : Int) = bg
      ·
       refine g_cond_t rfl (decide_eq_true hb45) ?_
       refine w_s ?_
       refine w_a ?_
       refine w_e ?_
       refine g_weak [(8, .int .i64 6)] ⟨rfl, trivial⟩ ?_
       refine g_ret ?_
       refine g_in_ret ?_
       refine g_then_ret ?_
       refine g_in_ret ?_
       refine g_then_ret ?_
       refine fin_ret [.tmp 8] [.int .i64 6] rfl ⟨rfl, trivial⟩ ?_
       have H46 : S wq43 [Ob g40 (.cells #[.int .i64 (q21.1.1), .int .i64 (q21.1.2)] 74 (0, 0)), Mp spK snV okP m (ct m), FamM spK snV okP (ms.erase m) ct, Ob g1 (.cells #[.int .i64 i, .int .i64 bg, .int .i64 ln] 37 (0, 0)), Ob b (.cells #[.map (some m1), .map (some m2), .map (some m3), .map (some m4)] 66 (0, 0)), Mp (Value.int .i64) Value.bool okI m2 bn, Mp (Value.int .i64) mpV okI m3 nw, Old w (fps [Ob b (.cells #[.map (some m1), .map (some m2), .map (some m3), .map (some m4)] 66 (0, 0)), Mp (Value.int .i64) Value.bool okI m2 bn, Mp (Value.int .i64) mpV okI m3 nw, FamM spK snV okP ms ct])] := H44.unR (k0 := 1) rfl
       have H47 := S.famMin (H46.takes [1, 2, 0, 3, 4, 5, 6, 7] (by decide)) hms hmn
       rw [upd_self] at H47
       replace H47 : S wq43 [FamM spK snV okP ms ct, Ob g40 (.cells #[.int .i64 (q21.1.1), .int .i64 (q21.1.2)] 74 (0, 0)), Ob g1 (.cells #[.int .i64 i, .int .i64 bg, .int .i64 ln] 37 (0, 0)), Ob b (.cells #[.map (some m1), .map (some m2), .map (some m3), .map (some m4)] 66 (0, 0)), Mp (Value.int .i64) Value.bool okI m2 bn, Mp (Value.int .i64) mpV okI m3 nw, Old w (fps [Ob b (.cells #[.map (some m1), .map (some m2), .map (some m3), .map (some m4)] 66 (0, 0)), Mp (Value.int .i64) Value.bool okI m2 bn, Mp (Value.int .i64) mpV okI m3 nw, FamM spK snV okP ms ct])] := H47
       exact .inr (.inr (.inr (.inl ⟨hpb, hb10, hb11, ⟨q21.1, q21.2, by rw [hn]; exact hN26, hb45⟩, rfl, H47.takes [3, 4, 5, 0, 6] (by decide)⟩)))
      ·
       refine g_cond_f rfl (decide_eq_false hb45) ?_
       refine g_skip ?_
       refine g_in ?_
       refine g_then ?_
       refine g_round (i := (rem, cur)) (rem22, (some q21)) ?_ ?_ ?_
       · exact ⟨rfl, rfl, rfl, rfl, rfl, rfl, trivial⟩
       · exact ⟨(seen_next (F := fun q => ¬ q.1.1 = bg) hm27 hrn hb45), (H44.takes [1, 2, 3, 4, 5, 6, 7] (by decide))⟩
       · exact hl28
   ·
    refine g_cond_t rfl (nt hb10) ?_
    refine w_s ?_
    refine w_a ?_
    refine w_e ?_
    refine g_ret ?_
    refine g_in_ret ?_
    refine g_then_ret ?_
    refine fin_ret [.tmp 8] [.int .i64 11] rfl ⟨rfl, trivial⟩ ?_
    exact .inr (.inl ⟨hpb, hb10, rfl, H8.takes [1, 2, 3, 4, 5] (by decide)⟩)
  ·
   refine g_cond_t rfl (neg_of hb9) ?_
   refine w_s ?_
   refine w_a ?_
   refine w_e ?_
   refine g_ret ?_
   refine g_in_ret ?_
   refine g_then_ret ?_
   refine fin_ret [.tmp 8] [.int .i64 7] rfl ⟨rfl, trivial⟩ ?_
   exact .inl ⟨by simp [hb6, hb9], rfl, H8.takes [1, 2, 3, 4, 5] (by decide)⟩
 ·
  refine w_n (neg_of hb6) ?_
  refine w_n (neg_of hb6) ?_
  refine w_n (neg_of hb6) ?_
  refine w_v (v := .bool true) (x_pick_t rfl rfl (neg_of hb6) rfl) ?_
  refine w_a ?_
  refine w_e ?_
  refine g_weak [(0, .pointer (some ⟨b, 0, none⟩)), (1, .int .i64 p), (3, .string data), (6, .pointer (some ⟨g1, 0, none⟩)), (14, .bool true)] ⟨rfl, rfl, rfl, rfl, rfl, trivial⟩ ?_
  refine g_cond_t rfl rfl ?_
  refine w_s ?_
  refine w_a ?_
  refine w_e ?_
  refine g_ret ?_
  refine g_in_ret ?_
  refine g_then_ret ?_
  refine fin_ret [.tmp 8] [.int .i64 7] rfl ⟨rfl, trivial⟩ ?_
  exact .inl ⟨by simp [hb6], rfl, H5.takes [1, 2, 3, 4, 5] (by decide)⟩
set_option maxRecDepth 20000 in
set_option maxHeartbeats 4000000 in
theorem sent_0 {b m1 m2 m3 m4 : Nat} {bn : Int → Option Bool} {nw : Int → Option Nat} {od : Int → Option (Ro Nat)} {rs : List (Ro Nat)} {ms : List Nat} {ct : Nat → Tr} {p i bg ln : Int} {data : ByteArray} (hB : BI nw od rs ms ct) (hok_p : okI p) (hok_i : okI i) (hn : nw i = none)  (w : World) (HS : S w [Ob b (.cells #[.map (some m1), .map (some m2), .map (some m3), .map (some m4)] 66 (0, 0)), Mp (Value.int .i64) Value.bool okI m2 bn, Mp (Value.int .i64) mpV okI m3 nw, FamM spK snV okP ms ct]) : Calls Try.prog 13 #[.pointer (some ⟨b, 0, none⟩), .int .i64 p, .agg #[.int .i64 i, .int .i64 bg, .int .i64 ln], .string data] w fun e w' => ((peerB p && blockB i bg ln) = false ∧ e = .returned (.int .i64 7) ∧ S w' ([Ob b (.cells #[.map (some m1), .map (some m2), .map (some m3), .map (some m4)] 66 (0, 0)), Mp (Value.int .i64) Value.bool okI m2 bn, Mp (Value.int .i64) mpV okI m3 nw, FamM spK snV okP ms ct] ++ [Old w (fps [Ob b (.cells #[.map (some m1), .map (some m2), .map (some m3), .map (some m4)] 66 (0, 0)), Mp (Value.int .i64) Value.bool okI m2 bn, Mp (Value.int .i64) mpV okI m3 nw, FamM spK snV okP ms ct])])) ∨ ((peerB p && blockB i bg ln) = true ∧ ¬ (data.size : Int) = ln ∧ e = .returned (.int .i64 11) ∧ S w' ([Ob b (.cells #[.map (some m1), .map (some m2), .map (some m3), .map (some m4)] 66 (0, 0)), Mp (Value.int .i64) Value.bool okI m2 bn, Mp (Value.int .i64) mpV okI m3 nw, FamM spK snV okP ms ct] ++ [Old w (fps [Ob b (.cells #[.map (some m1), .map (some m2), .map (some m3), .map (some m4)] 66 (0, 0)), Mp (Value.int .i64) Value.bool okI m2 bn, Mp (Value.int .i64) mpV okI m3 nw, FamM spK snV okP ms ct])])) ∨ ((peerB p && blockB i bg ln) = true ∧ (data.size : Int) = ln ∧ (bn p).getD false = true ∧ e = .returned (.int .i64 20) ∧ S w' ([Ob b (.cells #[.map (some m1), .map (some m2), .map (some m3), .map (some m4)] 66 (0, 0)), Mp (Value.int .i64) Value.bool okI m2 bn, Mp (Value.int .i64) mpV okI m3 nw, FamM spK snV okP ms ct] ++ [Old w (fps [Ob b (.cells #[.map (some m1), .map (some m2), .map (some m3), .map (some m4)] 66 (0, 0)), Mp (Value.int .i64) Value.bool okI m2 bn, Mp (Value.int .i64) mpV okI m3 nw, FamM spK snV okP ms ct])])) ∨ ((peerB p && blockB i bg ln) = true ∧ (data.size : Int) = ln ∧ (bn p).getD false = false ∧ (∃ s v, tryOf ct (nw i) s = some v ∧ s.1 = bg) ∧ e = .returned (.int .i64 6) ∧ S w' ([Ob b (.cells #[.map (some m1), .map (some m2), .map (some m3), .map (some m4)] 66 (0, 0)), Mp (Value.int .i64) Value.bool okI m2 bn, Mp (Value.int .i64) mpV okI m3 nw, FamM spK snV okP ms ct] ++ [Old w (fps [Ob b (.cells #[.map (some m1), .map (some m2), .map (some m3), .map (some m4)] 66 (0, 0)), Mp (Value.int .i64) Value.bool okI m2 bn, Mp (Value.int .i64) mpV okI m3 nw, FamM spK snV okP ms ct])])) ∨ ((peerB p && blockB i bg ln) = true ∧ (data.size : Int) = ln ∧ (bn p).getD false = false ∧ (∀ s v, tryOf ct (nw i) s = some v → ¬ s.1 = bg) ∧ ∃ nw' ms' ct', Sent5 nw nw' od rs ms' ct ct' i (bg, ln) (p, sumS data) ∧ e = .returned (.int .i64 0) ∧ S w' ([Ob b (.cells #[.map (some m1), .map (some m2), .map (some m3), .map (some m4)] 66 (0, 0)), Mp (Value.int .i64) Value.bool okI m2 bn, Mp (Value.int .i64) mpV okI m3 nw', FamM spK snV okP ms' ct'] ++ [Old w (fps [Ob b (.cells #[.map (some m1), .map (some m2), .map (some m3), .map (some m4)] 66 (0, 0)), Mp (Value.int .i64) Value.bool okI m2 bn, Mp (Value.int .i64) mpV okI m3 nw, FamM spK snV okP ms ct])])) := by
 have H0 := HS.beginI
 refine enter 75 Try.func13 rfl rfl rfl ?_
 refine g_weak [(0, .pointer (some ⟨b, 0, none⟩)), (1, .int .i64 p), (2, .agg #[.int .i64 i, .int .i64 bg, .int .i64 ln]), (3, .string data)] ⟨rfl, rfl, rfl, rfl, trivial⟩ ?_
 refine w_s ?_
 refine l_of (s_box H0 (wt0 rfl) rfl rfl rfl rfl ?_)
 intro g1 wq2 H3
 refine w_a ?_
 refine w_e ?_
 refine g_seq ?_
 refine g_block ?_
 refine w_s ?_
 refine w_m ?_
 refine w_b (v := .bool false) (hb := (b_eqN (r := false) Try.underlying28 rfl)) ?_
 refine w_a ?_
 refine w_e ?_
 refine g_cond_f rfl rfl ?_
 refine w_s ?_
 refine w_m ?_
 refine l_of (s_call0 H3 (wt0 rfl) (x_call' rfl rfl cl32) (peer_s _ _) rfl rfl ?_)
 intro wq4 H5
 refine w_v (v := .bool (!((peerB p)))) (x_not (b := (peerB p)) rfl rfl) ?_
 refine w_m ?_
 rcases Bool.eq_false_or_eq_true ((peerB p)) with hb6 | hb6
 ·
  refine w_g (v := .agg #[.int .i64 i, .int .i64 bg, .int .i64 ln]) (neg_of hb6) (x_loadA H5 0 rfl rfl Try.underlying37 rfl sz37 rfl rfl rfl) ?_
  refine l_of (s_call0 H5 (wt1 rfl rfl rfl rfl (neg_of hb6)) (x_call' rfl rfl cl33) (block_s _ _ _ _) rfl rfl ?_)
  intro wq7 H8
  refine w_g (v := .bool (!((blockB i bg ln)))) (neg_of hb6) (x_not (b := (blockB i bg ln)) rfl rfl) ?_
  refine w_v (v := .bool (!((blockB i bg ln)))) (x_pick_f rfl rfl (neg_of hb6) rfl) ?_
  refine w_a ?_
  refine w_e ?_
  refine g_weak [(0, .pointer (some ⟨b, 0, none⟩)), (1, .int .i64 p), (3, .string data), (6, .pointer (some ⟨g1, 0, none⟩)), (14, .bool (!((blockB i bg ln))))] ⟨rfl, rfl, rfl, rfl, rfl, trivial⟩ ?_
  rcases Bool.eq_false_or_eq_true ((blockB i bg ln)) with hb9 | hb9
  ·
   have hpb : (peerB p && blockB i bg ln) = true := by rw [hb6, hb9]; rfl
   have hbt := blockB_true hpb
   refine g_cond_f rfl (neg_of hb9) ?_
   refine w_s ?_
   refine w_m ?_
   refine w_v (v := .int .i64 ((data.size : Int))) (x_lens rfl rfl Try.underlying9) ?_
   refine w_f 2 ?_
   refine w_1 H8 0 ?_
   refine w_b (v := .bool (!decide (((data.size : Int) : Int) = ln))) (hb := b_neq) ?_
   refine w_a ?_
   refine w_e ?_
   by_cases hb10 : ((data.size : Int) : Int) = ln
   ·
    refine g_cond_f rfl (nf hb10) ?_
    refine w_s ?_
    refine w_r4 ?_
    refine w_1 H8 1 ?_
    refine w_m ?_
    refine w_v (v := .bool (((bn p).getD false))) (ex_cast (x_lookup1 (x := p) (intTy Try.underlying29 Try.underlying3) H8 2 rfl rfl rfl rfl (hok_p) ze4) (look_B _)) ?_
    refine w_a ?_
    refine w_e ?_
    refine g_weak [(0, .pointer (some ⟨b, 0, none⟩)), (1, .int .i64 p), (3, .string data), (6, .pointer (some ⟨g1, 0, none⟩)), (29, .bool (((bn p).getD false)))] ⟨rfl, rfl, rfl, rfl, rfl, trivial⟩ ?_
    rcases Bool.eq_false_or_eq_true (((bn p).getD false)) with hb11 | hb11
    ·
     refine g_cond_t rfl hb11 ?_
     refine w_s ?_
     refine w_a ?_
     refine w_e ?_
     refine g_ret ?_
     refine g_in_ret ?_
     refine g_then_ret ?_
     refine fin_ret [.tmp 8] [.int .i64 20] rfl ⟨rfl, trivial⟩ ?_
     exact .inr (.inr (.inl ⟨hpb, hb10, hb11, rfl, H8.takes [1, 2, 3, 4, 5] (by decide)⟩))
    ·
     refine g_cond_f rfl hb11 ?_
     refine g_skip ?_
     refine g_in ?_
     refine g_then ?_
     refine g_seq ?_
     refine g_quiet (by kernel_rfl) (by kernel_rfl) H8 ?_
     refine q_val (v := .pointer (some ⟨b, 0, none⟩)) (wt0 rfl) rfl rfl (fun wx H => x_move rfl rfl) ?_
     refine q_val (v := .pointer (some ⟨b, 0, none⟩)) (wt0 rfl) rfl rfl (fun wx H => x_nilCheck rfl rfl) ?_
     refine q_val (v := .pointer (some ⟨b, 2, none⟩)) (wt0 rfl) rfl rfl (fun wx H => x_fieldAddr rfl rfl fo66_1 rfl) ?_
     refine q_val (v := .map (some m3)) (wt0 rfl) rfl rfl (fun wx H => x_load1 H 1 rfl rfl Try.underlying63 rfl rfl rfl) ?_
     refine q_val (v := .pointer (some ⟨g1, 0, none⟩)) (wt0 rfl) rfl rfl (fun wx H => x_fieldAddr rfl rfl fo37_0 rfl) ?_
     refine q_val (v := .int .i64 i) (wt0 rfl) rfl rfl (fun wx H => x_load1 H 0 rfl rfl Try.underlying3 rfl rfl rfl) ?_
     refine q_val (v := .map none) (wt0 rfl) rfl rfl (fun wx H => ex_cast (x_lookup1 (x := i) (intTy Try.underlying63 Try.underlying3) H 3 rfl rfl rfl rfl (hok_i) ze70) ((look_M _).trans (by rw [hn]))) ?_
     refine q_val (v := .map none) (wt0 rfl) rfl rfl (fun wx H => x_assign rfl rfl) ?_
     refine q_nil (fun wq12 H13 => ?_)
     refine g_then ?_
     refine g_seq ?_
     refine w_s ?_
     refine w_m ?_
     refine l_of (s_rangeNil H13 (wt0 rfl) rfl rfl rfl rfl Try.underlying70 ?_)
     intro rr wq14 H15
     refine w_e ?_
     refine g_block ?_
     refine g_loop (ι := Unit) (fun _ => [(0, .pointer (some ⟨b, 0, none⟩)), (1, .int .i64 p), (3, .string data), (6, .pointer (some ⟨g1, 0, none⟩)), (9, .map none), (45, .pointer (some ⟨rr, 0, none⟩))]) (fun _ wx => (True) ∧ S wx [Ob rr (.mapIter none 0 #[] 0), Ob g1 (.cells #[.int .i64 i, .int .i64 bg, .int .i64 ln] 37 (0, 0)), Ob b (.cells #[.map (some m1), .map (some m2), .map (some m3), .map (some m4)] 66 (0, 0)), Mp (Value.int .i64) Value.bool okI m2 bn, Mp (Value.int .i64) mpV okI m3 nw, FamM spK snV okP ms ct, Old w (fps [Ob b (.cells #[.map (some m1), .map (some m2), .map (some m3), .map (some m4)] 66 (0, 0)), Mp (Value.int .i64) Value.bool okI m2 bn, Mp (Value.int .i64) mpV okI m3 nw, FamM spK snV okP ms ct])]) (fun _ => 0) () ⟨rfl, rfl, rfl, rfl, rfl, rfl, trivial⟩ ⟨trivial, H15⟩ ?_
     rintro _ wq16 ⟨hT, H17⟩
     refine g_weak [(0, .pointer (some ⟨b, 0, none⟩)), (1, .int .i64 p), (3, .string data), (6, .pointer (some ⟨g1, 0, none⟩)), (9, .map none), (45, .pointer (some ⟨rr, 0, none⟩))] ⟨rfl, rfl, rfl, rfl, rfl, rfl, trivial⟩ ?_
     refine w_s ?_
     refine w_v (v := .tuple #[.bool false]) (x_nextNil H17 0 rfl rfl rfl) ?_
     refine w_v xe ?_
     refine w_e ?_
     refine g_seq ?_
     refine g_cond_f rfl rfl ?_
     refine g_exit ?_
     refine g_then_exit ?_
     refine g_then_exit ?_
     refine g_in_hit ?_
     refine g_then ?_
     refine g_seq ?_
     refine w_s ?_
     refine w_m ?_
     refine w_b (v := .bool true) (hb := (b_eqN (r := true) Try.underlying70 rfl)) ?_
     refine w_e ?_
     refine g_cond_t rfl rfl ?_
     refine w_s ?_
     refine l_of (s_makeMap (α := Sn) spK snV okP H17 (wt0 rfl) rfl rfl rfl ?_)
     intro mg18 wq19 H20
     refine w_a ?_
     refine w_e ?_
     refine g_anyY [] (fun wx => S wx [Ob g1 (.cells #[.int .i64 i, .int .i64 bg, .int .i64 ln] 37 (0, 0)), Ob b (.cells #[.map (some m1), .map (some m2), .map (some m3), .map (some m4)] 66 (0, 0))]) (fun wx => S wx []) [7] (by kernel_rfl) H20 (fun wq21 H22 => ?_)
     refine w_y 0 rfl (wt0 rfl) rfl rfl rfl (by kernel_rfl) (fun _ => x_move rfl rfl) ?_
     refine w_y 1 rfl (wt0 rfl) rfl rfl rfl (by kernel_rfl) (fun _ => x_nilCheck rfl rfl) ?_
     refine w_y 2 rfl (wt0 rfl) rfl rfl rfl (by kernel_rfl) (fun _ => x_fieldAddr (off' := 2) rfl rfl fo66_1 rfl) ?_
     have cm2 := H22.mask [false, false, true, true, false, false, false, false]
     refine y_take (v := .map (some m3)) 3 rfl (wt0 rfl) rfl rfl rfl (by kernel_rfl) (by kernel_rfl) (by kernel_rfl) (by kernel_rfl) (by kernel_rfl) cm2 (fun wx H => x_load1 H 1 rfl rfl Try.underlying63 rfl rfl rfl) ?_
     refine w_y 4 rfl (wt0 rfl) rfl rfl rfl (by kernel_rfl) (fun _ => x_fieldAddr (off' := 0) rfl rfl fo37_0 rfl) ?_
     refine y_take (v := .int .i64 i) 5 rfl (wt0 rfl) rfl rfl rfl (by kernel_rfl) (by kernel_rfl) (by kernel_rfl) (by kernel_rfl) (by kernel_rfl) cm2 (fun wx H => x_load1 H 0 rfl rfl Try.underlying3 rfl rfl rfl) ?_
     refine w_y 6 rfl (wt0 rfl) rfl rfl rfl (by kernel_rfl) (fun _ => x_move rfl rfl) ?_
     refine y_one (i := 7) (by kernel_rfl) rfl ?_
     refine s_mapUpdate (x := i) (a := mg18) (intTy Try.underlying63 Try.underlying3) H22 5 (wt0 rfl) rfl rfl rfl rfl rfl rfl (hok_i) ?_
     intro wq23 H24
     refine y_kt rfl (H24.mask [false, false, false, false, false, false, false, false]) ?_
     refine y_done (by kernel_rfl) ?_
     refine g_then ?_
     refine g_weak [(1, .int .i64 p), (3, .string data), (6, .pointer (some ⟨g1, 0, none⟩)), (9, .map (some mg18))] ⟨rfl, rfl, rfl, rfl, trivial⟩ ?_
     refine g_seq ?_
     refine g_anyY [] (fun wx => S wx [Ob g1 (.cells #[.int .i64 i, .int .i64 bg, .int .i64 ln] 37 (0, 0))]) (fun wx => S wx []) [10] (by kernel_rfl) H24 (fun wq25 H26 => ?_)
     refine w_y 0 rfl (wt0 rfl) rfl rfl rfl (by kernel_rfl) (fun _ => x_move rfl rfl) ?_
     refine w_y 1 rfl (wt0 rfl) rfl rfl rfl (by kernel_rfl) (fun _ => x_fieldAddr (off' := 1) rfl rfl fo37_1 rfl) ?_
     have cm3 := H26.mask [false, false, true, false, false, false, false, false]
     refine y_take (v := .int .i64 bg) 2 rfl (wt0 rfl) rfl rfl rfl (by kernel_rfl) (by kernel_rfl) (by kernel_rfl) (by kernel_rfl) (by kernel_rfl) cm3 (fun wx H => x_load1 H 0 rfl rfl Try.underlying3 rfl rfl rfl) ?_
     refine w_y 3 rfl (wt0 rfl) rfl rfl rfl (by kernel_rfl) (fun _ => x_fieldAddr (off' := 2) rfl rfl fo37_2 rfl) ?_
     refine y_take (v := .int .i64 ln) 4 rfl (wt0 rfl) rfl rfl rfl (by kernel_rfl) (by kernel_rfl) (by kernel_rfl) (by kernel_rfl) (by kernel_rfl) cm3 (fun wx H => x_load1 H 0 rfl rfl Try.underlying3 rfl rfl rfl) ?_
     refine w_y (v := .agg #[.int .i64 bg, .int .i64 ln]) 5 rfl (wt0 rfl) rfl rfl rfl (by kernel_rfl) (fun _ => x_build (vs := [.int .i64 bg, .int .i64 ln]) rfl rfl (cells := #[.int .i64 bg, .int .i64 ln]) (by kernel_rfl)) ?_
     refine w_y 6 rfl (wt0 rfl) rfl rfl rfl (by kernel_rfl) (fun _ => x_move rfl rfl) ?_
     refine w_y 7 rfl (wt0 rfl) rfl rfl rfl (by kernel_rfl) (fun _ => x_move rfl rfl) ?_
     refine y_one (i := 8) (by kernel_rfl) rfl ?_
     refine s_call0 H26 (wt0 rfl) (x_call' rfl rfl cl34) (sum_h data (by omega) _) rfl rfl ?_
     intro wq27 H28
     refine y_k (H28.mask [false, false, true, false, false, false, false, false]) (H28.mask [false, false, false, false, false, false, false, false]) ?_
     refine w_y (v := .agg #[.int .i64 p, .string ((sumS data))]) 9 rfl (wt0 rfl) rfl rfl rfl (by kernel_rfl) (fun _ => x_build (vs := [.int .i64 p, .string ((sumS data))]) rfl rfl (cells := #[.int .i64 p, .string ((sumS data))]) (by kernel_rfl)) ?_
     refine y_one (i := 10) (by kernel_rfl) rfl ?_
     refine s_mapUpdate (x := (bg, ln)) (a := (p, (sumS data))) tryT H28 0 (wt0 rfl) rfl rfl rfl rfl rfl rfl ((okP_of hbt.2.2)) ?_
     intro wq29 H30
     refine y_kt rfl (H30.mask [false, false, false, false, false, false, false, false]) ?_
     refine y_done (by kernel_rfl) ?_
     refine g_then ?_
     refine g_weak [] trivial ?_
     refine w_s ?_
     refine w_a ?_
     refine w_e ?_
     refine g_ret ?_
     refine fin_ret [.tmp 8] [.int .i64 0] rfl ⟨rfl, trivial⟩ ?_
     have hnm := H30.famMnew (i := 0) (j := 6) rfl rfl rfl (by decide)
     have H31 : S wq29 [FamM spK snV okP (mg18 :: ms) (upd ct mg18 (upM (fun _ => none) (bg, ln) (p, (sumS data)))), Ob rr (.mapIter none 0 #[] 0), Ob g1 (.cells #[.int .i64 i, .int .i64 bg, .int .i64 ln] 37 (0, 0)), Ob b (.cells #[.map (some m1), .map (some m2), .map (some m3), .map (some m4)] 66 (0, 0)), Mp (Value.int .i64) Value.bool okI m2 bn, Mp (Value.int .i64) mpV okI m3 (upM nw i mg18), Old w (fps [Ob b (.cells #[.map (some m1), .map (some m2), .map (some m3), .map (some m4)] 66 (0, 0)), Mp (Value.int .i64) Value.bool okI m2 bn, Mp (Value.int .i64) mpV okI m3 nw, FamM spK snV okP ms ct])] := S.famMcons (H30.takes [0, 6, 1, 2, 3, 4, 5, 7] (by decide))
     have hno : ∀ s v, tryOf ct (nw i) s = some v → ¬ s.1 = bg := fun s v h => by rw [hn] at h; cases h
     have h5 := sent_none hB hn hnm (s := (bg, ln)) (v := (p, sumS data)) (tok_none.add hbt.2.2 hbt.1 (fun s v h => by cases h))
     exact .inr (.inr (.inr (.inr ⟨hpb, hb10, hb11, hno, _, _, _, h5, rfl, H31.takes [3, 4, 5, 0, 6] (by decide)⟩)))
   ·
    refine g_cond_t rfl (nt hb10) ?_
    refine w_s ?_
    refine w_a ?_
    refine w_e ?_
    refine g_ret ?_
    refine g_in_ret ?_
    refine g_then_ret ?_
    refine fin_ret [.tmp 8] [.int .i64 11] rfl ⟨rfl, trivial⟩ ?_
    exact .inr (.inl ⟨hpb, hb10, rfl, H8.takes [1, 2, 3, 4, 5] (by decide)⟩)
  ·
   refine g_cond_t rfl (neg_of hb9) ?_
   refine w_s ?_
   refine w_a ?_
   refine w_e ?_
   refine g_ret ?_
   refine g_in_ret ?_
   refine g_then_ret ?_
   refine fin_ret [.tmp 8] [.int .i64 7] rfl ⟨rfl, trivial⟩ ?_
   exact .inl ⟨by simp [hb6, hb9], rfl, H8.takes [1, 2, 3, 4, 5] (by decide)⟩
 ·
  refine w_n (neg_of hb6) ?_
  refine w_n (neg_of hb6) ?_
  refine w_n (neg_of hb6) ?_
  refine w_v (v := .bool true) (x_pick_t rfl rfl (neg_of hb6) rfl) ?_
  refine w_a ?_
  refine w_e ?_
  refine g_weak [(0, .pointer (some ⟨b, 0, none⟩)), (1, .int .i64 p), (3, .string data), (6, .pointer (some ⟨g1, 0, none⟩)), (14, .bool true)] ⟨rfl, rfl, rfl, rfl, rfl, trivial⟩ ?_
  refine g_cond_t rfl rfl ?_
  refine w_s ?_
  refine w_a ?_
  refine w_e ?_
  refine g_ret ?_
  refine g_in_ret ?_
  refine g_then_ret ?_
  refine fin_ret [.tmp 8] [.int .i64 7] rfl ⟨rfl, trivial⟩ ?_
  exact .inl ⟨by simp [hb6], rfl, H5.takes [1, 2, 3, 4, 5] (by decide)⟩
theorem sent_s {b m1 m2 m3 m4 : Nat} {bn : Int → Option Bool} {nw : Int → Option Nat} {od : Int → Option (Ro Nat)} {rs : List (Ro Nat)} {ms : List Nat} {ct : Nat → Tr} {p i bg ln : Int} {data : ByteArray} (hB : BI nw od rs ms ct) (hok_p : okI p) (hok_i : okI i) (w : World) (HS : S w [Ob b (.cells #[.map (some m1), .map (some m2), .map (some m3), .map (some m4)] 66 (0, 0)), Mp (Value.int .i64) Value.bool okI m2 bn, Mp (Value.int .i64) mpV okI m3 nw, FamM spK snV okP ms ct]) :
    Calls Try.prog 13 #[.pointer (some ⟨b, 0, none⟩), .int .i64 p, .agg #[.int .i64 i, .int .i64 bg, .int .i64 ln], .string data] w fun e w' => ((peerB p && blockB i bg ln) = false ∧ e = .returned (.int .i64 7) ∧ S w' ([Ob b (.cells #[.map (some m1), .map (some m2), .map (some m3), .map (some m4)] 66 (0, 0)), Mp (Value.int .i64) Value.bool okI m2 bn, Mp (Value.int .i64) mpV okI m3 nw, FamM spK snV okP ms ct] ++ [Old w (fps [Ob b (.cells #[.map (some m1), .map (some m2), .map (some m3), .map (some m4)] 66 (0, 0)), Mp (Value.int .i64) Value.bool okI m2 bn, Mp (Value.int .i64) mpV okI m3 nw, FamM spK snV okP ms ct])])) ∨ ((peerB p && blockB i bg ln) = true ∧ ¬ (data.size : Int) = ln ∧ e = .returned (.int .i64 11) ∧ S w' ([Ob b (.cells #[.map (some m1), .map (some m2), .map (some m3), .map (some m4)] 66 (0, 0)), Mp (Value.int .i64) Value.bool okI m2 bn, Mp (Value.int .i64) mpV okI m3 nw, FamM spK snV okP ms ct] ++ [Old w (fps [Ob b (.cells #[.map (some m1), .map (some m2), .map (some m3), .map (some m4)] 66 (0, 0)), Mp (Value.int .i64) Value.bool okI m2 bn, Mp (Value.int .i64) mpV okI m3 nw, FamM spK snV okP ms ct])])) ∨ ((peerB p && blockB i bg ln) = true ∧ (data.size : Int) = ln ∧ (bn p).getD false = true ∧ e = .returned (.int .i64 20) ∧ S w' ([Ob b (.cells #[.map (some m1), .map (some m2), .map (some m3), .map (some m4)] 66 (0, 0)), Mp (Value.int .i64) Value.bool okI m2 bn, Mp (Value.int .i64) mpV okI m3 nw, FamM spK snV okP ms ct] ++ [Old w (fps [Ob b (.cells #[.map (some m1), .map (some m2), .map (some m3), .map (some m4)] 66 (0, 0)), Mp (Value.int .i64) Value.bool okI m2 bn, Mp (Value.int .i64) mpV okI m3 nw, FamM spK snV okP ms ct])])) ∨ ((peerB p && blockB i bg ln) = true ∧ (data.size : Int) = ln ∧ (bn p).getD false = false ∧ (∃ s v, tryOf ct (nw i) s = some v ∧ s.1 = bg) ∧ e = .returned (.int .i64 6) ∧ S w' ([Ob b (.cells #[.map (some m1), .map (some m2), .map (some m3), .map (some m4)] 66 (0, 0)), Mp (Value.int .i64) Value.bool okI m2 bn, Mp (Value.int .i64) mpV okI m3 nw, FamM spK snV okP ms ct] ++ [Old w (fps [Ob b (.cells #[.map (some m1), .map (some m2), .map (some m3), .map (some m4)] 66 (0, 0)), Mp (Value.int .i64) Value.bool okI m2 bn, Mp (Value.int .i64) mpV okI m3 nw, FamM spK snV okP ms ct])])) ∨ ((peerB p && blockB i bg ln) = true ∧ (data.size : Int) = ln ∧ (bn p).getD false = false ∧ (∀ s v, tryOf ct (nw i) s = some v → ¬ s.1 = bg) ∧ ∃ nw' ms' ct', Sent5 nw nw' od rs ms' ct ct' i (bg, ln) (p, sumS data) ∧ e = .returned (.int .i64 0) ∧ S w' ([Ob b (.cells #[.map (some m1), .map (some m2), .map (some m3), .map (some m4)] 66 (0, 0)), Mp (Value.int .i64) Value.bool okI m2 bn, Mp (Value.int .i64) mpV okI m3 nw', FamM spK snV okP ms' ct'] ++ [Old w (fps [Ob b (.cells #[.map (some m1), .map (some m2), .map (some m3), .map (some m4)] 66 (0, 0)), Mp (Value.int .i64) Value.bool okI m2 bn, Mp (Value.int .i64) mpV okI m3 nw, FamM spK snV okP ms ct])])) := by
  cases hn : nw i with
  | none => have h := sent_0 (bg := bg) (ln := ln) (data := data) hB hok_p hok_i hn w HS; rw [hn] at h; exact h
  | some m => have h := sent_1 (bg := bg) (ln := ln) (data := data) hB hok_p hok_i hn w HS; rw [hn] at h; exact h
set_option maxRecDepth 20000 in
set_option maxHeartbeats 4000000 in
theorem proved_s {b m1 m2 m3 m4 : Nat} {bn : Int → Option Bool} {nw : Int → Option Nat} {od : Int → Option (Ro Nat)} {rs : List (Ro Nat)} {ms : List Nat} {ct : Nat → Tr} {p i bg ln : Int} {gd : Bool} (hB : BI nw od rs ms ct) (hok_p : okI p) (hok_i : okI i)  (w : World) (HS : S w [Ob b (.cells #[.map (some m1), .map (some m2), .map (some m3), .map (some m4)] 66 (0, 0)), Mp (Value.int .i64) Value.bool okI m2 bn, Mp (Value.int .i64) mpV okI m3 nw, FamM spK snV okP ms ct]) : Calls Try.prog 14 #[.pointer (some ⟨b, 0, none⟩), .int .i64 p, .agg #[.int .i64 i, .int .i64 bg, .int .i64 ln], .bool gd] w fun e w' => ((peerB p && blockB i bg ln) = false ∧ e = .returned (.tuple #[.bool false, .int .i64 7]) ∧ S w' ([Ob b (.cells #[.map (some m1), .map (some m2), .map (some m3), .map (some m4)] 66 (0, 0)), Mp (Value.int .i64) Value.bool okI m2 bn, Mp (Value.int .i64) mpV okI m3 nw, FamM spK snV okP ms ct] ++ [Old w (fps [Ob b (.cells #[.map (some m1), .map (some m2), .map (some m3), .map (some m4)] 66 (0, 0)), Mp (Value.int .i64) Value.bool okI m2 bn, Mp (Value.int .i64) mpV okI m3 nw, FamM spK snV okP ms ct])])) ∨ ((peerB p && blockB i bg ln) = true ∧ (∀ d, ¬ tryOf ct (nw i) (bg, ln) = some (p, d)) ∧ e = .returned (.tuple #[.bool false, .int .i64 8]) ∧ S w' ([Ob b (.cells #[.map (some m1), .map (some m2), .map (some m3), .map (some m4)] 66 (0, 0)), Mp (Value.int .i64) Value.bool okI m2 bn, Mp (Value.int .i64) mpV okI m3 nw, FamM spK snV okP ms ct] ++ [Old w (fps [Ob b (.cells #[.map (some m1), .map (some m2), .map (some m3), .map (some m4)] 66 (0, 0)), Mp (Value.int .i64) Value.bool okI m2 bn, Mp (Value.int .i64) mpV okI m3 nw, FamM spK snV okP ms ct])])) ∨ ((peerB p && blockB i bg ln) = true ∧ (∃ d, tryOf ct (nw i) (bg, ln) = some (p, d)) ∧ gd = true ∧ e = .returned (.tuple #[.bool false, .int .i64 0]) ∧ S w' ([Ob b (.cells #[.map (some m1), .map (some m2), .map (some m3), .map (some m4)] 66 (0, 0)), Mp (Value.int .i64) Value.bool okI m2 bn, Mp (Value.int .i64) mpV okI m3 nw, FamM spK snV okP ms ct] ++ [Old w (fps [Ob b (.cells #[.map (some m1), .map (some m2), .map (some m3), .map (some m4)] 66 (0, 0)), Mp (Value.int .i64) Value.bool okI m2 bn, Mp (Value.int .i64) mpV okI m3 nw, FamM spK snV okP ms ct])])) ∨ ((peerB p && blockB i bg ln) = true ∧ (∃ d, tryOf ct (nw i) (bg, ln) = some (p, d)) ∧ gd = false ∧ ∃ m bn', nw i = some m ∧ BanTo bn bn' [p] ∧ e = .returned (.tuple #[.bool (!((bn p).getD false)), .int .i64 0]) ∧ S w' ([Ob b (.cells #[.map (some m1), .map (some m2), .map (some m3), .map (some m4)] 66 (0, 0)), Mp (Value.int .i64) Value.bool okI m2 bn', Mp (Value.int .i64) mpV okI m3 nw, FamM spK snV okP ms (upd ct m (delM (ct m) (bg, ln)))] ++ [Old w (fps [Ob b (.cells #[.map (some m1), .map (some m2), .map (some m3), .map (some m4)] 66 (0, 0)), Mp (Value.int .i64) Value.bool okI m2 bn, Mp (Value.int .i64) mpV okI m3 nw, FamM spK snV okP ms ct])])) := by
 have H0 := HS.beginI
 refine enter 65 Try.func14 rfl rfl rfl ?_
 refine g_weak [(0, .pointer (some ⟨b, 0, none⟩)), (1, .int .i64 p), (2, .agg #[.int .i64 i, .int .i64 bg, .int .i64 ln]), (3, .bool gd)] ⟨rfl, rfl, rfl, rfl, trivial⟩ ?_
 refine w_s ?_
 refine l_of (s_box H0 (wt0 rfl) rfl rfl rfl rfl ?_)
 intro g1 wq2 H3
 refine w_r2 ?_
 refine w_e ?_
 refine g_seq ?_
 refine g_block ?_
 refine w_s ?_
 refine w_m ?_
 refine w_b (v := .bool false) (hb := (b_eqN (r := false) Try.underlying28 rfl)) ?_
 refine w_a ?_
 refine w_e ?_
 refine g_cond_f rfl rfl ?_
 refine w_s ?_
 refine w_m ?_
 refine l_of (s_call0 H3 (wt0 rfl) (x_call' rfl rfl cl32) (peer_s _ _) rfl rfl ?_)
 intro wq4 H5
 refine w_v (v := .bool (!((peerB p)))) (x_not (b := (peerB p)) rfl rfl) ?_
 refine w_m ?_
 rcases Bool.eq_false_or_eq_true ((peerB p)) with hb6 | hb6
 ·
  refine w_g (v := .agg #[.int .i64 i, .int .i64 bg, .int .i64 ln]) (neg_of hb6) (x_loadA H5 0 rfl rfl Try.underlying37 rfl sz37 rfl rfl rfl) ?_
  refine l_of (s_call0 H5 (wt1 rfl rfl rfl rfl (neg_of hb6)) (x_call' rfl rfl cl33) (block_s _ _ _ _) rfl rfl ?_)
  intro wq7 H8
  refine w_g (v := .bool (!((blockB i bg ln)))) (neg_of hb6) (x_not (b := (blockB i bg ln)) rfl rfl) ?_
  refine w_v (v := .bool (!((blockB i bg ln)))) (x_pick_f rfl rfl (neg_of hb6) rfl) ?_
  refine w_a ?_
  refine w_e ?_
  refine g_weak [(0, .pointer (some ⟨b, 0, none⟩)), (1, .int .i64 p), (3, .bool gd), (6, .pointer (some ⟨g1, 0, none⟩)), (16, .bool (!((blockB i bg ln))))] ⟨rfl, rfl, rfl, rfl, rfl, trivial⟩ ?_
  rcases Bool.eq_false_or_eq_true ((blockB i bg ln)) with hb9 | hb9
  ·
   have hpb : (peerB p && blockB i bg ln) = true := by rw [hb6, hb9]; rfl
   have hbt := blockB_true hpb
   refine g_cond_f rfl (neg_of hb9) ?_
   refine g_skip ?_
   refine g_in ?_
   refine g_then ?_
   refine w_s ?_
   refine w_f 1 ?_
   refine w_1 H8 0 ?_
   refine w_f 2 ?_
   refine w_1 H8 0 ?_
   refine w_v (v := .agg #[.int .i64 bg, .int .i64 ln]) (x_build (vs := [.int .i64 bg, .int .i64 ln]) rfl rfl (cells := #[.int .i64 bg, .int .i64 ln]) (by kernel_rfl)) ?_
   refine l_of (s_alloc H8 (wt0 rfl) rfl rfl rfl ze74 ?_)
   intro g10 wq11 H12
   refine l_of (w_st #[.int .i64 bg, .int .i64 ln] H12 0 ?_)
   intro wq13 H14
   refine w_e ?_
   refine g_seq ?_
   refine g_seq ?_
   refine g_anyY [] (fun wx => S wx [Ob g10 (.cells #[.int .i64 bg, .int .i64 ln] 74 (0, 0)), Ob g1 (.cells #[.int .i64 i, .int .i64 bg, .int .i64 ln] 37 (0, 0)), Ob b (.cells #[.map (some m1), .map (some m2), .map (some m3), .map (some m4)] 66 (0, 0)), Mp (Value.int .i64) Value.bool okI m2 bn, Mp (Value.int .i64) mpV okI m3 nw, FamM spK snV okP ms ct, Old w (fps [Ob b (.cells #[.map (some m1), .map (some m2), .map (some m3), .map (some m4)] 66 (0, 0)), Mp (Value.int .i64) Value.bool okI m2 bn, Mp (Value.int .i64) mpV okI m3 nw, FamM spK snV okP ms ct])]) (fun wx => S wx [Ob g10 (.cells #[.int .i64 bg, .int .i64 ln] 74 (0, 0)), Ob g1 (.cells #[.int .i64 i, .int .i64 bg, .int .i64 ln] 37 (0, 0)), Ob b (.cells #[.map (some m1), .map (some m2), .map (some m3), .map (some m4)] 66 (0, 0)), Mp (Value.int .i64) Value.bool okI m2 bn, Mp (Value.int .i64) mpV okI m3 nw, FamM spK snV okP ms ct, Old w (fps [Ob b (.cells #[.map (some m1), .map (some m2), .map (some m3), .map (some m4)] 66 (0, 0)), Mp (Value.int .i64) Value.bool okI m2 bn, Mp (Value.int .i64) mpV okI m3 nw, FamM spK snV okP ms ct])]) [] (by kernel_rfl) H14 (fun wq15 H16 => ?_)
   refine w_y 0 rfl (wt0 rfl) rfl rfl rfl (by kernel_rfl) (fun _ => x_move rfl rfl) ?_
   refine w_y 1 rfl (wt0 rfl) rfl rfl rfl (by kernel_rfl) (fun _ => x_nilCheck rfl rfl) ?_
   refine w_y 2 rfl (wt0 rfl) rfl rfl rfl (by kernel_rfl) (fun _ => x_fieldAddr (off' := 2) rfl rfl fo66_1 rfl) ?_
   refine y_take (v := .map (some m3)) 3 rfl (wt0 rfl) rfl rfl rfl (by kernel_rfl) (by kernel_rfl) (by kernel_rfl) (by kernel_rfl) (by kernel_rfl) H16 (fun wx H => x_load1 H 2 rfl rfl Try.underlying63 rfl rfl rfl) ?_
   refine w_y 4 rfl (wt0 rfl) rfl rfl rfl (by kernel_rfl) (fun _ => x_fieldAddr (off' := 0) rfl rfl fo37_0 rfl) ?_
   refine y_take (v := .int .i64 i) 5 rfl (wt0 rfl) rfl rfl rfl (by kernel_rfl) (by kernel_rfl) (by kernel_rfl) (by kernel_rfl) (by kernel_rfl) H16 (fun wx H => x_load1 H 1 rfl rfl Try.underlying3 rfl rfl rfl) ?_
   refine y_take (v := .map (nw i)) 6 rfl (wt0 rfl) rfl rfl rfl (by kernel_rfl) (by kernel_rfl) (by kernel_rfl) (by kernel_rfl) (by kernel_rfl) H16 (fun wx H => ex_cast (x_lookup1 (x := i) (intTy Try.underlying63 Try.underlying3) H 4 rfl rfl rfl rfl (hok_i) ze70) (look_M _)) ?_
   refine y_take (v := .agg #[.int .i64 bg, .int .i64 ln]) 7 rfl (wt0 rfl) rfl rfl rfl (by kernel_rfl) (by kernel_rfl) (by kernel_rfl) (by kernel_rfl) (by kernel_rfl) H16 (fun wx H => x_loadA H 0 rfl rfl Try.underlying74 rfl sz74 rfl rfl rfl) ?_
   rcases hq : tryOf ct (nw i) (bg, ln) with _ | v
   ·
    refine y_take (v := .tuple #[.agg #[.int .i64 0, .string (⟨#[]⟩)], .bool false]) 8 rfl (wt0 rfl) rfl rfl rfl (by kernel_rfl) (by kernel_rfl) (by kernel_rfl) (by kernel_rfl) (by kernel_rfl) H16 (fun wx H => ex_cast (x_lookTry (s := (bg, ln)) tryT H 5 rfl (hB.nwm i) rfl rfl rfl (okP_of hbt.2.2) ze77) (by rw [hq]; rfl)) ?_
    refine w_y 9 rfl (wt0 rfl) rfl rfl rfl (by kernel_rfl) (fun _ => x_move rfl rfl) ?_
    refine w_y 10 rfl (wt0 rfl) rfl rfl rfl (by kernel_rfl) (fun _ => x_extract rfl rfl rfl) ?_
    refine w_y 11 rfl (wt0 rfl) rfl rfl rfl (by kernel_rfl) (fun _ => x_extract rfl rfl rfl) ?_
    refine y_one (i := 12) (by kernel_rfl) rfl ?_
    refine s_alloc H16 (wt0 rfl) rfl rfl rfl ze77 ?_
    intro g17 wq18 H19
    have cm4 := H19.mask [false, true, true, true, true, true, true, true]
    refine y_k cm4 cm4 ?_
    refine y_one (i := 13) (by kernel_rfl) rfl ?_
    refine w_st #[.int .i64 0, .string (⟨#[]⟩)] H19 0 ?_
    intro wq20 H21
    have cm5 := H21.mask [false, true, true, true, true, true, true, true]
    refine y_k cm5 cm5 ?_
    refine w_y 14 rfl (wt0 rfl) rfl rfl rfl (by kernel_rfl) (fun _ => x_assign rfl rfl) ?_
    refine y_done (by kernel_rfl) ?_
    refine g_then ?_
    refine g_weak [(0, .pointer (some ⟨b, 0, none⟩)), (1, .int .i64 p), (3, .bool gd), (6, .pointer (some ⟨g1, 0, none⟩)), (10, .pointer (some ⟨g10, 0, none⟩)), (11, .pointer (some ⟨g17, 0, none⟩)), (12, .bool false)] ⟨rfl, rfl, rfl, rfl, rfl, rfl, rfl, trivial⟩ ?_
    refine w_s ?_
    refine w_m ?_
    refine w_v (v := .bool true) (x_not (b := false) rfl rfl) ?_
    refine w_m ?_
    refine w_n rfl ?_
    refine w_n rfl ?_
    refine w_n rfl ?_
    refine w_n rfl ?_
    refine w_v (v := .bool true) (x_pick_t rfl rfl rfl rfl) ?_
    refine w_e ?_
    refine g_cond_t rfl rfl ?_
    refine w_s ?_
    refine w_r2 ?_
    refine w_e ?_
    refine g_weak [(8, .bool false), (9, .int .i64 8)] ⟨rfl, rfl, trivial⟩ ?_
    refine g_ret ?_
    refine g_then_ret ?_
    refine fin_ret [.tmp 8, .tmp 9] [.bool false, .int .i64 8] rfl ⟨rfl, rfl, trivial⟩ ?_
    exact .inr (.inl ⟨hpb, (fun d hd => by cases hd), rfl, H21.takes [3, 4, 5, 6, 7] (by decide)⟩)
   ·
    obtain ⟨m, hn⟩ : ∃ m, nw i = some m := by cases hn : nw i with | none => (rw [hn] at hq; cases hq) | some m => exact ⟨m, rfl⟩
    have hms := hB.nwm i m hn
    refine y_take (v := .tuple #[.agg #[.int .i64 (v.1), .string (v.2)], .bool true]) 8 rfl (wt0 rfl) rfl rfl rfl (by kernel_rfl) (by kernel_rfl) (by kernel_rfl) (by kernel_rfl) (by kernel_rfl) H16 (fun wx H => ex_cast (x_lookTry (s := (bg, ln)) tryT H 5 rfl (hB.nwm i) rfl rfl rfl (okP_of hbt.2.2) ze77) (by rw [hq]; rfl)) ?_
    refine w_y 9 rfl (wt0 rfl) rfl rfl rfl (by kernel_rfl) (fun _ => x_move rfl rfl) ?_
    refine w_y 10 rfl (wt0 rfl) rfl rfl rfl (by kernel_rfl) (fun _ => x_extract rfl rfl rfl) ?_
    refine w_y 11 rfl (wt0 rfl) rfl rfl rfl (by kernel_rfl) (fun _ => x_extract rfl rfl rfl) ?_
    refine y_one (i := 12) (by kernel_rfl) rfl ?_
    refine s_alloc H16 (wt0 rfl) rfl rfl rfl ze77 ?_
    intro g22 wq23 H24
    have cm6 := H24.mask [false, true, true, true, true, true, true, true]
    refine y_k cm6 cm6 ?_
    refine y_one (i := 13) (by kernel_rfl) rfl ?_
    refine w_st #[.int .i64 (v.1), .string (v.2)] H24 0 ?_
    intro wq25 H26
    have cm7 := H26.mask [false, true, true, true, true, true, true, true]
    refine y_k cm7 cm7 ?_
    refine w_y 14 rfl (wt0 rfl) rfl rfl rfl (by kernel_rfl) (fun _ => x_assign rfl rfl) ?_
    refine y_done (by kernel_rfl) ?_
    refine g_then ?_
    refine g_weak [(0, .pointer (some ⟨b, 0, none⟩)), (1, .int .i64 p), (3, .bool gd), (6, .pointer (some ⟨g1, 0, none⟩)), (10, .pointer (some ⟨g10, 0, none⟩)), (11, .pointer (some ⟨g22, 0, none⟩)), (12, .bool true)] ⟨rfl, rfl, rfl, rfl, rfl, rfl, rfl, trivial⟩ ?_
    refine w_s ?_
    refine w_m ?_
    refine w_v (v := .bool false) (x_not (b := true) rfl rfl) ?_
    refine w_m ?_
    refine w_g rfl (xf 0) ?_
    refine w_g rfl (xl H26 0) ?_
    refine w_g rfl xm ?_
    refine w_g (v := .bool (!decide ((v.1 : Int) = p))) rfl (x_bin rfl rfl rfl b_neq) ?_
    refine w_v (v := .bool (!decide ((v.1 : Int) = p))) (x_pick_f rfl rfl rfl rfl) ?_
    refine w_e ?_
    by_cases hb27 : (v.1 : Int) = p
    ·
     refine g_cond_f rfl (nf hb27) ?_
     refine g_skip ?_
     refine g_then ?_
     refine g_seq ?_
     refine w_s ?_
     refine w_m ?_
     refine w_e ?_
     rcases Bool.eq_false_or_eq_true (gd) with hb28 | hb28
     ·
      refine g_cond_t rfl hb28 ?_
      refine w_s ?_
      refine w_r2 ?_
      refine w_e ?_
      refine g_weak [(8, .bool false), (9, .int .i64 0)] ⟨rfl, rfl, trivial⟩ ?_
      refine g_ret ?_
      refine g_then_ret ?_
      refine fin_ret [.tmp 8, .tmp 9] [.bool false, .int .i64 0] rfl ⟨rfl, rfl, trivial⟩ ?_
      exact .inr (.inr (.inl ⟨hpb, ⟨v.2, by rw [← hb27]⟩, hb28, rfl, H26.takes [3, 4, 5, 6, 7] (by decide)⟩))
     ·
      refine g_cond_f rfl hb28 ?_
      refine g_skip ?_
      refine g_then ?_
      refine g_weak [(0, .pointer (some ⟨b, 0, none⟩)), (1, .int .i64 p), (6, .pointer (some ⟨g1, 0, none⟩)), (10, .pointer (some ⟨g10, 0, none⟩))] ⟨rfl, rfl, rfl, rfl, trivial⟩ ?_
      refine g_seq ?_
      have hmn := H26.famMnodup (k := 6) rfl
      have H29 : S wq25 [Mp spK snV okP m (ct m), FamM spK snV okP (ms.erase m) ct, Ob g22 (.cells #[.int .i64 (v.1), .string (v.2)] 77 (0, 0)), Ob g10 (.cells #[.int .i64 bg, .int .i64 ln] 74 (0, 0)), Ob g1 (.cells #[.int .i64 i, .int .i64 bg, .int .i64 ln] 37 (0, 0)), Ob b (.cells #[.map (some m1), .map (some m2), .map (some m3), .map (some m4)] 66 (0, 0)), Mp (Value.int .i64) Value.bool okI m2 bn, Mp (Value.int .i64) mpV okI m3 nw, Old w (fps [Ob b (.cells #[.map (some m1), .map (some m2), .map (some m3), .map (some m4)] 66 (0, 0)), Mp (Value.int .i64) Value.bool okI m2 bn, Mp (Value.int .i64) mpV okI m3 nw, FamM spK snV okP ms ct])] := S.famMout (H26.takes [6, 0, 1, 2, 3, 4, 5, 7] (by decide)) hms
      refine g_anyY [] (fun wx => S wx [Mp spK snV okP m (ct m), FamM spK snV okP (ms.erase m) ct, Ob g22 (.cells #[.int .i64 (v.1), .string (v.2)] 77 (0, 0)), Ob g10 (.cells #[.int .i64 bg, .int .i64 ln] 74 (0, 0)), Ob g1 (.cells #[.int .i64 i, .int .i64 bg, .int .i64 ln] 37 (0, 0)), Ob b (.cells #[.map (some m1), .map (some m2), .map (some m3), .map (some m4)] 66 (0, 0)), Mp (Value.int .i64) Value.bool okI m2 bn, Mp (Value.int .i64) mpV okI m3 nw, Old w (fps [Ob b (.cells #[.map (some m1), .map (some m2), .map (some m3), .map (some m4)] 66 (0, 0)), Mp (Value.int .i64) Value.bool okI m2 bn, Mp (Value.int .i64) mpV okI m3 nw, FamM spK snV okP ms ct])]) (fun wx => S wx [FamM spK snV okP (ms.erase m) ct, Old w (fps [Ob b (.cells #[.map (some m1), .map (some m2), .map (some m3), .map (some m4)] 66 (0, 0)), Mp (Value.int .i64) Value.bool okI m2 bn, Mp (Value.int .i64) mpV okI m3 nw, FamM spK snV okP ms ct])]) [8] (by kernel_rfl) H29 (fun wq30 H31 => ?_)
      refine w_y 0 rfl (wt0 rfl) rfl rfl rfl (by kernel_rfl) (fun _ => x_move rfl rfl) ?_
      refine w_y 1 rfl (wt0 rfl) rfl rfl rfl (by kernel_rfl) (fun _ => x_nilCheck rfl rfl) ?_
      refine w_y 2 rfl (wt0 rfl) rfl rfl rfl (by kernel_rfl) (fun _ => x_fieldAddr (off' := 2) rfl rfl fo66_1 rfl) ?_
      refine y_take (v := .map (some m3)) 3 rfl (wt0 rfl) rfl rfl rfl (by kernel_rfl) (by kernel_rfl) (by kernel_rfl) (by kernel_rfl) (by kernel_rfl) H31 (fun wx H => x_load1 H 5 rfl rfl Try.underlying63 rfl rfl rfl) ?_
      refine w_y 4 rfl (wt0 rfl) rfl rfl rfl (by kernel_rfl) (fun _ => x_fieldAddr (off' := 0) rfl rfl fo37_0 rfl) ?_
      refine y_take (v := .int .i64 i) 5 rfl (wt0 rfl) rfl rfl rfl (by kernel_rfl) (by kernel_rfl) (by kernel_rfl) (by kernel_rfl) (by kernel_rfl) H31 (fun wx H => x_load1 H 4 rfl rfl Try.underlying3 rfl rfl rfl) ?_
      refine y_take (v := .map (some m)) 6 rfl (wt0 rfl) rfl rfl rfl (by kernel_rfl) (by kernel_rfl) (by kernel_rfl) (by kernel_rfl) (by kernel_rfl) H31 (fun wx H => ex_cast (x_lookup1 (x := i) (intTy Try.underlying63 Try.underlying3) H 7 rfl rfl rfl rfl (hok_i) ze70) ((look_M _).trans (by rw [hn]))) ?_
      refine y_take (v := .agg #[.int .i64 bg, .int .i64 ln]) 7 rfl (wt0 rfl) rfl rfl rfl (by kernel_rfl) (by kernel_rfl) (by kernel_rfl) (by kernel_rfl) (by kernel_rfl) H31 (fun wx H => x_loadA H 3 rfl rfl Try.underlying74 rfl sz74 rfl rfl rfl) ?_
      refine y_one (i := 8) (by kernel_rfl) rfl ?_
      refine s_delete (x := (bg, ln)) tryT H31 0 (wt0 rfl) rfl rfl rfl rfl rfl ((okP_of hbt.2.2)) ?_
      intro wq32 H33
      refine y_kt rfl (H33.mask [false, true, false, false, false, false, false, false, true]) ?_
      refine y_done (by kernel_rfl) ?_
      refine g_then ?_
      refine w_s ?_
      refine w_r2 ?_
      refine l_of (s_buildSlice H33 (wt0 rfl) rfl rfl rfl (vs := [.int .i64 p]) rfl Try.underlying24 sz3 ze3 rfl rfl (cells := #[.int .i64 p]) (by kernel_rfl) ?_)
      intro g34 wq35 H36
      have H37 : S wq35 [Rw 3 1 (some ⟨g34, 0, none⟩) 1 1 (zV [p]), Mp spK snV okP m (delM (ct m) (bg, ln)), FamM spK snV okP (ms.erase m) ct, Ob g22 (.cells #[.int .i64 (v.1), .string (v.2)] 77 (0, 0)), Ob g10 (.cells #[.int .i64 bg, .int .i64 ln] 74 (0, 0)), Ob g1 (.cells #[.int .i64 i, .int .i64 bg, .int .i64 ln] 37 (0, 0)), Ob b (.cells #[.map (some m1), .map (some m2), .map (some m3), .map (some m4)] 66 (0, 0)), Mp (Value.int .i64) Value.bool okI m2 bn, Mp (Value.int .i64) mpV okI m3 nw, Old w (fps [Ob b (.cells #[.map (some m1), .map (some m2), .map (some m3), .map (some m4)] 66 (0, 0)), Mp (Value.int .i64) Value.bool okI m2 bn, Mp (Value.int .i64) mpV okI m3 nw, FamM spK snV okP ms ct])] := H36.obRw (k := 0) (size := 1) (n := 1) rfl rfl (by decide)
      refine l_of (s_call (wt0 rfl) (x_call' rfl rfl cl35) (ban_s (l := [p]) rfl (by simp) (fun x hx => by rw [List.mem_singleton] at hx; subst hx; exact hok_p) _ (H37.takes [6, 7, 0] (by decide))) ?_)
      rintro _ wq38 ⟨bn', p2, c2, hbn, rfl, H39⟩
      replace H39 : S wq38 [Rw 3 1 p2 (newL bn [p]).length c2 (zV (newL bn [p])), Ob b (.cells #[.map (some m1), .map (some m2), .map (some m3), .map (some m4)] 66 (0, 0)), Mp (Value.int .i64) Value.bool okI m2 bn', Mp spK snV okP m (delM (ct m) (bg, ln)), FamM spK snV okP (ms.erase m) ct, Ob g22 (.cells #[.int .i64 (v.1), .string (v.2)] 77 (0, 0)), Ob g10 (.cells #[.int .i64 bg, .int .i64 ln] 74 (0, 0)), Ob g1 (.cells #[.int .i64 i, .int .i64 bg, .int .i64 ln] 37 (0, 0)), Mp (Value.int .i64) mpV okI m3 nw, Old w (fps [Ob b (.cells #[.map (some m1), .map (some m2), .map (some m3), .map (some m4)] 66 (0, 0)), Mp (Value.int .i64) Value.bool okI m2 bn, Mp (Value.int .i64) mpV okI m3 nw, FamM spK snV okP ms ct])] := by have h := H37.absorbI [6, 7, 0] H39; exact h
      refine b_ret rfl rfl ?_
      refine w_v (v := .int .i64 (((newL bn [p]).length : Int))) (x_lenl rfl rfl Try.underlying24) ?_
      refine w_v (v := .bool ((!((bn p).getD false)))) (ex_cast (x_bin rfl rfl rfl b_gtr) (congrArg Value.bool newL_one)) ?_
      refine w_r2 ?_
      refine w_e ?_
      refine g_weak [(8, .bool ((!((bn p).getD false)))), (9, .int .i64 0)] ⟨rfl, rfl, trivial⟩ ?_
      refine g_ret ?_
      refine fin_ret [.tmp 8, .tmp 9] [.bool ((!((bn p).getD false))), .int .i64 0] rfl ⟨rfl, rfl, trivial⟩ ?_
      have H40 := S.famMin (H39.takes [3, 4, 0, 1, 2, 5, 6, 7, 8, 9] (by decide)) hms hmn
      exact .inr (.inr (.inr ⟨hpb, ⟨v.2, by rw [← hb27]⟩, hb28, m, bn', hn, hbn, rfl, H40.takes [2, 3, 7, 0, 8] (by decide)⟩))
    ·
     refine g_cond_t rfl (nt hb27) ?_
     refine w_s ?_
     refine w_r2 ?_
     refine w_e ?_
     refine g_weak [(8, .bool false), (9, .int .i64 8)] ⟨rfl, rfl, trivial⟩ ?_
     refine g_ret ?_
     refine g_then_ret ?_
     refine fin_ret [.tmp 8, .tmp 9] [.bool false, .int .i64 8] rfl ⟨rfl, rfl, trivial⟩ ?_
     exact .inr (.inl ⟨hpb, (fun d hd => by cases hd; exact hb27 rfl), rfl, H26.takes [3, 4, 5, 6, 7] (by decide)⟩)
  ·
   refine g_cond_t rfl (neg_of hb9) ?_
   refine w_s ?_
   refine w_r2 ?_
   refine w_e ?_
   refine g_ret ?_
   refine g_in_ret ?_
   refine g_then_ret ?_
   refine fin_ret [.tmp 8, .tmp 9] [.bool false, .int .i64 7] rfl ⟨rfl, rfl, trivial⟩ ?_
   exact .inl ⟨by simp [hb6, hb9], rfl, H8.takes [1, 2, 3, 4, 5] (by decide)⟩
 ·
  refine w_n (neg_of hb6) ?_
  refine w_n (neg_of hb6) ?_
  refine w_n (neg_of hb6) ?_
  refine w_v (v := .bool true) (x_pick_t rfl rfl (neg_of hb6) rfl) ?_
  refine w_a ?_
  refine w_e ?_
  refine g_weak [(0, .pointer (some ⟨b, 0, none⟩)), (1, .int .i64 p), (3, .bool gd), (6, .pointer (some ⟨g1, 0, none⟩)), (16, .bool true)] ⟨rfl, rfl, rfl, rfl, rfl, trivial⟩ ?_
  refine g_cond_t rfl rfl ?_
  refine w_s ?_
  refine w_r2 ?_
  refine w_e ?_
  refine g_ret ?_
  refine g_in_ret ?_
  refine g_then_ret ?_
  refine fin_ret [.tmp 8, .tmp 9] [.bool false, .int .i64 7] rfl ⟨rfl, rfl, trivial⟩ ?_
  exact .inl ⟨by simp [hb6], rfl, H5.takes [1, 2, 3, 4, 5] (by decide)⟩
end Go.Proofs.Ytlikhpfdncidkaa
