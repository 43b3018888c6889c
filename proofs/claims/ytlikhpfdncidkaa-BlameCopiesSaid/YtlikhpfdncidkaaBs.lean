import Derived.Test.YtlikhpfdncidkaaFk
import Derived.Test.YtlikhpfdncidkaaBr
set_option linter.unusedSimpArgs false
set_option linter.unusedVariables false
namespace Go.Proofs.Ytlikhpfdncidkaa
open Go.RowKit

theorem cl11 : callable Try.prog 11 = true := by kernel_rfl
theorem cl32 : callable Try.prog 32 = true := by kernel_rfl
theorem may_no {bn : Int → Option Bool} {nw : Int → Option Nat} {od : Int → Option (Ro Nat)} {ct : Nat → Tr} {p i : Int} (h : (peerB p && pieceB i && !((bn p).getD false)) = false) : mayB bn nw od ct p i = false := by unfold mayB; rw [h]; rfl
theorem may_yes {bn : Int → Option Bool} {nw : Int → Option Nat} {od : Int → Option (Ro Nat)} {ct : Nat → Tr} {p i : Int} (h1 : peerB p = true) (h2 : pieceB i = true) (h3 : (bn p).getD false = false) (h : ∀ x ∈ whoL (tryOf ct (nw i)), (decide (x = p) || !(parB bn od ct p || parB bn od ct x)) = true) : mayB bn nw od ct p i = true := by
  unfold mayB; rw [h1, h2, h3, List.all_eq_true.2 h]; rfl
theorem may_out {bn : Int → Option Bool} {nw : Int → Option Nat} {od : Int → Option (Ro Nat)} {ct : Nat → Tr} {p i x : Int} (hx : x ∈ whoL (tryOf ct (nw i))) (h : (decide (x = p) || !(parB bn od ct p || parB bn od ct x)) = false) : mayB bn nw od ct p i = false := by
  have : ((whoL (tryOf ct (nw i))).all fun x => decide (x = p) || !(parB bn od ct p || parB bn od ct x)) = false := by
    cases hq : (whoL (tryOf ct (nw i))).all fun x => decide (x = p) || !(parB bn od ct p || parB bn od ct x) with
    | false => rfl
    | true => rw [List.all_eq_true.1 hq x hx] at h; cases h
  unfold mayB; rw [this, Bool.and_false]
set_option maxRecDepth 20000 in
set_option maxHeartbeats 4000000 in
set_option maxRecDepth 20000 in
set_option maxHeartbeats 4000000 in
theorem may_s {b m1 m2 m3 m4 : Nat} {bn : Int → Option Bool} {nw : Int → Option Nat} {od : Int → Option (Ro Nat)} {rs : List (Ro Nat)} {ms : List Nat} {ct : Nat → Tr} (hB : BI nw od rs ms ct) {p i : Int} (hok_p : okI p) (hok_i : okI i)  (w : World) (HS : S w [Ob b (.cells #[.map (some m1), .map (some m2), .map (some m3), .map (some m4)] 66 (0, 0)), Mp (Value.int .i64) Value.bool okI m2 bn, Mp (Value.int .i64) mpV okI m3 nw, Mp (Value.int .i64) roV okI m4 od, FamM spK snV okP ms ct, RowsI 70 1 mpL rs]) : Calls Try.prog 17 #[.pointer (some ⟨b, 0, none⟩), .int .i64 p, .int .i64 i] w fun e w' => e = .returned (.bool (mayB bn nw od ct p i)) ∧ S w' ([Ob b (.cells #[.map (some m1), .map (some m2), .map (some m3), .map (some m4)] 66 (0, 0)), Mp (Value.int .i64) Value.bool okI m2 bn, Mp (Value.int .i64) mpV okI m3 nw, Mp (Value.int .i64) roV okI m4 od, FamM spK snV okP ms ct, RowsI 70 1 mpL rs] ++ [Old w (fps [Ob b (.cells #[.map (some m1), .map (some m2), .map (some m3), .map (some m4)] 66 (0, 0)), Mp (Value.int .i64) Value.bool okI m2 bn, Mp (Value.int .i64) mpV okI m3 nw, Mp (Value.int .i64) roV okI m4 od, FamM spK snV okP ms ct, RowsI 70 1 mpL rs])]) := by
 have H0 := HS.beginI
 refine enter_m 52 Try.func17 rfl rfl rfl ?_
 have hL : ¬ LetsOut (bodyPostM (WF none) 9 Try.prog Try.f17 fun e w' => e = .returned (.bool (mayB bn nw od ct p i)) ∧ S w' ([Ob b (.cells #[.map (some m1), .map (some m2), .map (some m3), .map (some m4)] 66 (0, 0)), Mp (Value.int .i64) Value.bool okI m2 bn, Mp (Value.int .i64) mpV okI m3 nw, Mp (Value.int .i64) roV okI m4 od, FamM spK snV okP ms ct, RowsI 70 1 mpL rs] ++ [Old w (fps [Ob b (.cells #[.map (some m1), .map (some m2), .map (some m3), .map (some m4)] 66 (0, 0)), Mp (Value.int .i64) Value.bool okI m2 bn, Mp (Value.int .i64) mpV okI m3 nw, Mp (Value.int .i64) roV okI m4 od, FamM spK snV okP ms ct, RowsI 70 1 mpL rs])])) := by
  rintro ⟨_, _, h⟩
  simp only [bodyPostM, reduceCtorEq, false_and, and_false, exists_false, or_false, or_self, exists_const] at h
 refine g_weak [(0, .pointer (some ⟨b, 0, none⟩)), (1, .int .i64 p), (2, .int .i64 i)] ⟨rfl, rfl, rfl, trivial⟩ ?_
 refine R.g_seq ?_
 refine R.g_region ?_
 refine R.l_of rfl (fun h => hL h) (s_box H0 (wt0 rfl) rfl rfl rfl rfl ?_)
 intro g1 wq2 H3
 refine R.l_of rfl (fun h => hL h) (s_box H3 (wt0 rfl) rfl rfl rfl rfl ?_)
 intro g4 wq5 H6
 refine R.l_of rfl (fun h => hL h) (s_alloc H6 (wt0 rfl) rfl rfl rfl ze4 ?_)
 intro g7 wq8 H9
 refine R.g_nil ?_
 refine g_then ?_
 refine R.g_seq ?_
 refine R.g_seq ?_
 refine R.g_anyY [] (fun wx => S wx [Ob g7 (.cells #[.bool false] 4 (0, 0)), Ob g4 (.cells #[.int .i64 p] 3 (0, 0)), Ob g1 (.cells #[.pointer (some ⟨b, 0, none⟩)] 28 (0, 0)), Ob b (.cells #[.map (some m1), .map (some m2), .map (some m3), .map (some m4)] 66 (0, 0)), Mp (Value.int .i64) Value.bool okI m2 bn, Mp (Value.int .i64) mpV okI m3 nw, Mp (Value.int .i64) roV okI m4 od, FamM spK snV okP ms ct, RowsI 70 1 mpL rs, Old w (fps [Ob b (.cells #[.map (some m1), .map (some m2), .map (some m3), .map (some m4)] 66 (0, 0)), Mp (Value.int .i64) Value.bool okI m2 bn, Mp (Value.int .i64) mpV okI m3 nw, Mp (Value.int .i64) roV okI m4 od, FamM spK snV okP ms ct, RowsI 70 1 mpL rs])]) (fun wx => S wx [Ob g7 (.cells #[.bool false] 4 (0, 0)), Ob g4 (.cells #[.int .i64 p] 3 (0, 0)), Ob g1 (.cells #[.pointer (some ⟨b, 0, none⟩)] 28 (0, 0)), Ob b (.cells #[.map (some m1), .map (some m2), .map (some m3), .map (some m4)] 66 (0, 0)), Mp (Value.int .i64) Value.bool okI m2 bn, Mp (Value.int .i64) mpV okI m3 nw, Mp (Value.int .i64) roV okI m4 od, FamM spK snV okP ms ct, RowsI 70 1 mpL rs, Old w (fps [Ob b (.cells #[.map (some m1), .map (some m2), .map (some m3), .map (some m4)] 66 (0, 0)), Mp (Value.int .i64) Value.bool okI m2 bn, Mp (Value.int .i64) mpV okI m3 nw, Mp (Value.int .i64) roV okI m4 od, FamM spK snV okP ms ct, RowsI 70 1 mpL rs])]) [] (by kernel_rfl) (by kernel_rfl) (fun h => hL h) H9 (fun wq10 H11 => ?_)
 refine y_take (v := .pointer (some ⟨b, 0, none⟩)) 0 rfl (wt0 rfl) rfl rfl rfl (by kernel_rfl) (by kernel_rfl) (by kernel_rfl) (by kernel_rfl) (by kernel_rfl) H11 (fun wx H => x_load1 H 2 rfl rfl Try.underlying28 rfl rfl rfl) ?_
 refine y_pure (v := .bool false) 1 rfl (wt0 rfl) rfl rfl rfl (by kernel_rfl) (by kernel_rfl) (by kernel_rfl) (by kernel_rfl) (fun wx => x_bin rfl rfl rfl (b_eqN (r := false) Try.underlying28 rfl)) ?_
 refine y_pure (v := .bool false) 2 rfl (wt0 rfl) rfl rfl rfl (by kernel_rfl) (by kernel_rfl) (by kernel_rfl) (by kernel_rfl) (fun wx => x_move rfl rfl) ?_
 refine y_take (v := .int .i64 p) 3 rfl (wt1 rfl rfl rfl rfl rfl) rfl rfl rfl (by kernel_rfl) (by kernel_rfl) (by kernel_rfl) (by kernel_rfl) (by kernel_rfl) H11 (fun wx H => x_load1 H 1 rfl rfl Try.underlying3 rfl rfl rfl) ?_
 refine y_one (i := 4) (by kernel_rfl) rfl ?_
 refine s_call (wt1 rfl rfl rfl rfl rfl) (x_call' rfl rfl cl32) (peer_s _ _) ?_
 rintro _ wq12 ⟨rfl, H13⟩
 replace H13 : S wq12 [Ob g7 (.cells #[.bool false] 4 (0, 0)), Ob g4 (.cells #[.int .i64 p] 3 (0, 0)), Ob g1 (.cells #[.pointer (some ⟨b, 0, none⟩)] 28 (0, 0)), Ob b (.cells #[.map (some m1), .map (some m2), .map (some m3), .map (some m4)] 66 (0, 0)), Mp (Value.int .i64) Value.bool okI m2 bn, Mp (Value.int .i64) mpV okI m3 nw, Mp (Value.int .i64) roV okI m4 od, FamM spK snV okP ms ct, RowsI 70 1 mpL rs, Old w (fps [Ob b (.cells #[.map (some m1), .map (some m2), .map (some m3), .map (some m4)] 66 (0, 0)), Mp (Value.int .i64) Value.bool okI m2 bn, Mp (Value.int .i64) mpV okI m3 nw, Mp (Value.int .i64) roV okI m4 od, FamM spK snV okP ms ct, RowsI 70 1 mpL rs])] := H11.absorb (new := []) H13
 refine b_ret rfl rfl ?_
 refine y_k H13 H13 ?_
 refine y_pure (v := .bool (!((peerB p)))) 5 rfl (wt1 rfl rfl rfl rfl rfl) rfl rfl rfl (by kernel_rfl) (by kernel_rfl) (by kernel_rfl) (by kernel_rfl) (fun wx => x_not (b := (peerB p)) rfl rfl) ?_
 refine y_pure (v := .bool (!((peerB p)))) 6 rfl (wt0 rfl) rfl rfl rfl (by kernel_rfl) (by kernel_rfl) (by kernel_rfl) (by kernel_rfl) (fun wx => x_pick_f rfl rfl rfl rfl) ?_
 refine y_pure (v := .bool (!((peerB p)))) 7 rfl (wt0 rfl) rfl rfl rfl (by kernel_rfl) (by kernel_rfl) (by kernel_rfl) (by kernel_rfl) (fun wx => x_move rfl rfl) ?_
 rcases Bool.eq_false_or_eq_true ((peerB p)) with hb14 | hb14
 ·
  refine y_pure (v := .int .i64 i) 8 rfl (wt1 rfl rfl rfl rfl (neg_of hb14)) rfl rfl rfl (by kernel_rfl) (by kernel_rfl) (by kernel_rfl) (by kernel_rfl) (fun wx => x_move rfl rfl) ?_
  refine y_one (i := 9) (by kernel_rfl) rfl ?_
  refine s_call (wt1 rfl rfl rfl rfl (neg_of hb14)) (x_call' rfl rfl cl39) (piece_s _ _) ?_
  rintro _ wq15 ⟨rfl, H16⟩
  replace H16 : S wq15 [Ob g7 (.cells #[.bool false] 4 (0, 0)), Ob g4 (.cells #[.int .i64 p] 3 (0, 0)), Ob g1 (.cells #[.pointer (some ⟨b, 0, none⟩)] 28 (0, 0)), Ob b (.cells #[.map (some m1), .map (some m2), .map (some m3), .map (some m4)] 66 (0, 0)), Mp (Value.int .i64) Value.bool okI m2 bn, Mp (Value.int .i64) mpV okI m3 nw, Mp (Value.int .i64) roV okI m4 od, FamM spK snV okP ms ct, RowsI 70 1 mpL rs, Old w (fps [Ob b (.cells #[.map (some m1), .map (some m2), .map (some m3), .map (some m4)] 66 (0, 0)), Mp (Value.int .i64) Value.bool okI m2 bn, Mp (Value.int .i64) mpV okI m3 nw, Mp (Value.int .i64) roV okI m4 od, FamM spK snV okP ms ct, RowsI 70 1 mpL rs])] := H13.absorb (new := []) H16
  refine b_ret rfl rfl ?_
  refine y_k H16 H16 ?_
  refine y_pure (v := .bool (!((pieceB i)))) 10 rfl (wt1 rfl rfl rfl rfl (neg_of hb14)) rfl rfl rfl (by kernel_rfl) (by kernel_rfl) (by kernel_rfl) (by kernel_rfl) (fun wx => x_not (b := (pieceB i)) rfl rfl) ?_
  refine y_pure (v := .bool (!((pieceB i)))) 11 rfl (wt0 rfl) rfl rfl rfl (by kernel_rfl) (by kernel_rfl) (by kernel_rfl) (by kernel_rfl) (fun wx => x_pick_f rfl rfl (neg_of hb14) rfl) ?_
  refine y_pure (v := .bool (!((pieceB i)))) 12 rfl (wt0 rfl) rfl rfl rfl (by kernel_rfl) (by kernel_rfl) (by kernel_rfl) (by kernel_rfl) (fun wx => x_move rfl rfl) ?_
  rcases Bool.eq_false_or_eq_true ((pieceB i)) with hb17 | hb17
  ·
   refine y_take (v := .pointer (some ⟨b, 0, none⟩)) 13 rfl (wt1 rfl rfl rfl rfl (neg_of hb17)) rfl rfl rfl (by kernel_rfl) (by kernel_rfl) (by kernel_rfl) (by kernel_rfl) (by kernel_rfl) H16 (fun wx H => x_load1 H 2 rfl rfl Try.underlying28 rfl rfl rfl) ?_
   refine y_pure (v := .pointer (some ⟨b, 0, none⟩)) 14 rfl (wt1 rfl rfl rfl rfl (neg_of hb17)) rfl rfl rfl (by kernel_rfl) (by kernel_rfl) (by kernel_rfl) (by kernel_rfl) (fun wx => x_nilCheck rfl rfl) ?_
   refine y_pure (v := .pointer (some ⟨b, 0, none⟩)) 15 rfl (wt1 rfl rfl rfl rfl (neg_of hb17)) rfl rfl rfl (by kernel_rfl) (by kernel_rfl) (by kernel_rfl) (by kernel_rfl) (fun wx => x_fieldAddr rfl rfl fo66_0 rfl) ?_
   refine y_pure (v := .pointer (some ⟨b, 1, none⟩)) 16 rfl (wt1 rfl rfl rfl rfl (neg_of hb17)) rfl rfl rfl (by kernel_rfl) (by kernel_rfl) (by kernel_rfl) (by kernel_rfl) (fun wx => x_fieldAddr rfl rfl fo62_1 rfl) ?_
   refine y_take (v := .map (some m2)) 17 rfl (wt1 rfl rfl rfl rfl (neg_of hb17)) rfl rfl rfl (by kernel_rfl) (by kernel_rfl) (by kernel_rfl) (by kernel_rfl) (by kernel_rfl) H16 (fun wx H => x_load1 H 3 rfl rfl Try.underlying29 rfl rfl rfl) ?_
   refine y_take (v := .int .i64 p) 18 rfl (wt1 rfl rfl rfl rfl (neg_of hb17)) rfl rfl rfl (by kernel_rfl) (by kernel_rfl) (by kernel_rfl) (by kernel_rfl) (by kernel_rfl) H16 (fun wx H => x_load1 H 1 rfl rfl Try.underlying3 rfl rfl rfl) ?_
   refine y_take (v := .bool (((bn p).getD false))) 19 rfl (wt1 rfl rfl rfl rfl (neg_of hb17)) rfl rfl rfl (by kernel_rfl) (by kernel_rfl) (by kernel_rfl) (by kernel_rfl) (by kernel_rfl) H16 (fun wx H => ex_cast (x_lookup1 (x := p) (intTy Try.underlying29 Try.underlying3) H 4 rfl rfl rfl rfl (hok_p) ze4) (look_B _)) ?_
   refine y_pure (v := .bool (((bn p).getD false))) 20 rfl (wt0 rfl) rfl rfl rfl (by kernel_rfl) (by kernel_rfl) (by kernel_rfl) (by kernel_rfl) (fun wx => x_pick_f rfl rfl (neg_of hb17) rfl) ?_
   refine y_done (by kernel_rfl) ?_
   refine g_then ?_
   refine g_weak [(2, .int .i64 i), (3, .pointer (some ⟨g1, 0, none⟩)), (4, .pointer (some ⟨g4, 0, none⟩)), (6, .pointer (some ⟨g7, 0, none⟩)), (29, .bool (((bn p).getD false)))] ⟨rfl, rfl, rfl, rfl, rfl, trivial⟩ ?_
   rcases Bool.eq_false_or_eq_true (((bn p).getD false)) with hb18 | hb18
   ·
    refine R.g_cond_t rfl hb18 ?_
    refine R.g_seq ?_
    refine R.g_region ?_
    refine R.l_of rfl (fun h => hL h) (s_store H16 0 (wt0 rfl) rfl rfl rfl rfl rfl sz4 rfl rfl (cs' := #[.bool false]) rfl ?_)
    intro wq19 H20
    refine R.g_nil ?_
    refine g_then ?_
    refine R.g_ret ?_
    refine g_then_ret ?_
    refine fin_plain [.cell 6 4] [.bool false] rfl ⟨⟨_, rfl, run_load1 Try.underlying4 rfl (H20.cell (k := 0) rfl rfl)⟩, trivial⟩ ?_
    exact ⟨by rw [may_no (by simp [hb14, hb17, hb18])]; rfl, H20.takes [3, 4, 5, 6, 7, 8, 9] (by decide)⟩
   ·
    refine R.g_cond_f rfl hb18 ?_
    refine R.g_skip ?_
    refine g_then ?_
    refine R.g_seq ?_
    refine R.g_region ?_
    refine R.l_of rfl (fun h => hL h) (s_val (v := .pointer (some ⟨b, 0, none⟩)) (wt0 rfl) rfl rfl (x_load1 H16 2 rfl rfl Try.underlying28 rfl rfl rfl) ?_)
    refine R.l_of rfl (fun h => hL h) (s_val (v := .int .i64 p) (wt0 rfl) rfl rfl (x_load1 H16 1 rfl rfl Try.underlying3 rfl rfl rfl) ?_)
    refine R.l_of rfl (fun h => hL h) (s_call (wt0 rfl) (x_call' rfl rfl cl11) (parole_s hB hok_p _ (H16.takes [3, 4, 6, 7, 8] (by decide))) ?_)
    rintro _ wq21 ⟨rfl, H22⟩
    replace H22 : S wq21 [Ob b (.cells #[.map (some m1), .map (some m2), .map (some m3), .map (some m4)] 66 (0, 0)), Mp (Value.int .i64) Value.bool okI m2 bn, Mp (Value.int .i64) roV okI m4 od, FamM spK snV okP ms ct, RowsI 70 1 mpL rs, Ob g7 (.cells #[.bool false] 4 (0, 0)), Ob g4 (.cells #[.int .i64 p] 3 (0, 0)), Ob g1 (.cells #[.pointer (some ⟨b, 0, none⟩)] 28 (0, 0)), Mp (Value.int .i64) mpV okI m3 nw, Old w (fps [Ob b (.cells #[.map (some m1), .map (some m2), .map (some m3), .map (some m4)] 66 (0, 0)), Mp (Value.int .i64) Value.bool okI m2 bn, Mp (Value.int .i64) mpV okI m3 nw, Mp (Value.int .i64) roV okI m4 od, FamM spK snV okP ms ct, RowsI 70 1 mpL rs])] := H16.absorbI (new := [Ob b (.cells #[.map (some m1), .map (some m2), .map (some m3), .map (some m4)] 66 (0, 0)), Mp (Value.int .i64) Value.bool okI m2 bn, Mp (Value.int .i64) roV okI m4 od, FamM spK snV okP ms ct, RowsI 70 1 mpL rs]) [3, 4, 6, 7, 8] H22
    refine b_ret rfl rfl ?_
    refine R.l_of rfl (fun h => hL h) (s_alloc H22 (wt0 rfl) rfl rfl rfl ze4 ?_)
    intro g23 wq24 H25
    refine R.l_of rfl (fun h => hL h) (s_store H25 0 (wt0 rfl) rfl rfl rfl rfl rfl sz4 rfl rfl (cs' := #[.bool ((parB bn od ct p))]) rfl ?_)
    intro wq26 H27
    refine R.g_nil ?_
    refine g_then ?_
    refine R.g_seq ?_
    refine R.g_seq ?_
    refine R.g_region ?_
    refine R.l_of rfl (fun h => hL h) (s_val (v := .pointer (some ⟨b, 0, none⟩)) (wt0 rfl) rfl rfl (x_load1 H27 8 rfl rfl Try.underlying28 rfl rfl rfl) ?_)
    refine R.l_of rfl (fun h => hL h) (s_val (v := .pointer (some ⟨b, 0, none⟩)) (wt0 rfl) rfl rfl (x_nilCheck rfl rfl) ?_)
    refine R.l_of rfl (fun h => hL h) (s_val (v := .pointer (some ⟨b, 2, none⟩)) (wt0 rfl) rfl rfl (x_fieldAddr rfl rfl fo66_1 rfl) ?_)
    refine R.l_of rfl (fun h => hL h) (s_val (v := .map (some m3)) (wt0 rfl) rfl rfl (x_load1 H27 1 rfl rfl Try.underlying63 rfl rfl rfl) ?_)
    refine R.l_of rfl (fun h => hL h) (s_val (v := .int .i64 i) (wt0 rfl) rfl rfl (x_move rfl rfl) ?_)
    refine R.l_of rfl (fun h => hL h) (s_val (v := .map (nw i)) (wt0 rfl) rfl rfl (ex_cast (x_lookup1 (x := i) (intTy Try.underlying63 Try.underlying3) H27 9 rfl rfl rfl rfl (hok_i) ze70) (look_M _)) ?_)
    refine R.l_of rfl (fun h => hL h) (s_call (wt0 rfl) (x_call' rfl rfl cl37) (all_s _ _) ?_)
    rintro _ wq29 ⟨b28, rfl, H30⟩
    replace H30 : S wq29 [Ob b28 (.cells #[.map (nw i)] 70 (0, 0)), Ob g23 (.cells #[.bool ((parB bn od ct p))] 4 (0, 0)), Ob b (.cells #[.map (some m1), .map (some m2), .map (some m3), .map (some m4)] 66 (0, 0)), Mp (Value.int .i64) Value.bool okI m2 bn, Mp (Value.int .i64) roV okI m4 od, FamM spK snV okP ms ct, RowsI 70 1 mpL rs, Ob g7 (.cells #[.bool false] 4 (0, 0)), Ob g4 (.cells #[.int .i64 p] 3 (0, 0)), Ob g1 (.cells #[.pointer (some ⟨b, 0, none⟩)] 28 (0, 0)), Mp (Value.int .i64) mpV okI m3 nw, Old w (fps [Ob b (.cells #[.map (some m1), .map (some m2), .map (some m3), .map (some m4)] 66 (0, 0)), Mp (Value.int .i64) Value.bool okI m2 bn, Mp (Value.int .i64) mpV okI m3 nw, Mp (Value.int .i64) roV okI m4 od, FamM spK snV okP ms ct, RowsI 70 1 mpL rs])] := H27.absorb (new := [Ob b28 (.cells #[.map (nw i)] 70 (0, 0))]) H30
    refine b_ret rfl rfl ?_
    refine R.g_nil ?_
    refine g_then ?_
    refine R.g_block ?_
    have H31 := S.big (L := [_, _]) (H30.takes [0, 5, 1, 2, 3, 4, 6, 7, 8, 9, 10, 11] (by decide))
    have H32 := S.noI (H31.takes [0, 1, 2, 3, 4, 5, 6, 7, 8, 9, 10] (by decide))
    refine g_rangeW (α := Int) (ι := Unit) (encs := encI) (base := Big [Ob b28 (.cells #[.map (nw i)] 70 (0, 0)), FamM spK snV okP ms ct]) (by omega) rfl cl65 (all_it (hB.nwm i) hB.tok) (fun _ => rfl) rfl (fun pre Lx => (∀ y ∈ pre, (decide (y = p) || !(parB bn od ct p || parB bn od ct y)) = true) ∧ Lx = [Ob g23 (.cells #[.bool ((parB bn od ct p))] 4 (0, 0)), Ob b (.cells #[.map (some m1), .map (some m2), .map (some m3), .map (some m4)] 66 (0, 0)), Mp (Value.int .i64) Value.bool okI m2 bn, Mp (Value.int .i64) roV okI m4 od, RowsI 70 1 mpL rs, Ob g7 (.cells #[.bool false] 4 (0, 0)), Ob g4 (.cells #[.int .i64 p] 3 (0, 0)), Ob g1 (.cells #[.pointer (some ⟨b, 0, none⟩)] 28 (0, 0)), Mp (Value.int .i64) mpV okI m3 nw, Old w (fps [Ob b (.cells #[.map (some m1), .map (some m2), .map (some m3), .map (some m4)] 66 (0, 0)), Mp (Value.int .i64) Value.bool okI m2 bn, Mp (Value.int .i64) mpV okI m3 nw, Mp (Value.int .i64) roV okI m4 od, FamM spK snV okP ms ct, RowsI 70 1 mpL rs])]) (fun pre Lx => mayB bn nw od ct p i = false ∧ Lx = [Ob g23 (.cells #[.bool ((parB bn od ct p))] 4 (0, 0)), Ob b (.cells #[.map (some m1), .map (some m2), .map (some m3), .map (some m4)] 66 (0, 0)), Mp (Value.int .i64) Value.bool okI m2 bn, Mp (Value.int .i64) roV okI m4 od, RowsI 70 1 mpL rs, Ob g7 (.cells #[.bool false] 4 (0, 0)), Ob g4 (.cells #[.int .i64 p] 3 (0, 0)), Ob g1 (.cells #[.pointer (some ⟨b, 0, none⟩)] 28 (0, 0)), Mp (Value.int .i64) mpV okI m3 nw, Old w (fps [Ob b (.cells #[.map (some m1), .map (some m2), .map (some m3), .map (some m4)] 66 (0, 0)), Mp (Value.int .i64) Value.bool okI m2 bn, Mp (Value.int .i64) mpV okI m3 nw, Mp (Value.int .i64) roV okI m4 od, FamM spK snV okP ms ct, RowsI 70 1 mpL rs])]) (fun p ia => [(3, .pointer (some ⟨g1, 0, none⟩)), (4, .pointer (some ⟨g4, 0, none⟩)), (6, .pointer (some ⟨g7, 0, none⟩)), (7, .pointer (some ⟨g23, 0, none⟩)), (8, .int .i64 p)]) (fun p ia => []) (fun _ _ _ _ _ => trivial) ⟨(fun _ h => by cases h), rfl⟩ H32 ?_ ?_ ?_ ?_
    ·
     rintro l1 p Ly W33 H34
     have hL : ¬ LetsOut (fun (_ : Exit) (_ : Act) (_ : World) => False) := fun ⟨_, _, h⟩ => h
     refine g_weak [(3, .pointer (some ⟨g1, 0, none⟩)), (4, .pointer (some ⟨g4, 0, none⟩)), (6, .pointer (some ⟨g7, 0, none⟩)), (7, .pointer (some ⟨g23, 0, none⟩)), (40, .int .i64 p)] ⟨rfl, rfl, rfl, rfl, rfl, trivial⟩ ?_
     refine R.g_region ?_
     refine R.l_of rfl (fun h => hL h) (s_val (v := .int .i64 p) (wt0 rfl) rfl rfl (x_assign rfl rfl) ?_)
     refine R.g_nil ?_
     refine g_then ?_
     exact rw_assign () ⟨rfl, rfl, rfl, rfl, rfl, trivial⟩ H34
    ·
     rintro l1 pr x ia II Kx _ W35 ⟨hJ, rfl⟩ hphi H36
     have H37 := S.unbig (H36.takes [3, 0, 1, 2, 4, 5, 6, 7, 8, 9, 10, 11, 12, 13] (by decide))
     refine g_weak [(3, .pointer (some ⟨g1, 0, none⟩)), (4, .pointer (some ⟨g4, 0, none⟩)), (6, .pointer (some ⟨g7, 0, none⟩)), (7, .pointer (some ⟨g23, 0, none⟩)), (8, .int .i64 x)] ⟨rfl, rfl, rfl, rfl, rfl, trivial⟩ ?_
     have hok_x : okI x := okI_in ((tok_of (hB.nwm i) hB.tok).whoIn (by obtain ⟨post, hpost⟩ := hphi; rw [hpost]; simp))
     refine R.g_block ?_
     refine R.g_seq ?_
     refine R.g_region ?_
     refine R.l_of rfl (fun ⟨_, _, h⟩ => h) (s_val (v := .int .i64 x) (wt0 rfl) rfl rfl (x_move rfl rfl) ?_)
     refine R.l_of rfl (fun ⟨_, _, h⟩ => h) (s_val (v := .int .i64 p) (wt0 rfl) rfl rfl (x_load1 H37 9 rfl rfl Try.underlying3 rfl rfl rfl) ?_)
     refine R.l_of rfl (fun ⟨_, _, h⟩ => h) (s_val (v := .bool (!decide ((x : Int) = p))) (wt0 rfl) rfl rfl (x_bin rfl rfl rfl b_neq) ?_)
     refine R.l_of rfl (fun ⟨_, _, h⟩ => h) (s_val (v := .bool (!decide ((x : Int) = p))) (wt0 rfl) rfl rfl (x_move rfl rfl) ?_)
     by_cases hb38 : (x : Int) = p
     ·
      refine R.l_of rfl (fun ⟨_, _, h⟩ => h) (s_not (wn1 rfl rfl rfl rfl (nf hb38)) rfl rfl ?_)
      refine R.l_of rfl (fun ⟨_, _, h⟩ => h) (s_not (wn1 rfl rfl rfl rfl (nf hb38)) rfl rfl ?_)
      refine R.l_of rfl (fun ⟨_, _, h⟩ => h) (s_not (wn2 rfl rfl rfl rfl) rfl rfl ?_)
      refine R.l_of rfl (fun ⟨_, _, h⟩ => h) (s_not (wn2 rfl rfl rfl rfl) rfl rfl ?_)
      refine R.l_of rfl (fun ⟨_, _, h⟩ => h) (s_not (wn2 rfl rfl rfl rfl) rfl rfl ?_)
      refine R.l_of rfl (fun ⟨_, _, h⟩ => h) (s_not (wn1 rfl rfl rfl rfl (nf hb38)) rfl rfl ?_)
      refine R.l_of rfl (fun ⟨_, _, h⟩ => h) (s_val (v := .bool false) (wt0 rfl) rfl rfl (x_pick_f rfl rfl (nf hb38) rfl) ?_)
      refine R.g_nil ?_
      refine g_then ?_
      refine g_weak [(6, .pointer (some ⟨g7, 0, none⟩)), (51, .bool false)] ⟨rfl, rfl, trivial⟩ ?_
      refine R.g_cond_f rfl rfl ?_
      refine R.g_skip ?_
      refine g_in ?_
      have hgo : (decide (x = p) || !(parB bn od ct p || parB bn od ct x)) = true := by simp [hb38]
      exact rs_next ⟨forall_snoc hJ hgo, rfl⟩ (H37.takes [0, 1, 2, 3, 4, 5, 6, 7, 8, 9, 10, 11, 12] (by decide))
     ·
      refine R.l_of rfl (fun ⟨_, _, h⟩ => h) (s_val (v := .bool ((parB bn od ct p))) (wt1 rfl rfl rfl rfl (nt hb38)) rfl rfl (x_load1 H37 3 rfl rfl Try.underlying4 rfl rfl rfl) ?_)
      refine R.l_of rfl (fun ⟨_, _, h⟩ => h) (s_val (v := .bool ((parB bn od ct p))) (wt1 rfl rfl rfl rfl (nt hb38)) rfl rfl (x_move rfl rfl) ?_)
      rcases Bool.eq_false_or_eq_true ((parB bn od ct p)) with hb39 | hb39
      ·
       refine R.l_of rfl (fun ⟨_, _, h⟩ => h) (s_not (wn1 rfl rfl rfl rfl hb39) rfl rfl ?_)
       refine R.l_of rfl (fun ⟨_, _, h⟩ => h) (s_not (wn1 rfl rfl rfl rfl hb39) rfl rfl ?_)
       refine R.l_of rfl (fun ⟨_, _, h⟩ => h) (s_not (wn1 rfl rfl rfl rfl hb39) rfl rfl ?_)
       refine R.l_of rfl (fun ⟨_, _, h⟩ => h) (s_val (v := .bool true) (wt1 rfl rfl rfl rfl (nt hb38)) rfl rfl (x_pick_t rfl rfl hb39 rfl) ?_)
       refine R.l_of rfl (fun ⟨_, _, h⟩ => h) (s_val (v := .bool true) (wt0 rfl) rfl rfl (x_pick_t rfl rfl (nt hb38) rfl) ?_)
       refine R.g_nil ?_
       refine g_then ?_
       refine g_weak [(6, .pointer (some ⟨g7, 0, none⟩)), (51, .bool true)] ⟨rfl, rfl, trivial⟩ ?_
       refine R.g_cond_t rfl rfl ?_
       refine R.g_seq ?_
       refine R.g_region ?_
       refine R.l_of rfl (fun ⟨_, _, h⟩ => h) (s_store H37 8 (wt0 rfl) rfl rfl rfl rfl rfl sz4 rfl rfl (cs' := #[.bool false]) rfl ?_)
       intro wq40 H41
       refine R.g_nil ?_
       refine g_then ?_
       refine R.g_ret ?_
       refine g_in_ret ?_
       have hgo : (decide (x = p) || !(parB bn od ct p || parB bn od ct x)) = false := by simp [hb38, hb39]
       exact rs_stop ⟨may_out (by obtain ⟨post, hpost⟩ := hphi; rw [hpost]; simp) hgo, rfl⟩ (H41.takes [0, 1, 2, 3, 4, 5, 6, 7, 8, 9, 10, 11, 12] (by decide))
      ·
       refine R.l_of rfl (fun ⟨_, _, h⟩ => h) (s_val (v := .pointer (some ⟨b, 0, none⟩)) (wt1 rfl rfl rfl rfl hb39) rfl rfl (x_load1 H37 10 rfl rfl Try.underlying28 rfl rfl rfl) ?_)
       refine R.l_of rfl (fun ⟨_, _, h⟩ => h) (s_val (v := .int .i64 x) (wt1 rfl rfl rfl rfl hb39) rfl rfl (x_move rfl rfl) ?_)
       have H42 : S W35 [Ob b28 (.cells #[.map (nw i)] 70 (0, 0)), FamM spK snV okP ms ct, II, Kx, Ob g23 (.cells #[.bool ((parB bn od ct p))] 4 (0, 0)), Ob b (.cells #[.map (some m1), .map (some m2), .map (some m3), .map (some m4)] 66 (0, 0)), Mp (Value.int .i64) Value.bool okI m2 bn, Mp (Value.int .i64) roV okI m4 od, RowsI 70 1 mpL rs, Ob g7 (.cells #[.bool false] 4 (0, 0)), Ob g4 (.cells #[.int .i64 p] 3 (0, 0)), Ob g1 (.cells #[.pointer (some ⟨b, 0, none⟩)] 28 (0, 0)), Mp (Value.int .i64) mpV okI m3 nw, Old w (fps [Ob b (.cells #[.map (some m1), .map (some m2), .map (some m3), .map (some m4)] 66 (0, 0)), Mp (Value.int .i64) Value.bool okI m2 bn, Mp (Value.int .i64) mpV okI m3 nw, Mp (Value.int .i64) roV okI m4 od, FamM spK snV okP ms ct, RowsI 70 1 mpL rs])] := S.unbig (H37.takes [0, 1, 2, 3, 4, 5, 6, 7, 8, 9, 10, 11, 12] (by decide))
       refine R.l_of rfl (fun ⟨_, _, h⟩ => h) (s_call (wt1 rfl rfl rfl rfl hb39) (x_call' rfl rfl cl11) (parole_s hB hok_x _ (H42.takes [5, 6, 7, 1, 8] (by decide))) ?_)
       rintro _ wq43 ⟨rfl, H44⟩
       replace H44 : S wq43 [Ob b (.cells #[.map (some m1), .map (some m2), .map (some m3), .map (some m4)] 66 (0, 0)), Mp (Value.int .i64) Value.bool okI m2 bn, Mp (Value.int .i64) roV okI m4 od, FamM spK snV okP ms ct, RowsI 70 1 mpL rs, Ob b28 (.cells #[.map (nw i)] 70 (0, 0)), II, Kx, Ob g23 (.cells #[.bool ((parB bn od ct p))] 4 (0, 0)), Ob g7 (.cells #[.bool false] 4 (0, 0)), Ob g4 (.cells #[.int .i64 p] 3 (0, 0)), Ob g1 (.cells #[.pointer (some ⟨b, 0, none⟩)] 28 (0, 0)), Mp (Value.int .i64) mpV okI m3 nw, Old w (fps [Ob b (.cells #[.map (some m1), .map (some m2), .map (some m3), .map (some m4)] 66 (0, 0)), Mp (Value.int .i64) Value.bool okI m2 bn, Mp (Value.int .i64) mpV okI m3 nw, Mp (Value.int .i64) roV okI m4 od, FamM spK snV okP ms ct, RowsI 70 1 mpL rs])] := H42.absorbI (new := [Ob b (.cells #[.map (some m1), .map (some m2), .map (some m3), .map (some m4)] 66 (0, 0)), Mp (Value.int .i64) Value.bool okI m2 bn, Mp (Value.int .i64) roV okI m4 od, FamM spK snV okP ms ct, RowsI 70 1 mpL rs]) [5, 6, 7, 1, 8] H44
       refine b_ret rfl rfl ?_
       refine R.l_of rfl (fun ⟨_, _, h⟩ => h) (s_val (v := .bool ((parB bn od ct x))) (wt1 rfl rfl rfl rfl (nt hb38)) rfl rfl (x_pick_f rfl rfl hb39 rfl) ?_)
       refine R.l_of rfl (fun ⟨_, _, h⟩ => h) (s_val (v := .bool ((parB bn od ct x))) (wt0 rfl) rfl rfl (x_pick_t rfl rfl (nt hb38) rfl) ?_)
       refine R.g_nil ?_
       refine g_then ?_
       refine g_weak [(6, .pointer (some ⟨g7, 0, none⟩)), (51, .bool ((parB bn od ct x)))] ⟨rfl, rfl, trivial⟩ ?_
       rcases Bool.eq_false_or_eq_true ((parB bn od ct x)) with hb45 | hb45
       ·
        refine R.g_cond_t rfl hb45 ?_
        refine R.g_seq ?_
        refine R.g_region ?_
        refine R.l_of rfl (fun ⟨_, _, h⟩ => h) (s_store H44 9 (wt0 rfl) rfl rfl rfl rfl rfl sz4 rfl rfl (cs' := #[.bool false]) rfl ?_)
        intro wq46 H47
        refine R.g_nil ?_
        refine g_then ?_
        refine R.g_ret ?_
        refine g_in_ret ?_
        have H48 : S wq46 [Big [Ob b28 (.cells #[.map (nw i)] 70 (0, 0)), FamM spK snV okP ms ct], Ob b (.cells #[.map (some m1), .map (some m2), .map (some m3), .map (some m4)] 66 (0, 0)), Mp (Value.int .i64) Value.bool okI m2 bn, Mp (Value.int .i64) roV okI m4 od, RowsI 70 1 mpL rs, II, Kx, Ob g23 (.cells #[.bool ((parB bn od ct p))] 4 (0, 0)), Ob g7 (.cells #[.bool false] 4 (0, 0)), Ob g4 (.cells #[.int .i64 p] 3 (0, 0)), Ob g1 (.cells #[.pointer (some ⟨b, 0, none⟩)] 28 (0, 0)), Mp (Value.int .i64) mpV okI m3 nw, Old w (fps [Ob b (.cells #[.map (some m1), .map (some m2), .map (some m3), .map (some m4)] 66 (0, 0)), Mp (Value.int .i64) Value.bool okI m2 bn, Mp (Value.int .i64) mpV okI m3 nw, Mp (Value.int .i64) roV okI m4 od, FamM spK snV okP ms ct, RowsI 70 1 mpL rs])] := S.big (L := [_, _]) (H47.takes [5, 3, 0, 1, 2, 4, 6, 7, 8, 9, 10, 11, 12, 13] (by decide))
        have hgo : (decide (x = p) || !(parB bn od ct p || parB bn od ct x)) = false := by simp [hb38, hb39, hb45]
        exact rs_stop ⟨may_out (by obtain ⟨post, hpost⟩ := hphi; rw [hpost]; simp) hgo, rfl⟩ (H48.takes [0, 5, 6, 7, 1, 2, 3, 4, 8, 9, 10, 11, 12] (by decide))
       ·
        refine R.g_cond_f rfl hb45 ?_
        refine R.g_skip ?_
        refine g_in ?_
        have H49 : S wq43 [Big [Ob b28 (.cells #[.map (nw i)] 70 (0, 0)), FamM spK snV okP ms ct], Ob b (.cells #[.map (some m1), .map (some m2), .map (some m3), .map (some m4)] 66 (0, 0)), Mp (Value.int .i64) Value.bool okI m2 bn, Mp (Value.int .i64) roV okI m4 od, RowsI 70 1 mpL rs, II, Kx, Ob g23 (.cells #[.bool ((parB bn od ct p))] 4 (0, 0)), Ob g7 (.cells #[.bool false] 4 (0, 0)), Ob g4 (.cells #[.int .i64 p] 3 (0, 0)), Ob g1 (.cells #[.pointer (some ⟨b, 0, none⟩)] 28 (0, 0)), Mp (Value.int .i64) mpV okI m3 nw, Old w (fps [Ob b (.cells #[.map (some m1), .map (some m2), .map (some m3), .map (some m4)] 66 (0, 0)), Mp (Value.int .i64) Value.bool okI m2 bn, Mp (Value.int .i64) mpV okI m3 nw, Mp (Value.int .i64) roV okI m4 od, FamM spK snV okP ms ct, RowsI 70 1 mpL rs])] := S.big (L := [_, _]) (H44.takes [5, 3, 0, 1, 2, 4, 6, 7, 8, 9, 10, 11, 12, 13] (by decide))
        have hgo : (decide (x = p) || !(parB bn od ct p || parB bn od ct x)) = true := by simp [hb38, hb39, hb45]
        exact rs_next ⟨forall_snoc hJ hgo, rfl⟩ (H49.takes [0, 5, 6, 7, 1, 2, 3, 4, 8, 9, 10, 11, 12] (by decide))
    ·
     rintro D xs _ W50 rfl ⟨hJ, rfl⟩ H51
     have H52 : S W50 [Ob b28 (.cells #[.map (nw i)] 70 (0, 0)), FamM spK snV okP ms ct, Ob D (.deferred (some [])), Ob g23 (.cells #[.bool ((parB bn od ct p))] 4 (0, 0)), Ob b (.cells #[.map (some m1), .map (some m2), .map (some m3), .map (some m4)] 66 (0, 0)), Mp (Value.int .i64) Value.bool okI m2 bn, Mp (Value.int .i64) roV okI m4 od, RowsI 70 1 mpL rs, Ob g7 (.cells #[.bool false] 4 (0, 0)), Ob g4 (.cells #[.int .i64 p] 3 (0, 0)), Ob g1 (.cells #[.pointer (some ⟨b, 0, none⟩)] 28 (0, 0)), Mp (Value.int .i64) mpV okI m3 nw, Old w (fps [Ob b (.cells #[.map (some m1), .map (some m2), .map (some m3), .map (some m4)] 66 (0, 0)), Mp (Value.int .i64) Value.bool okI m2 bn, Mp (Value.int .i64) mpV okI m3 nw, Mp (Value.int .i64) roV okI m4 od, FamM spK snV okP ms ct, RowsI 70 1 mpL rs])] := S.unbig (H51.takes [1, 0, 2, 3, 4, 5, 6, 7, 8, 9, 10, 11] (by decide))
     refine g_in ?_
     refine g_then ?_
     refine g_weak [(6, .pointer (some ⟨g7, 0, none⟩))] ⟨rfl, trivial⟩ ?_
     refine R.g_seq ?_
     refine R.g_region ?_
     refine R.l_of rfl (fun h => hL h) (s_store H52 8 (wt0 rfl) rfl rfl rfl rfl rfl sz4 rfl rfl (cs' := #[.bool true]) rfl ?_)
     intro wq53 H54
     refine R.g_nil ?_
     refine g_then ?_
     refine R.g_ret ?_
     refine fin_mark H54 2 rfl [.cell 6 4] [.bool true] rfl (fun wq55 H56 => ⟨⟨⟨_, rfl, run_load1 Try.underlying4 rfl (H56.cell (k := 8) rfl rfl)⟩, trivial⟩, ?_⟩)
     exact ⟨by rw [may_yes hb14 hb17 hb18 hJ]; rfl, H56.takes [4, 5, 11, 6, 1, 7, 12] (by decide)⟩
    ·
     rintro D pr _ W57 _ ⟨hmay, rfl⟩ H58
     refine g_in_ret ?_
     refine g_then_ret ?_
     refine fin_mark H58 0 rfl [.cell 6 4] [.bool false] rfl (fun wq59 H60 => ⟨⟨⟨_, rfl, run_load1 Try.underlying4 rfl (H60.cell (k := 7) rfl rfl)⟩, trivial⟩, ?_⟩)
     have H61 : S wq59 [Ob b28 (.cells #[.map (nw i)] 70 (0, 0)), FamM spK snV okP ms ct, Ob D (.deferred none), Ob g23 (.cells #[.bool ((parB bn od ct p))] 4 (0, 0)), Ob b (.cells #[.map (some m1), .map (some m2), .map (some m3), .map (some m4)] 66 (0, 0)), Mp (Value.int .i64) Value.bool okI m2 bn, Mp (Value.int .i64) roV okI m4 od, RowsI 70 1 mpL rs, Ob g7 (.cells #[.bool false] 4 (0, 0)), Ob g4 (.cells #[.int .i64 p] 3 (0, 0)), Ob g1 (.cells #[.pointer (some ⟨b, 0, none⟩)] 28 (0, 0)), Mp (Value.int .i64) mpV okI m3 nw, Old w (fps [Ob b (.cells #[.map (some m1), .map (some m2), .map (some m3), .map (some m4)] 66 (0, 0)), Mp (Value.int .i64) Value.bool okI m2 bn, Mp (Value.int .i64) mpV okI m3 nw, Mp (Value.int .i64) roV okI m4 od, FamM spK snV okP ms ct, RowsI 70 1 mpL rs])] := S.unbig (H60.takes [1, 0, 2, 3, 4, 5, 6, 7, 8, 9, 10, 11] (by decide))
     exact ⟨by rw [hmay]; rfl, H61.takes [4, 5, 11, 6, 1, 7, 12] (by decide)⟩
  ·
   refine y_not 13 rfl (wn1 rfl rfl rfl rfl (neg_of hb17)) rfl rfl rfl (by kernel_rfl) (by kernel_rfl) (by kernel_rfl) (by kernel_rfl) ?_
   refine y_not 14 rfl (wn1 rfl rfl rfl rfl (neg_of hb17)) rfl rfl rfl (by kernel_rfl) (by kernel_rfl) (by kernel_rfl) (by kernel_rfl) ?_
   refine y_not 15 rfl (wn1 rfl rfl rfl rfl (neg_of hb17)) rfl rfl rfl (by kernel_rfl) (by kernel_rfl) (by kernel_rfl) (by kernel_rfl) ?_
   refine y_not 16 rfl (wn1 rfl rfl rfl rfl (neg_of hb17)) rfl rfl rfl (by kernel_rfl) (by kernel_rfl) (by kernel_rfl) (by kernel_rfl) ?_
   refine y_not 17 rfl (wn1 rfl rfl rfl rfl (neg_of hb17)) rfl rfl rfl (by kernel_rfl) (by kernel_rfl) (by kernel_rfl) (by kernel_rfl) ?_
   refine y_not 18 rfl (wn1 rfl rfl rfl rfl (neg_of hb17)) rfl rfl rfl (by kernel_rfl) (by kernel_rfl) (by kernel_rfl) (by kernel_rfl) ?_
   refine y_not 19 rfl (wn1 rfl rfl rfl rfl (neg_of hb17)) rfl rfl rfl (by kernel_rfl) (by kernel_rfl) (by kernel_rfl) (by kernel_rfl) ?_
   refine y_pure (v := .bool true) 20 rfl (wt0 rfl) rfl rfl rfl (by kernel_rfl) (by kernel_rfl) (by kernel_rfl) (by kernel_rfl) (fun wx => x_pick_t rfl rfl (neg_of hb17) rfl) ?_
   refine y_done (by kernel_rfl) ?_
   refine g_then ?_
   refine g_weak [(2, .int .i64 i), (3, .pointer (some ⟨g1, 0, none⟩)), (4, .pointer (some ⟨g4, 0, none⟩)), (6, .pointer (some ⟨g7, 0, none⟩)), (29, .bool true)] ⟨rfl, rfl, rfl, rfl, rfl, trivial⟩ ?_
   refine R.g_cond_t rfl rfl ?_
   refine R.g_seq ?_
   refine R.g_region ?_
   refine R.l_of rfl (fun h => hL h) (s_store H16 0 (wt0 rfl) rfl rfl rfl rfl rfl sz4 rfl rfl (cs' := #[.bool false]) rfl ?_)
   intro wq62 H63
   refine R.g_nil ?_
   refine g_then ?_
   refine R.g_ret ?_
   refine g_then_ret ?_
   refine fin_plain [.cell 6 4] [.bool false] rfl ⟨⟨_, rfl, run_load1 Try.underlying4 rfl (H63.cell (k := 0) rfl rfl)⟩, trivial⟩ ?_
   exact ⟨by rw [may_no (by simp [hb14, hb17])]; rfl, H63.takes [3, 4, 5, 6, 7, 8, 9] (by decide)⟩
 ·
  refine y_not 8 rfl (wn1 rfl rfl rfl rfl (neg_of hb14)) rfl rfl rfl (by kernel_rfl) (by kernel_rfl) (by kernel_rfl) (by kernel_rfl) ?_
  refine y_one (i := 9) (by kernel_rfl) rfl ?_
  refine s_not (wn1 rfl rfl rfl rfl (neg_of hb14)) rfl rfl ?_
  refine y_k H13 H13 ?_
  refine y_not 10 rfl (wn1 rfl rfl rfl rfl (neg_of hb14)) rfl rfl rfl (by kernel_rfl) (by kernel_rfl) (by kernel_rfl) (by kernel_rfl) ?_
  refine y_pure (v := .bool true) 11 rfl (wt0 rfl) rfl rfl rfl (by kernel_rfl) (by kernel_rfl) (by kernel_rfl) (by kernel_rfl) (fun wx => x_pick_t rfl rfl (neg_of hb14) rfl) ?_
  refine y_pure (v := .bool true) 12 rfl (wt0 rfl) rfl rfl rfl (by kernel_rfl) (by kernel_rfl) (by kernel_rfl) (by kernel_rfl) (fun wx => x_move rfl rfl) ?_
  refine y_not 13 rfl (wn1 rfl rfl rfl rfl rfl) rfl rfl rfl (by kernel_rfl) (by kernel_rfl) (by kernel_rfl) (by kernel_rfl) ?_
  refine y_not 14 rfl (wn1 rfl rfl rfl rfl rfl) rfl rfl rfl (by kernel_rfl) (by kernel_rfl) (by kernel_rfl) (by kernel_rfl) ?_
  refine y_not 15 rfl (wn1 rfl rfl rfl rfl rfl) rfl rfl rfl (by kernel_rfl) (by kernel_rfl) (by kernel_rfl) (by kernel_rfl) ?_
  refine y_not 16 rfl (wn1 rfl rfl rfl rfl rfl) rfl rfl rfl (by kernel_rfl) (by kernel_rfl) (by kernel_rfl) (by kernel_rfl) ?_
  refine y_not 17 rfl (wn1 rfl rfl rfl rfl rfl) rfl rfl rfl (by kernel_rfl) (by kernel_rfl) (by kernel_rfl) (by kernel_rfl) ?_
  refine y_not 18 rfl (wn1 rfl rfl rfl rfl rfl) rfl rfl rfl (by kernel_rfl) (by kernel_rfl) (by kernel_rfl) (by kernel_rfl) ?_
  refine y_not 19 rfl (wn1 rfl rfl rfl rfl rfl) rfl rfl rfl (by kernel_rfl) (by kernel_rfl) (by kernel_rfl) (by kernel_rfl) ?_
  refine y_pure (v := .bool true) 20 rfl (wt0 rfl) rfl rfl rfl (by kernel_rfl) (by kernel_rfl) (by kernel_rfl) (by kernel_rfl) (fun wx => x_pick_t rfl rfl rfl rfl) ?_
  refine y_done (by kernel_rfl) ?_
  refine g_then ?_
  refine g_weak [(2, .int .i64 i), (3, .pointer (some ⟨g1, 0, none⟩)), (4, .pointer (some ⟨g4, 0, none⟩)), (6, .pointer (some ⟨g7, 0, none⟩)), (29, .bool true)] ⟨rfl, rfl, rfl, rfl, rfl, trivial⟩ ?_
  refine R.g_cond_t rfl rfl ?_
  refine R.g_seq ?_
  refine R.g_region ?_
  refine R.l_of rfl (fun h => hL h) (s_store H13 0 (wt0 rfl) rfl rfl rfl rfl rfl sz4 rfl rfl (cs' := #[.bool false]) rfl ?_)
  intro wq64 H65
  refine R.g_nil ?_
  refine g_then ?_
  refine R.g_ret ?_
  refine g_then_ret ?_
  refine fin_plain [.cell 6 4] [.bool false] rfl ⟨⟨_, rfl, run_load1 Try.underlying4 rfl (H65.cell (k := 0) rfl rfl)⟩, trivial⟩ ?_
  exact ⟨by rw [may_no (by simp [hb14])]; rfl, H65.takes [3, 4, 5, 6, 7, 8, 9] (by decide)⟩
set_option maxRecDepth 20000 in
set_option maxHeartbeats 4000000 in
set_option maxRecDepth 20000 in
set_option maxHeartbeats 4000000 in
theorem new_s  (w : World) : Calls Try.prog 12 #[] w fun e w' => ∃ b m1 m2 m3 m4, e = .returned (.pointer (some ⟨b, 0, none⟩)) ∧ S w' ([Ob b (.cells #[.map (some m1), .map (some m2), .map (some m3), .map (some m4)] 66 (0, 0)), Mp (Value.int .i64) (Value.int .i64) okI m1 (fun _ => none : Int → Option Int), Mp (Value.int .i64) Value.bool okI m2 (fun _ => none : Int → Option Bool), Mp (Value.int .i64) mpV okI m3 (fun _ => none : Int → Option Nat), Mp (Value.int .i64) roV okI m4 (fun _ => none : Int → Option (Ro Nat)), FamM spK snV okP [] (fun _ => noT), RowsI 70 1 mpL []] ++ [Old w no]) := by
 have H0 := S.old w
 refine enter 8 Try.func12 rfl rfl rfl ?_
 refine g_weak [] trivial ?_
 refine g_seq ?_
 refine g_region ?_
 refine l_of (s_val (v := .pointer none) (wt0 rfl) rfl rfl (x_assign rfl rfl) ?_)
 refine g_nil ?_
 refine g_then ?_
 refine g_seq ?_
 refine g_region ?_
 refine l_of (s_makeMap (α := Int) (Value.int .i64) (Value.int .i64) okI H0 (wt0 rfl) rfl rfl rfl ?_)
 intro mg1 wq2 H3
 refine l_of (s_makeMap (α := Bool) (Value.int .i64) Value.bool okI H3 (wt0 rfl) rfl rfl rfl ?_)
 intro mg4 wq5 H6
 refine l_of (s_val (v := .agg #[.map (some mg1), .map (some mg4)]) (wt0 rfl) rfl rfl (x_build (vs := [.map (some mg1), .map (some mg4)]) rfl rfl (cells := #[.map (some mg1), .map (some mg4)]) (by kernel_rfl)) ?_)
 refine l_of (s_makeMap (α := Nat) (Value.int .i64) mpV okI H6 (wt0 rfl) rfl rfl rfl ?_)
 intro mg7 wq8 H9
 refine l_of (s_makeMap (α := (Ro Nat)) (Value.int .i64) roV okI H9 (wt0 rfl) rfl rfl rfl ?_)
 intro mg10 wq11 H12
 refine l_of (s_val (v := .agg #[.map (some mg1), .map (some mg4), .map (some mg7), .map (some mg10)]) (wt0 rfl) rfl rfl (x_build (vs := [.agg #[.map (some mg1), .map (some mg4)], .map (some mg7), .map (some mg10)]) rfl rfl (cells := #[.map (some mg1), .map (some mg4), .map (some mg7), .map (some mg10)]) (by kernel_rfl)) ?_)
 refine l_of (s_box H12 (wt0 rfl) rfl rfl rfl rfl ?_)
 intro g13 wq14 H15
 refine l_of (s_val (v := .pointer (some ⟨g13, 0, none⟩)) (wt0 rfl) rfl rfl (x_assign rfl rfl) ?_)
 refine g_nil ?_
 refine g_then ?_
 refine g_ret ?_
 refine fin_ret [.tmp 0] [.pointer (some ⟨g13, 0, none⟩)] rfl ⟨rfl, trivial⟩ ?_
 have HF := S.famMnil (ek := spK) (va := snV) (ok := okP) (H15.takes [0, 4, 3, 2, 1, 5] (by decide)) (fun _ => noT)
 have HR := S.rowsNil (e := 70) (size := 1) (enc := mpL) HF
 exact ⟨g13, mg1, mg4, mg7, mg10, rfl, HR.takes [2, 3, 4, 5, 6, 1, 0, 7] (by decide)⟩
theorem BI.nil : BI (fun _ => none) (fun _ => none) [] [] (fun _ => noT) := ⟨fun _ _ h => (by cases h), fun _ _ h => (by cases h), fun _ h => (by cases h), fun _ h => (by cases h), fun _ h => (by cases h), fun _ _ h => (by cases h), fun _ _ _ h => (by cases h)⟩
end Go.Proofs.Ytlikhpfdncidkaa
