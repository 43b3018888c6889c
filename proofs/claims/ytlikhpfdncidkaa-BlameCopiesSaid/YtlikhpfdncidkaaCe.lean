import Derived.Test.YtlikhpfdncidkaaFk
import Derived.Test.YtlikhpfdncidkaaCd
set_option linter.unusedSimpArgs false
set_option linter.unusedVariables false
namespace Go.Proofs.Ytlikhpfdncidkaa
open Go.RowKit

theorem cl70 : callable Try.prog 70 = true := by kernel_rfl
theorem cl71 : callable Try.prog 71 = true := by kernel_rfl
theorem fo88_0 : foO Try.prog 88 0 = some 0 := by kernel_rfl
theorem fo88_2 : foO Try.prog 88 2 = some 2 := by kernel_rfl
theorem inf109 : infO Try.prog 109 = some (some (.agg #[.int .i64 0, .int .i64 0, .int .i64 0, .int .i64 0, .string (⟨#[]⟩)]), 5, 48) := by kernel_rfl
theorem ze94 : zeO Try.prog 94 = some (.slice none 0 0) := by kernel_rfl
theorem ze95 : zeO Try.prog 95 = some (.slice none 0 0) := by kernel_rfl
set_option maxRecDepth 20000 in
set_option maxHeartbeats 4000000 in
theorem rnew_s  (w : World) : Calls Try.prog 19 #[] w fun e w' => ∃ b m1 m2 m3 m4, e = .returned (.pointer (some ⟨b, 0, none⟩)) ∧ S w' ([Ob b (.cells #[.map (some m1), .map (some m2), .map (some m3), .map (some m4)] 88 (0, 0)), Mp (Value.int .i64) roV okI m1 ((fun _ => none) : Int → Option (Ro E5)), Mp (Value.int .i64) roV okI m2 ((fun _ => none) : Int → Option (Ro (Ro E5))), Mp (Value.int .i64) Value.bool okI m3 ((fun _ => none) : Int → Option Bool), Mp (Value.int .i64) (Value.int .i64) okI m4 ((fun _ => none) : Int → Option Int)] ++ [Old w no]) := by
 have H0 := S.old w
 refine enter 7 Try.func19 rfl rfl rfl ?_
 refine g_weak [] trivial ?_
 refine w_s ?_
 refine w_a ?_
 refine w_e ?_
 refine w_s ?_
 refine l_of (s_makeMap (α := (Ro E5)) (Value.int .i64) roV okI H0 (wt0 rfl) rfl rfl rfl ?_)
 intro mg1 wq2 H3
 refine l_of (s_makeMap (α := (Ro (Ro E5))) (Value.int .i64) roV okI H3 (wt0 rfl) rfl rfl rfl ?_)
 intro mg4 wq5 H6
 refine l_of (s_makeMap (α := Bool) (Value.int .i64) Value.bool okI H6 (wt0 rfl) rfl rfl rfl ?_)
 intro mg7 wq8 H9
 refine l_of (s_makeMap (α := Int) (Value.int .i64) (Value.int .i64) okI H9 (wt0 rfl) rfl rfl rfl ?_)
 intro mg10 wq11 H12
 refine w_v (v := .agg #[.map (some mg1), .map (some mg4), .map (some mg7), .map (some mg10)]) (x_build (vs := [.map (some mg1), .map (some mg4), .map (some mg7), .map (some mg10)]) rfl rfl (cells := #[.map (some mg1), .map (some mg4), .map (some mg7), .map (some mg10)]) (by kernel_rfl)) ?_
 refine l_of (s_box H12 (wt0 rfl) rfl rfl rfl rfl ?_)
 intro g13 wq14 H15
 refine w_a ?_
 refine w_e ?_
 refine g_ret ?_
 refine fin_ret [.tmp 0] [.pointer (some ⟨g13, 0, none⟩)] rfl ⟨rfl, trivial⟩ ?_
 exact ⟨g13, mg1, mg4, mg7, mg10, rfl, H15.takes [0, 4, 3, 2, 1, 5] (by decide)⟩
set_option maxRecDepth 20000 in
set_option maxHeartbeats 4000000 in
theorem rbanned_s {b m1 m2 m3 m4 : Nat} {nw : Int → Option (Ro E5)} {od : Int → Option (Ro (Ro E5))} {bn : Int → Option Bool} {sc : Int → Option Int} {rs : List (Ro E5)} {ts : List (Ro (Ro E5))} (hR : RI nw od ⟨rs, ts⟩) {p : Int} (hok_p : okI p)  (w : World) (HS : S w [Ob b (.cells #[.map (some m1), .map (some m2), .map (some m3), .map (some m4)] 88 (0, 0)), Mp (Value.int .i64) roV okI m1 nw, Mp (Value.int .i64) roV okI m2 od, Mp (Value.int .i64) Value.bool okI m3 bn, Mp (Value.int .i64) (Value.int .i64) okI m4 sc, RowsI 109 5 e5L rs, RowsI 94 1 rowL ts]) : Calls Try.prog 46 #[.pointer (some ⟨b, 0, none⟩), .int .i64 p] w fun e w' => e = .returned (.bool ((RA nw od bn sc).bn p)) ∧ S w' ([Ob b (.cells #[.map (some m1), .map (some m2), .map (some m3), .map (some m4)] 88 (0, 0)), Mp (Value.int .i64) roV okI m1 nw, Mp (Value.int .i64) roV okI m2 od, Mp (Value.int .i64) Value.bool okI m3 bn, Mp (Value.int .i64) (Value.int .i64) okI m4 sc, RowsI 109 5 e5L rs, RowsI 94 1 rowL ts] ++ [Old w (fps [Ob b (.cells #[.map (some m1), .map (some m2), .map (some m3), .map (some m4)] 88 (0, 0)), Mp (Value.int .i64) roV okI m1 nw, Mp (Value.int .i64) roV okI m2 od, Mp (Value.int .i64) Value.bool okI m3 bn, Mp (Value.int .i64) (Value.int .i64) okI m4 sc, RowsI 109 5 e5L rs, RowsI 94 1 rowL ts])]) := by
 have H0 := HS.beginI
 refine enter 11 Try.func46 rfl rfl rfl ?_
 refine g_weak [(0, .pointer (some ⟨b, 0, none⟩)), (1, .int .i64 p)] ⟨rfl, rfl, trivial⟩ ?_
 refine w_s ?_
 refine w_a ?_
 refine w_e ?_
 refine w_s ?_
 refine w_r3 ?_
 refine w_1 H0 0 ?_
 refine w_m ?_
 refine w_v (v := .bool (((bn p).getD false))) (ex_cast (x_lookup1 (x := p) (intTy Try.underlying29 Try.underlying3) H0 3 rfl rfl rfl rfl (hok_p) ze4) (look_B _)) ?_
 refine w_a ?_
 refine w_e ?_
 refine g_ret ?_
 refine fin_ret [.tmp 4] [.bool (((bn p).getD false))] rfl ⟨rfl, trivial⟩ ?_
 exact ⟨rfl, H0.takes [0, 1, 2, 3, 4, 5, 6, 7] (by decide)⟩
set_option maxRecDepth 20000 in
set_option maxHeartbeats 4000000 in
theorem rscore_s {b m1 m2 m3 m4 : Nat} {nw : Int → Option (Ro E5)} {od : Int → Option (Ro (Ro E5))} {bn : Int → Option Bool} {sc : Int → Option Int} {rs : List (Ro E5)} {ts : List (Ro (Ro E5))} (hR : RI nw od ⟨rs, ts⟩) {p : Int} (hok_p : okI p)  (w : World) (HS : S w [Ob b (.cells #[.map (some m1), .map (some m2), .map (some m3), .map (some m4)] 88 (0, 0)), Mp (Value.int .i64) roV okI m1 nw, Mp (Value.int .i64) roV okI m2 od, Mp (Value.int .i64) Value.bool okI m3 bn, Mp (Value.int .i64) (Value.int .i64) okI m4 sc, RowsI 109 5 e5L rs, RowsI 94 1 rowL ts]) : Calls Try.prog 48 #[.pointer (some ⟨b, 0, none⟩), .int .i64 p] w fun e w' => e = .returned (.int .i64 ((RA nw od bn sc).sc p)) ∧ S w' ([Ob b (.cells #[.map (some m1), .map (some m2), .map (some m3), .map (some m4)] 88 (0, 0)), Mp (Value.int .i64) roV okI m1 nw, Mp (Value.int .i64) roV okI m2 od, Mp (Value.int .i64) Value.bool okI m3 bn, Mp (Value.int .i64) (Value.int .i64) okI m4 sc, RowsI 109 5 e5L rs, RowsI 94 1 rowL ts] ++ [Old w (fps [Ob b (.cells #[.map (some m1), .map (some m2), .map (some m3), .map (some m4)] 88 (0, 0)), Mp (Value.int .i64) roV okI m1 nw, Mp (Value.int .i64) roV okI m2 od, Mp (Value.int .i64) Value.bool okI m3 bn, Mp (Value.int .i64) (Value.int .i64) okI m4 sc, RowsI 109 5 e5L rs, RowsI 94 1 rowL ts])]) := by
 have H0 := HS.beginI
 refine enter 11 Try.func48 rfl rfl rfl ?_
 refine g_weak [(0, .pointer (some ⟨b, 0, none⟩)), (1, .int .i64 p)] ⟨rfl, rfl, trivial⟩ ?_
 refine w_s ?_
 refine w_a ?_
 refine w_e ?_
 refine w_s ?_
 refine w_r3 ?_
 refine w_1 H0 0 ?_
 refine w_m ?_
 refine w_v (v := .int .i64 (((sc p).getD 0))) (ex_cast (x_lookup1 (x := p) (intTy Try.underlying60 Try.underlying3) H0 4 rfl rfl rfl rfl (hok_p) ze3) (look_I _)) ?_
 refine w_a ?_
 refine w_e ?_
 refine g_ret ?_
 refine fin_ret [.tmp 4] [.int .i64 (((sc p).getD 0))] rfl ⟨rfl, trivial⟩ ?_
 exact ⟨rfl, H0.takes [0, 1, 2, 3, 4, 5, 6, 7] (by decide)⟩
set_option maxRecDepth 20000 in
set_option maxHeartbeats 4000000 in
theorem rtries_s {b m1 m2 m3 m4 : Nat} {nw : Int → Option (Ro E5)} {od : Int → Option (Ro (Ro E5))} {bn : Int → Option Bool} {sc : Int → Option Int} {rs : List (Ro E5)} {ts : List (Ro (Ro E5))} (hR : RI nw od ⟨rs, ts⟩) {i : Int} (hok_i : okI i)  (w : World) (HS : S w [Ob b (.cells #[.map (some m1), .map (some m2), .map (some m3), .map (some m4)] 88 (0, 0)), Mp (Value.int .i64) roV okI m1 nw, Mp (Value.int .i64) roV okI m2 od, Mp (Value.int .i64) Value.bool okI m3 bn, Mp (Value.int .i64) (Value.int .i64) okI m4 sc, RowsI 109 5 e5L rs, RowsI 94 1 rowL ts]) : Calls Try.prog 51 #[.pointer (some ⟨b, 0, none⟩), .int .i64 i] w fun e w' => e = .returned (.int .i64 (((RA nw od bn sc).od i).length : Int)) ∧ S w' ([Ob b (.cells #[.map (some m1), .map (some m2), .map (some m3), .map (some m4)] 88 (0, 0)), Mp (Value.int .i64) roV okI m1 nw, Mp (Value.int .i64) roV okI m2 od, Mp (Value.int .i64) Value.bool okI m3 bn, Mp (Value.int .i64) (Value.int .i64) okI m4 sc, RowsI 109 5 e5L rs, RowsI 94 1 rowL ts] ++ [Old w (fps [Ob b (.cells #[.map (some m1), .map (some m2), .map (some m3), .map (some m4)] 88 (0, 0)), Mp (Value.int .i64) roV okI m1 nw, Mp (Value.int .i64) roV okI m2 od, Mp (Value.int .i64) Value.bool okI m3 bn, Mp (Value.int .i64) (Value.int .i64) okI m4 sc, RowsI 109 5 e5L rs, RowsI 94 1 rowL ts])]) := by
 have H0 := HS.beginI
 refine enter 12 Try.func51 rfl rfl rfl ?_
 refine g_weak [(0, .pointer (some ⟨b, 0, none⟩)), (1, .int .i64 i)] ⟨rfl, rfl, trivial⟩ ?_
 refine w_s ?_
 refine w_a ?_
 refine w_e ?_
 refine w_s ?_
 refine w_r3 ?_
 refine w_1 H0 0 ?_
 refine w_m ?_
 refine w_v (v := .slice (roG (od i)).p ((roG (od i)).l.length) ((roG (od i)).c)) (ex_cast (x_lookup1 (x := i) (intTy Try.underlying86 Try.underlying3) H0 2 rfl rfl rfl rfl (hok_i) ze95) (look_G _)) ?_
 refine w_v (v := .int .i64 (((roG (od i)).l.length : Int))) (x_lenl rfl rfl Try.underlying95) ?_
 refine w_a ?_
 refine w_e ?_
 refine g_ret ?_
 refine fin_ret [.tmp 4] [.int .i64 (((roG (od i)).l.length : Int))] rfl ⟨rfl, trivial⟩ ?_
 exact ⟨(by unfold RA; rw [List.length_map]; rfl), H0.takes [0, 1, 2, 3, 4, 5, 6, 7] (by decide)⟩
set_option maxRecDepth 20000 in
set_option maxHeartbeats 4000000 in
theorem rsenders_s {b m1 m2 m3 m4 : Nat} {nw : Int → Option (Ro E5)} {od : Int → Option (Ro (Ro E5))} {bn : Int → Option Bool} {sc : Int → Option Int} {rs : List (Ro E5)} {ts : List (Ro (Ro E5))} (hR : RI nw od ⟨rs, ts⟩) {i : Int} (hok_i : okI i)  (w : World) (HS : S w [Ob b (.cells #[.map (some m1), .map (some m2), .map (some m3), .map (some m4)] 88 (0, 0)), Mp (Value.int .i64) roV okI m1 nw, Mp (Value.int .i64) roV okI m2 od, Mp (Value.int .i64) Value.bool okI m3 bn, Mp (Value.int .i64) (Value.int .i64) okI m4 sc, RowsI 109 5 e5L rs, RowsI 94 1 rowL ts]) : Calls Try.prog 50 #[.pointer (some ⟨b, 0, none⟩), .int .i64 i] w fun e w' => ∃ p' c', e = .returned (.slice p' (whoL ((RA nw od bn sc).nw i)).length c') ∧ S w' ([Rw 3 1 p' ((whoL ((RA nw od bn sc).nw i)).length) c' (fl intL (whoL ((RA nw od bn sc).nw i))), Ob b (.cells #[.map (some m1), .map (some m2), .map (some m3), .map (some m4)] 88 (0, 0)), Mp (Value.int .i64) roV okI m1 nw, Mp (Value.int .i64) roV okI m2 od, Mp (Value.int .i64) Value.bool okI m3 bn, Mp (Value.int .i64) (Value.int .i64) okI m4 sc, RowsI 109 5 e5L rs, RowsI 94 1 rowL ts] ++ [Old w (fps [Ob b (.cells #[.map (some m1), .map (some m2), .map (some m3), .map (some m4)] 88 (0, 0)), Mp (Value.int .i64) roV okI m1 nw, Mp (Value.int .i64) roV okI m2 od, Mp (Value.int .i64) Value.bool okI m3 bn, Mp (Value.int .i64) (Value.int .i64) okI m4 sc, RowsI 109 5 e5L rs, RowsI 94 1 rowL ts])]) := by
 have H0 := HS.beginI
 have hln := (hR.nwOk i).len
 refine enter 12 Try.func50 rfl rfl rfl ?_
 refine g_weak [(0, .pointer (some ⟨b, 0, none⟩)), (1, .int .i64 i)] ⟨rfl, rfl, trivial⟩ ?_
 refine w_s ?_
 refine w_a ?_
 refine w_e ?_
 refine w_s ?_
 refine w_r3 ?_
 refine w_1 H0 0 ?_
 refine w_m ?_
 refine w_v (v := .slice (roG (nw i)).p ((roG (nw i)).l.length) ((roG (nw i)).c)) (ex_cast (x_lookup1 (x := i) (intTy Try.underlying85 Try.underlying3) H0 1 rfl rfl rfl rfl (hok_i) ze94) (look_G _)) ?_
 refine l_of (s_call (wt0 rfl) (x_call' rfl rfl cl68) (who_r (roG (nw i)).p ((roG (nw i)).l.length) ((roG (nw i)).c) (roG (nw i)).l (by omega) _ ((rows_in (H0.at (k := 5) rfl) (hR.nwIn i)))) ?_)
 rintro _ wq4 ⟨p1, c2, rfl, H5⟩
 replace H5 : S wq4 [Rw 3 1 p1 ((ascI ((roG (nw i)).l.map E5.pr)).length) c2 (fl intL (ascI ((roG (nw i)).l.map E5.pr))), Ob b (.cells #[.map (some m1), .map (some m2), .map (some m3), .map (some m4)] 88 (0, 0)), Mp (Value.int .i64) roV okI m1 nw, Mp (Value.int .i64) roV okI m2 od, Mp (Value.int .i64) Value.bool okI m3 bn, Mp (Value.int .i64) (Value.int .i64) okI m4 sc, RowsI 109 5 e5L rs, RowsI 94 1 rowL ts, Old w (fps [Ob b (.cells #[.map (some m1), .map (some m2), .map (some m3), .map (some m4)] 88 (0, 0)), Mp (Value.int .i64) roV okI m1 nw, Mp (Value.int .i64) roV okI m2 od, Mp (Value.int .i64) Value.bool okI m3 bn, Mp (Value.int .i64) (Value.int .i64) okI m4 sc, RowsI 109 5 e5L rs, RowsI 94 1 rowL ts])] := by have h := H0.absorb H5; exact h
 refine b_ret rfl rfl ?_
 refine w_a ?_
 refine w_e ?_
 refine g_ret ?_
 refine fin_ret [.tmp 4] [.slice p1 ((ascI ((roG (nw i)).l.map E5.pr)).length) c2] rfl ⟨rfl, trivial⟩ ?_
 have hw : whoL ((RA nw od bn sc).nw i) = (ascI ((roG (nw i)).l.map E5.pr)) := whoE (hR.nwOk i)
 rw [hw]
 exact ⟨p1, c2, rfl, H5.takes [0, 1, 2, 3, 4, 5, 6, 7, 8] (by decide)⟩
set_option maxRecDepth 20000 in
set_option maxHeartbeats 4000000 in
theorem rdrop_s {b m1 m2 m3 m4 : Nat} {nw : Int → Option (Ro E5)} {od : Int → Option (Ro (Ro E5))} {bn : Int → Option Bool} {sc : Int → Option Int} {rs : List (Ro E5)} {ts : List (Ro (Ro E5))} (hR : RI nw od ⟨rs, ts⟩) {i : Int} (hok_i : okI i)  (w : World) (HS : S w [Ob b (.cells #[.map (some m1), .map (some m2), .map (some m3), .map (some m4)] 88 (0, 0)), Mp (Value.int .i64) roV okI m1 nw, Mp (Value.int .i64) roV okI m2 od, Mp (Value.int .i64) Value.bool okI m3 bn, Mp (Value.int .i64) (Value.int .i64) okI m4 sc, RowsI 109 5 e5L rs, RowsI 94 1 rowL ts]) : Calls Try.prog 44 #[.pointer (some ⟨b, 0, none⟩), .int .i64 i] w fun e w' => ∃ nw' od' bn' sc' rs' ts' , RI nw' od' ⟨rs', ts'⟩ ∧ RSt.le ⟨rs, ts⟩ ⟨rs', ts'⟩ ∧ RA nw' od' bn' sc' = dropA (RA nw od bn sc) i ∧ e = .returned (.int .i64 (endE (RA nw od bn sc) i)) ∧ S w' ([Ob b (.cells #[.map (some m1), .map (some m2), .map (some m3), .map (some m4)] 88 (0, 0)), Mp (Value.int .i64) roV okI m1 nw', Mp (Value.int .i64) roV okI m2 od', Mp (Value.int .i64) Value.bool okI m3 bn', Mp (Value.int .i64) (Value.int .i64) okI m4 sc', RowsI 109 5 e5L rs', RowsI 94 1 rowL ts'] ++ [Old w (fps [Ob b (.cells #[.map (some m1), .map (some m2), .map (some m3), .map (some m4)] 88 (0, 0)), Mp (Value.int .i64) roV okI m1 nw, Mp (Value.int .i64) roV okI m2 od, Mp (Value.int .i64) Value.bool okI m3 bn, Mp (Value.int .i64) (Value.int .i64) okI m4 sc, RowsI 109 5 e5L rs, RowsI 94 1 rowL ts])]) := by
 have H0 := HS.beginI
 have hln := (hR.nwOk i).len
 refine enter 23 Try.func44 rfl rfl rfl ?_
 refine g_weak [(0, .pointer (some ⟨b, 0, none⟩)), (1, .int .i64 i)] ⟨rfl, rfl, trivial⟩ ?_
 refine w_s ?_
 refine w_a ?_
 refine w_e ?_
 refine g_seq ?_
 refine g_block ?_
 refine w_s ?_
 refine w_m ?_
 refine l_of (s_call0 H0 (wt0 rfl) (x_call' rfl rfl cl67) (piece_r _ _) rfl rfl ?_)
 intro wq1 H2
 refine w_v (v := .bool (!((pieceB i)))) (x_not (b := (pieceB i)) rfl rfl) ?_
 refine w_a ?_
 refine w_e ?_
 rcases Bool.eq_false_or_eq_true ((pieceB i)) with hb3 | hb3
 ·
  refine g_cond_f rfl (neg_of hb3) ?_
  refine w_s ?_
  refine w_r3 ?_
  refine w_1 H2 0 ?_
  refine w_m ?_
  refine w_v (v := .slice (roG (nw i)).p ((roG (nw i)).l.length) ((roG (nw i)).c)) (ex_cast (x_lookup1 (x := i) (intTy Try.underlying85 Try.underlying3) H2 1 rfl rfl rfl rfl (hok_i) ze94) (look_G _)) ?_
  refine w_v (v := .int .i64 (((roG (nw i)).l.length : Int))) (x_lenl rfl rfl Try.underlying94) ?_
  refine w_b ?_
  refine w_a ?_
  refine w_e ?_
  refine g_weak [(0, .pointer (some ⟨b, 0, none⟩)), (1, .int .i64 i), (9, .bool (decide ((((roG (nw i)).l.length : Int) : Int) = 0)))] ⟨rfl, rfl, rfl, trivial⟩ ?_
  by_cases hb4 : (((roG (nw i)).l.length : Int) : Int) = 0
  ·
   have hem : (roG (nw i)).l = [] := List.eq_nil_of_length_eq_zero (by omega)
   have hem2 : (RA nw od bn sc).nw i = noT := by show trE (roG (nw i)).l = noT; rw [hem]; rfl
   refine g_cond_t rfl (decide_eq_true hb4) ?_
   refine w_s ?_
   refine w_a ?_
   refine w_e ?_
   refine g_ret ?_
   refine g_in_ret ?_
   refine g_then_ret ?_
   refine fin_ret [.tmp 4] [.int .i64 8] rfl ⟨rfl, trivial⟩ ?_
   have hE : endE (RA nw od bn sc) i = 8 := endE_8 hb3 hem2
   rw [hE]
   exact ⟨nw, od, bn, sc, rs, ts, hR, .refl _, ((failA_err hE (by decide)).2.2.2.2).symm, rfl, H2.takes [0, 1, 2, 3, 4, 5, 6, 7] (by decide)⟩
  ·
   have hne : ¬ (roG (nw i)).l = [] := fun h9 => hb4 (by rw [h9]; rfl)
   refine g_cond_f rfl (decide_eq_false hb4) ?_
   refine g_skip ?_
   refine g_in ?_
   refine g_then ?_
   refine w_s ?_
   refine w_r3 ?_
   refine w_1 H2 0 ?_
   refine w_m ?_
   refine l_of (s_delete (x := i) (intTy Try.underlying85 Try.underlying3) H2 1 (wt0 rfl) rfl rfl rfl rfl rfl (hok_i) ?_)
   intro wq5 H6
   refine w_e ?_
   refine w_s ?_
   refine w_a ?_
   refine w_e ?_
   refine g_ret ?_
   refine fin_ret [.tmp 4] [.int .i64 0] rfl ⟨rfl, trivial⟩ ?_
   have hE : endE (RA nw od bn sc) i = 0 := endE_0 hb3 rfl hne
   rw [hE]
   exact ⟨delM nw i, od, bn, sc, rs, ts, hR.delNw i, .refl _, RA_drop hE, rfl, H6.takes [0, 1, 2, 3, 4, 5, 6, 7] (by decide)⟩
 ·
  refine g_cond_t rfl (neg_of hb3) ?_
  refine w_s ?_
  refine w_a ?_
  refine w_e ?_
  refine g_ret ?_
  refine g_in_ret ?_
  refine g_then_ret ?_
  refine fin_ret [.tmp 4] [.int .i64 7] rfl ⟨rfl, trivial⟩ ?_
  have hE : endE (RA nw od bn sc) i = 7 := endE_7 hb3
  rw [hE]
  exact ⟨nw, od, bn, sc, rs, ts, hR, .refl _, ((failA_err hE (by decide)).2.2.2.2).symm, rfl, H2.takes [0, 1, 2, 3, 4, 5, 6, 7] (by decide)⟩
set_option maxRecDepth 20000 in
set_option maxHeartbeats 4000000 in
theorem rsent_s {b m1 m2 m3 m4 : Nat} {nw : Int → Option (Ro E5)} {od : Int → Option (Ro (Ro E5))} {bn : Int → Option Bool} {sc : Int → Option Int} {rs : List (Ro E5)} {ts : List (Ro (Ro E5))} (hR : RI nw od ⟨rs, ts⟩) {p i bg ln : Int} {data : ByteArray} (hok_p : okI p) (hok_i : okI i)  (w : World) (HS : S w [Ob b (.cells #[.map (some m1), .map (some m2), .map (some m3), .map (some m4)] 88 (0, 0)), Mp (Value.int .i64) roV okI m1 nw, Mp (Value.int .i64) roV okI m2 od, Mp (Value.int .i64) Value.bool okI m3 bn, Mp (Value.int .i64) (Value.int .i64) okI m4 sc, RowsI 109 5 e5L rs, RowsI 94 1 rowL ts]) : Calls Try.prog 45 #[.pointer (some ⟨b, 0, none⟩), .int .i64 p, .agg #[.int .i64 i, .int .i64 bg, .int .i64 ln], .string data] w fun e w' => ∃ nw' od' bn' sc' rs' ts' , RI nw' od' ⟨rs', ts'⟩ ∧ RSt.le ⟨rs, ts⟩ ⟨rs', ts'⟩ ∧ RA nw' od' bn' sc' = sentA (RA nw od bn sc) p i bg ln data ∧ e = .returned (.int .i64 (sentE (RA nw od bn sc) p i bg ln data)) ∧ S w' ([Ob b (.cells #[.map (some m1), .map (some m2), .map (some m3), .map (some m4)] 88 (0, 0)), Mp (Value.int .i64) roV okI m1 nw', Mp (Value.int .i64) roV okI m2 od', Mp (Value.int .i64) Value.bool okI m3 bn', Mp (Value.int .i64) (Value.int .i64) okI m4 sc', RowsI 109 5 e5L rs', RowsI 94 1 rowL ts'] ++ [Old w (fps [Ob b (.cells #[.map (some m1), .map (some m2), .map (some m3), .map (some m4)] 88 (0, 0)), Mp (Value.int .i64) roV okI m1 nw, Mp (Value.int .i64) roV okI m2 od, Mp (Value.int .i64) Value.bool okI m3 bn, Mp (Value.int .i64) (Value.int .i64) okI m4 sc, RowsI 109 5 e5L rs, RowsI 94 1 rowL ts])]) := by
 have H0 := HS.beginI
 have hln := (hR.nwOk i).len
 refine enter 70 Try.func45 rfl rfl rfl ?_
 refine g_weak [(0, .pointer (some ⟨b, 0, none⟩)), (1, .int .i64 p), (2, .agg #[.int .i64 i, .int .i64 bg, .int .i64 ln]), (3, .string data)] ⟨rfl, rfl, rfl, rfl, trivial⟩ ?_
 refine w_s ?_
 refine l_of (s_box H0 (wt0 rfl) rfl rfl rfl rfl ?_)
 intro g1 wq2 H3
 refine w_a ?_
 refine w_e ?_
 refine g_seq ?_
 refine g_block ?_
 refine w_s ?_
 refine w_m ?_
 refine w_v (v := .agg #[.int .i64 i, .int .i64 bg, .int .i64 ln]) (x_loadA H3 0 rfl rfl Try.underlying37 rfl sz37 rfl rfl rfl) ?_
 refine l_of (s_call0 H3 (wt0 rfl) (x_call' rfl rfl cl70) (right_r _ _ _ _ _) rfl rfl ?_)
 intro wq4 H5
 refine w_v (v := .bool (!((peerB p && blockB i bg ln)))) (x_not (b := (peerB p && blockB i bg ln)) rfl rfl) ?_
 refine w_a ?_
 refine w_e ?_
 rcases Bool.eq_false_or_eq_true ((peerB p && blockB i bg ln)) with hb6 | hb6
 ·
  have hbt := blockB_true hb6
  refine g_cond_f rfl (neg_of hb6) ?_
  refine w_s ?_
  refine w_m ?_
  refine w_v (v := .int .i64 ((data.size : Int))) (x_lens rfl rfl Try.underlying9) ?_
  refine w_f 2 ?_
  refine w_1 H5 0 ?_
  refine w_b (v := .bool (!decide (((data.size : Int) : Int) = ln))) (hb := b_neq) ?_
  refine w_a ?_
  refine w_e ?_
  refine g_weak [(0, .pointer (some ⟨b, 0, none⟩)), (1, .int .i64 p), (3, .string data), (6, .pointer (some ⟨g1, 0, none⟩)), (16, .bool (!decide (((data.size : Int) : Int) = ln)))] ⟨rfl, rfl, rfl, rfl, rfl, trivial⟩ ?_
  by_cases hb7 : ((data.size : Int) : Int) = ln
  ·
   refine g_cond_f rfl (nf hb7) ?_
   refine w_s ?_
   refine w_r3 ?_
   refine w_1 H5 1 ?_
   refine w_m ?_
   refine w_v (v := .bool (((bn p).getD false))) (ex_cast (x_lookup1 (x := p) (intTy Try.underlying29 Try.underlying3) H5 4 rfl rfl rfl rfl (hok_p) ze4) (look_B _)) ?_
   refine w_a ?_
   refine w_e ?_
   rcases Bool.eq_false_or_eq_true (((bn p).getD false)) with hb8 | hb8
   ·
    refine g_cond_t rfl hb8 ?_
    refine w_s ?_
    refine w_a ?_
    refine w_e ?_
    refine g_weak [(8, .int .i64 20)] ⟨rfl, trivial⟩ ?_
    refine g_ret ?_
    refine g_in_ret ?_
    refine g_then_ret ?_
    refine fin_ret [.tmp 8] [.int .i64 20] rfl ⟨rfl, trivial⟩ ?_
    have hE : (sentE (RA nw od bn sc) p i bg ln data) = 20 := sentE_20 hb6 hb7 hb8
    rw [hE]
    exact ⟨nw, od, bn, sc, rs, ts, hR, .refl _, (sentA_err hE (by decide)).symm, rfl, H5.takes [1, 2, 3, 4, 5, 6, 7, 8] (by decide)⟩
   ·
    refine g_cond_f rfl hb8 ?_
    refine g_skip ?_
    refine g_in ?_
    refine g_then ?_
    refine g_seq ?_
    refine g_seq ?_
    refine g_quiet (by kernel_rfl) (by kernel_rfl) H5 ?_
    refine q_val (v := .pointer (some ⟨b, 0, none⟩)) (wt0 rfl) rfl rfl (fun wx H => x_move rfl rfl) ?_
    refine q_val (v := .pointer (some ⟨b, 0, none⟩)) (wt0 rfl) rfl rfl (fun wx H => x_nilCheck rfl rfl) ?_
    refine q_val (v := .pointer (some ⟨b, 0, none⟩)) (wt0 rfl) rfl rfl (fun wx H => x_fieldAddr rfl rfl fo88_0 rfl) ?_
    refine q_val (v := .map (some m1)) (wt0 rfl) rfl rfl (fun wx H => x_load1 H 1 rfl rfl Try.underlying85 rfl rfl rfl) ?_
    refine q_val (v := .pointer (some ⟨g1, 0, none⟩)) (wt0 rfl) rfl rfl (fun wx H => x_fieldAddr rfl rfl fo37_0 rfl) ?_
    refine q_val (v := .int .i64 i) (wt0 rfl) rfl rfl (fun wx H => x_load1 H 0 rfl rfl Try.underlying3 rfl rfl rfl) ?_
    refine q_val (v := .slice (roG (nw i)).p ((roG (nw i)).l.length) ((roG (nw i)).c)) (wt0 rfl) rfl rfl (fun wx H => ex_cast (x_lookup1 (x := i) (intTy Try.underlying85 Try.underlying3) H 2 rfl rfl rfl rfl (hok_i) ze94) (look_G _)) ?_
    refine q_val (v := .int .i64 (((roG (nw i)).l.length : Int))) (wt0 rfl) rfl rfl (fun wx H => x_lenl rfl rfl Try.underlying94) ?_
    refine q_val (v := .int .i64 0) (wt0 rfl) rfl rfl (fun wx H => x_move rfl rfl) ?_
    refine q_nil (fun wq9 H10 => ?_)
    refine g_then ?_
    refine g_weak [(0, .pointer (some ⟨b, 0, none⟩)), (1, .int .i64 p), (3, .string data), (6, .pointer (some ⟨g1, 0, none⟩)), (35, .slice (roG (nw i)).p ((roG (nw i)).l.length) ((roG (nw i)).c)), (36, .int .i64 (((roG (nw i)).l.length : Int))), (37, .int .i64 0)] ⟨rfl, rfl, rfl, rfl, rfl, rfl, rfl, trivial⟩ ?_
    refine g_block ?_
    refine g_loop (ι := Nat) (fun k => [(0, .pointer (some ⟨b, 0, none⟩)), (1, .int .i64 p), (3, .string data), (6, .pointer (some ⟨g1, 0, none⟩)), (35, .slice (roG (nw i)).p ((roG (nw i)).l.length) ((roG (nw i)).c)), (36, .int .i64 (((roG (nw i)).l.length : Int))), (37, .int .i64 ((k : Int)))]) (fun k wx => (k ≤ (roG (nw i)).l.length) ∧ (∀ y ∈ (roG (nw i)).l.take k, ¬ y.bg = bg) ∧ S wx [Ob g1 (.cells #[.int .i64 i, .int .i64 bg, .int .i64 ln] 37 (0, 0)), Ob b (.cells #[.map (some m1), .map (some m2), .map (some m3), .map (some m4)] 88 (0, 0)), Mp (Value.int .i64) roV okI m1 nw, Mp (Value.int .i64) roV okI m2 od, Mp (Value.int .i64) Value.bool okI m3 bn, Mp (Value.int .i64) (Value.int .i64) okI m4 sc, RowsI 109 5 e5L rs, RowsI 94 1 rowL ts, Old w (fps [Ob b (.cells #[.map (some m1), .map (some m2), .map (some m3), .map (some m4)] 88 (0, 0)), Mp (Value.int .i64) roV okI m1 nw, Mp (Value.int .i64) roV okI m2 od, Mp (Value.int .i64) Value.bool okI m3 bn, Mp (Value.int .i64) (Value.int .i64) okI m4 sc, RowsI 109 5 e5L rs, RowsI 94 1 rowL ts])]) (fun k => ((roG (nw i)).l.length) - k) (0) ⟨rfl, rfl, rfl, rfl, rfl, rfl, rfl, trivial⟩ ⟨Nat.zero_le _, (fun x hx => by simp at hx), H10⟩ ?_
    rintro k wq11 ⟨hk, hno, H12⟩
    refine g_weak [(0, .pointer (some ⟨b, 0, none⟩)), (1, .int .i64 p), (3, .string data), (6, .pointer (some ⟨g1, 0, none⟩)), (35, .slice (roG (nw i)).p ((roG (nw i)).l.length) ((roG (nw i)).c)), (36, .int .i64 (((roG (nw i)).l.length : Int))), (37, .int .i64 ((k : Int)))] ⟨rfl, rfl, rfl, rfl, rfl, rfl, rfl, trivial⟩ ?_
    refine w_s ?_
    refine w_b ?_
    refine w_e ?_
    refine g_seq ?_
    by_cases hb13 : ((k : Int) : Int) < ((roG (nw i)).l.length : Int)
    ·
     refine g_cond_t rfl (decide_eq_true hb13) ?_
     refine g_skip ?_
     refine g_then ?_
     refine g_seq ?_
     refine g_block ?_
     refine w_s ?_
     refine w_v (v := .pointer (((roG (nw i)).p).map fun q => q.add (k * 5))) (x_idxR k ((rows_in (H12.at (k := 6) rfl) (hR.nwIn i))) rfl rfl rfl Try.underlying94 sz109 (by omega)) ?_
     have hlq := ((rows_in (H12.at (k := 6) rfl) (hR.nwIn i))).lenL e5E
     obtain ⟨x14, hx14⟩ := ex_at (l := (roG (nw i)).l) (j := k) (by omega)
     clear hlq
     refine w_v (v := .agg #[.int .i64 (x14.pr), .int .i64 (x14.pc), .int .i64 (x14.bg), .int .i64 (x14.ln), .string (x14.dg)]) (x_loadRA (vs := e5L x14) k ((rows_in (H12.at (k := 6) rfl) (hR.nwIn i))) (by omega) rfl rfl Try.underlying109 rfl sz109 (by rfl) (e5E.flAt hx14)) ?_
     refine l_of (s_alloc H12 (wt0 rfl) rfl rfl rfl ze109 ?_)
     intro g15 wq16 H17
     refine l_of (w_st #[.int .i64 (x14.pr), .int .i64 (x14.pc), .int .i64 (x14.bg), .int .i64 (x14.ln), .string (x14.dg)] H17 0 ?_)
     intro wq18 H19
     refine w_e ?_
     refine w_s ?_
     refine w_r2 ?_
     refine w_1 H19 0 ?_
     refine w_f 1 ?_
     refine w_1 H19 1 ?_
     refine w_b ?_
     refine w_e ?_
     by_cases hb20 : (x14.bg : Int) = bg
     ·
      refine g_cond_t rfl (decide_eq_true hb20) ?_
      refine w_s ?_
      refine w_a ?_
      refine w_e ?_
      refine g_weak [(8, .int .i64 6)] ⟨rfl, trivial⟩ ?_
      refine g_ret ?_
      refine g_in_ret ?_
      refine g_then_ret ?_
      refine g_then_ret ?_
      refine g_in_ret ?_
      refine g_then_ret ?_
      refine fin_ret [.tmp 8] [.int .i64 6] rfl ⟨rfl, trivial⟩ ?_
      have hE : (sentE (RA nw od bn sc) p i bg ln data) = 6 := sentE_6 hb6 hb7 hb8 ((begE (hR.nwOk i)).2 ⟨x14, List.mem_of_getElem? hx14, hb20⟩)
      rw [hE]
      exact ⟨nw, od, bn, sc, rs, ts, hR, .refl _, (sentA_err hE (by decide)).symm, rfl, H19.takes [2, 3, 4, 5, 6, 7, 8, 9] (by decide)⟩
     ·
      refine g_cond_f rfl (decide_eq_false hb20) ?_
      refine g_skip ?_
      refine g_in ?_
      refine g_then ?_
      refine g_region ?_
      refine w_b (v := .int .i64 (((k + 1 : Nat) : Int))) (hb := (b_add (by rw [w64 (by omega)]; omega))) ?_
      refine w_m ?_
      refine w_e ?_
      refine g_round (i := (k)) ((k + 1)) ?_ ?_ ?_
      · exact ⟨rfl, rfl, rfl, rfl, rfl, rfl, rfl, trivial⟩
      · exact ⟨by omega, (none_take hno hx14 hb20), (H19.mask [false, true, true, true, true, true, true, true, true, true])⟩
      · (try dsimp only); omega
    ·
     refine g_cond_f rfl (decide_eq_false hb13) ?_
     refine g_exit ?_
     refine g_then_exit ?_
     refine g_then_exit ?_
     refine g_in_hit ?_
     refine g_then ?_
     refine g_seq ?_
     refine g_any [] (fun wx => S wx [Ob g1 (.cells #[.int .i64 i, .int .i64 bg, .int .i64 ln] 37 (0, 0)), Ob b (.cells #[.map (some m1), .map (some m2), .map (some m3), .map (some m4)] 88 (0, 0)), Mp (Value.int .i64) roV okI m1 nw, Mp (Value.int .i64) roV okI m2 od, Mp (Value.int .i64) Value.bool okI m3 bn, Mp (Value.int .i64) (Value.int .i64) okI m4 sc, RowsI 109 5 e5L rs, RowsI 94 1 rowL ts, Old w (fps [Ob b (.cells #[.map (some m1), .map (some m2), .map (some m3), .map (some m4)] 88 (0, 0)), Mp (Value.int .i64) roV okI m1 nw, Mp (Value.int .i64) roV okI m2 od, Mp (Value.int .i64) Value.bool okI m3 bn, Mp (Value.int .i64) (Value.int .i64) okI m4 sc, RowsI 109 5 e5L rs, RowsI 94 1 rowL ts])]) [22] (by kernel_rfl) H12 (fun wq21 H22 => ?_)
     refine w_t 0 rfl H22 (fun _ _ => xm) ?_
     refine w_t 1 rfl H22 (fun _ _ => xn) ?_
     refine w_t 2 rfl H22 (fun _ _ => xf 0) ?_
     refine w_t 3 rfl H22 (fun _ H => xl H 1) ?_
     refine w_t 4 rfl H22 (fun _ _ => xf 0) ?_
     refine w_t 5 rfl H22 (fun _ H => xl H 0) ?_
     refine w_t 7 rfl H22 (fun _ _ => xm) ?_
     refine w_t 8 rfl H22 (fun _ _ => xn) ?_
     refine w_t 9 rfl H22 (fun _ _ => xf 0) ?_
     refine w_t 10 rfl H22 (fun _ H => xl H 1) ?_
     refine w_t 11 rfl H22 (fun _ _ => xf 0) ?_
     refine w_t 12 rfl H22 (fun _ H => xl H 0) ?_
     refine w_t (v := .slice (roG (nw i)).p ((roG (nw i)).l.length) ((roG (nw i)).c)) 13 rfl H22 (fun _ H => ex_cast (x_lookup1 (x := i) (intTy Try.underlying85 Try.underlying3) H 2 rfl rfl rfl rfl (hok_i) ze94) (look_G _)) ?_
     refine w_t 15 rfl H22 (fun _ _ => xm) ?_
     refine w_t (v := .agg #[.int .i64 i, .int .i64 bg, .int .i64 ln]) 16 rfl H22 (fun _ H => x_loadA H 0 rfl rfl Try.underlying37 rfl sz37 rfl rfl rfl) ?_
     refine w_t 17 rfl H22 (fun _ _ => xm) ?_
     refine a_one (i := 6) (by kernel_rfl) rfl ?_
     refine s_buildSlice0 H22 (wt0 rfl) rfl rfl rfl Try.underlying94 sz109 ?_
     intro g23 wq24 H25
     replace H25 : S wq24 [Rw 109 5 (some ⟨g23, 0, none⟩) 0 0 (fl e5L ([])), Ob g1 (.cells #[.int .i64 i, .int .i64 bg, .int .i64 ln] 37 (0, 0)), Ob b (.cells #[.map (some m1), .map (some m2), .map (some m3), .map (some m4)] 88 (0, 0)), Mp (Value.int .i64) roV okI m1 nw, Mp (Value.int .i64) roV okI m2 od, Mp (Value.int .i64) Value.bool okI m3 bn, Mp (Value.int .i64) (Value.int .i64) okI m4 sc, RowsI 109 5 e5L rs, RowsI 94 1 rowL ts, Old w (fps [Ob b (.cells #[.map (some m1), .map (some m2), .map (some m3), .map (some m4)] 88 (0, 0)), Mp (Value.int .i64) roV okI m1 nw, Mp (Value.int .i64) roV okI m2 od, Mp (Value.int .i64) Value.bool okI m3 bn, Mp (Value.int .i64) (Value.int .i64) okI m4 sc, RowsI 109 5 e5L rs, RowsI 94 1 rowL ts])] := S.obFl e5E H25 (k := 0) rfl rfl (by decide) rfl
     refine a_k (H25.mask [false, true, true, true, true, true, true, true, true, true]) ?_
     refine a_one (i := 14) (by kernel_rfl) rfl ?_
     have hln30a := (H25.rwReads (k := 0) rfl).lenL e5E
     have hln30b := ((rows_in (H25.at (k := 7) rfl) (hR.nwIn i))).lenL e5E
     have hln30 : ((roG (nw i)).l).length = 0 + ((roG (nw i)).l.length) := by omega
     refine s_appLn (l := []) (l2 := (roG (nw i)).l) e5E H25 0 (wt0 rfl) rfl rfl rfl rfl rfl rfl Try.underlying94 inf109 rfl (by decide) ((rows_in (H25.at (k := 7) rfl) (hR.nwIn i))) (by omega) ?_
     intro p26 c27 wq28 H29
     rw [List.nil_append] at H29 ⊢
     replace H29 : S wq28 [Rw 109 5 p26 (((roG (nw i)).l).length) c27 (fl e5L ((roG (nw i)).l)), Ob g1 (.cells #[.int .i64 i, .int .i64 bg, .int .i64 ln] 37 (0, 0)), Ob b (.cells #[.map (some m1), .map (some m2), .map (some m3), .map (some m4)] 88 (0, 0)), Mp (Value.int .i64) roV okI m1 nw, Mp (Value.int .i64) roV okI m2 od, Mp (Value.int .i64) Value.bool okI m3 bn, Mp (Value.int .i64) (Value.int .i64) okI m4 sc, RowsI 109 5 e5L rs, RowsI 94 1 rowL ts, Old w (fps [Ob b (.cells #[.map (some m1), .map (some m2), .map (some m3), .map (some m4)] 88 (0, 0)), Mp (Value.int .i64) roV okI m1 nw, Mp (Value.int .i64) roV okI m2 od, Mp (Value.int .i64) Value.bool okI m3 bn, Mp (Value.int .i64) (Value.int .i64) okI m4 sc, RowsI 109 5 e5L rs, RowsI 94 1 rowL ts])] := H29
     refine a_k (H29.mask [false, true, true, true, true, true, true, true, true, true]) ?_
     refine a_one (i := 18) (by kernel_rfl) rfl ?_
     refine s_call0 H29 (wt0 rfl) (x_call' rfl rfl cl71) (sum_r data (by omega) _) rfl rfl ?_
     intro wq31 H32
     have cm1 := H32.mask [false, true, true, true, true, true, true, true, true, true]
     refine a_k cm1 ?_
     refine w_t (v := .agg #[.int .i64 p, .int .i64 i, .int .i64 bg, .int .i64 ln, .string ((sumS data))]) 19 rfl cm1 (fun _ _ => x_build (vs := [.int .i64 p, .agg #[.int .i64 i, .int .i64 bg, .int .i64 ln], .string ((sumS data))]) rfl rfl (cells := #[.int .i64 p, .int .i64 i, .int .i64 bg, .int .i64 ln, .string ((sumS data))]) (by kernel_rfl)) ?_
     refine a_one (i := 20) (by kernel_rfl) rfl ?_
     refine s_buildSlice H32 (wt0 rfl) rfl rfl rfl (vs := [.agg #[.int .i64 p, .int .i64 i, .int .i64 bg, .int .i64 ln, .string ((sumS data))]]) rfl Try.underlying94 sz109 ze109 rfl rfl (cells := #[.int .i64 p, .int .i64 i, .int .i64 bg, .int .i64 ln, .string ((sumS data))]) (by kernel_rfl) ?_
     intro g33 wq34 H35
     refine a_k (H35.mask [false, false, true, true, true, true, true, true, true, true, true]) ?_
     refine a_one (i := 21) (by kernel_rfl) rfl ?_
     have hln40a := (H35.rwReads (k := 1) rfl).lenL e5E
     have hln40 : ((roG (nw i)).l ++ [(⟨p, i, bg, ln, (sumS data)⟩ : E5)]).length = (((roG (nw i)).l).length) + 1 := by simp only [List.length_append, List.length_cons, List.length_nil] <;> omega
     refine s_appBn (m := 1) (l := (roG (nw i)).l) (l2 := [(⟨p, i, bg, ln, (sumS data)⟩ : E5)]) e5E H35 1 (j0 := 0) rfl rfl ⟨rfl, Nat.le_refl _⟩ (wt0 rfl) rfl rfl rfl rfl rfl rfl Try.underlying94 inf109 rfl (by decide) (by omega) ?_
     intro p36 c37 wq38 H39
     refine a_k (H39.mask [false, false, true, true, true, true, true, true, true, true, true]) ?_
     refine a_one (i := 22) (by kernel_rfl) rfl ?_
     refine s_mapUpdate (x := i) (a := (⟨p36, c37, ((roG (nw i)).l ++ [(⟨p, i, bg, ln, (sumS data)⟩ : E5)])⟩ : Ro E5)) (intTy Try.underlying85 Try.underlying3) H39 4 (wt0 rfl) rfl rfl rfl rfl rfl rfl (hok_i) ?_
     intro wq41 H42
     refine a_kt rfl ?_
     refine a_done (by kernel_rfl) ?_
     refine g_then ?_
     refine g_weak [] trivial ?_
     refine w_s ?_
     refine w_a ?_
     refine w_e ?_
     refine g_ret ?_
     refine fin_ret [.tmp 8] [.int .i64 0] rfl ⟨rfl, trivial⟩ ?_
     have H43 : S wq41 [RowsI 109 5 e5L (rs ++ [(⟨p36, c37, ((roG (nw i)).l ++ [(⟨p, i, bg, ln, (sumS data)⟩ : E5)])⟩ : Ro E5)]), Ob g33 (.cells #[.int .i64 p, .int .i64 i, .int .i64 bg, .int .i64 ln, .string ((sumS data))] 109 (0, 0)), Ob g1 (.cells #[.int .i64 i, .int .i64 bg, .int .i64 ln] 37 (0, 0)), Ob b (.cells #[.map (some m1), .map (some m2), .map (some m3), .map (some m4)] 88 (0, 0)), Mp (Value.int .i64) roV okI m1 (upM nw i (⟨p36, c37, ((roG (nw i)).l ++ [(⟨p, i, bg, ln, (sumS data)⟩ : E5)])⟩ : Ro E5)), Mp (Value.int .i64) roV okI m2 od, Mp (Value.int .i64) Value.bool okI m3 bn, Mp (Value.int .i64) (Value.int .i64) okI m4 sc, RowsI 94 1 rowL ts, Old w (fps [Ob b (.cells #[.map (some m1), .map (some m2), .map (some m3), .map (some m4)] 88 (0, 0)), Mp (Value.int .i64) roV okI m1 nw, Mp (Value.int .i64) roV okI m2 od, Mp (Value.int .i64) Value.bool okI m3 bn, Mp (Value.int .i64) (Value.int .i64) okI m4 sc, RowsI 109 5 e5L rs, RowsI 94 1 rowL ts])] := S.rowsAdd (H42.takes [8, 1, 0, 2, 3, 4, 5, 6, 7, 9, 10] (by decide)) rfl
     have hlq : (roG (nw i)).l.length = (roG (nw i)).l.length := rfl
     rw [List.take_of_length_le (by omega)] at hno
     have hE : (sentE (RA nw od bn sc) p i bg ln data) = 0 := sentE_ok hb6 hb7 hb8 (fun s v h9 h8 => by obtain ⟨x, hx, e⟩ := (begE (hR.nwOk i)).1 ⟨s, v, h9, h8⟩; exact hno x hx e)
     rw [hE]
     have hle : RSt.le ⟨rs, ts⟩ ⟨rs ++ [(⟨p36, c37, ((roG (nw i)).l ++ [(⟨p, i, bg, ln, (sumS data)⟩ : E5)])⟩ : Ro E5)], ts⟩ := ⟨fun x hx => List.mem_append_left _ hx, fun _ h => h⟩
     exact ⟨(upM nw i (⟨p36, c37, ((roG (nw i)).l ++ [(⟨p, i, bg, ln, (sumS data)⟩ : E5)])⟩ : Ro E5)), od, bn, sc, _, ts, hR.setNw hle (List.mem_append_right _ (List.mem_singleton.2 rfl)) ((hR.nwOk i).snoc rfl ⟨hbt.2.2, hbt.1⟩ hno), hle, RA_sent hE hno rfl, rfl, H43.takes [3, 4, 5, 6, 7, 0, 8, 9] (by decide)⟩
  ·
   refine g_cond_t rfl (nt hb7) ?_
   refine w_s ?_
   refine w_a ?_
   refine w_e ?_
   refine g_ret ?_
   refine g_in_ret ?_
   refine g_then_ret ?_
   refine fin_ret [.tmp 8] [.int .i64 11] rfl ⟨rfl, trivial⟩ ?_
   have hE : (sentE (RA nw od bn sc) p i bg ln data) = 11 := sentE_11 hb6 hb7
   rw [hE]
   exact ⟨nw, od, bn, sc, rs, ts, hR, .refl _, (sentA_err hE (by decide)).symm, rfl, H5.takes [1, 2, 3, 4, 5, 6, 7, 8] (by decide)⟩
 ·
  refine g_cond_t rfl (neg_of hb6) ?_
  refine w_s ?_
  refine w_a ?_
  refine w_e ?_
  refine g_ret ?_
  refine g_in_ret ?_
  refine g_then_ret ?_
  refine fin_ret [.tmp 8] [.int .i64 7] rfl ⟨rfl, trivial⟩ ?_
  have hE : (sentE (RA nw od bn sc) p i bg ln data) = 7 := sentE_7 hb6
  rw [hE]
  exact ⟨nw, od, bn, sc, rs, ts, hR, .refl _, (sentA_err hE (by decide)).symm, rfl, H5.takes [1, 2, 3, 4, 5, 6, 7, 8] (by decide)⟩
end Go.Proofs.Ytlikhpfdncidkaa
