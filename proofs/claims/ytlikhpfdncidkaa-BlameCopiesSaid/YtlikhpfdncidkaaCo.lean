import Derived.Test.YtlikhpfdncidkaaFk
import Derived.Test.YtlikhpfdncidkaaCn
set_option linter.unusedSimpArgs false
set_option linter.unusedVariables false
namespace Go.Proofs.Ytlikhpfdncidkaa
open Go.RowKit

set_option maxRecDepth 20000 in
set_option maxHeartbeats 4000000 in
theorem rcopy_s {b m1 m2 m3 m4 : Nat} {nw : Int → Option (Ro E5)} {od : Int → Option (Ro (Ro E5))} {bn : Int → Option Bool} {sc : Int → Option Int} {rs : List (Ro E5)} {ts : List (Ro (Ro E5))} (hR : RI nw od ⟨rs, ts⟩)  (w : World) (HS : S w [Ob b (.cells #[.map (some m1), .map (some m2), .map (some m3), .map (some m4)] 88 (0, 0)), Mp (Value.int .i64) roV okI m1 nw, Mp (Value.int .i64) roV okI m2 od, Mp (Value.int .i64) Value.bool okI m3 bn, Mp (Value.int .i64) (Value.int .i64) okI m4 sc, RowsI 109 5 e5L rs, RowsI 94 1 rowL ts]) : Calls Try.prog 23 #[.pointer (some ⟨b, 0, none⟩)] w fun e w' => ∃ d k1 k2 k3 k4 nwc odc bnc scc rsx tsx, RI nwc odc ⟨rsx, tsx⟩ ∧ RSt.le ⟨rs, ts⟩ ⟨rsx, tsx⟩ ∧ RA nwc odc bnc scc = rst (RA nw od bn sc) ∧ e = .returned (.pointer (some ⟨d, 0, none⟩)) ∧ S w' ([Ob d (.cells #[.map (some k1), .map (some k2), .map (some k3), .map (some k4)] 88 (0, 0)), Mp (Value.int .i64) roV okI k1 nwc, Mp (Value.int .i64) roV okI k2 odc, Mp (Value.int .i64) Value.bool okI k3 bnc, Mp (Value.int .i64) (Value.int .i64) okI k4 scc] ++ [Ob b (.cells #[.map (some m1), .map (some m2), .map (some m3), .map (some m4)] 88 (0, 0)), Mp (Value.int .i64) roV okI m1 nw, Mp (Value.int .i64) roV okI m2 od, Mp (Value.int .i64) Value.bool okI m3 bn, Mp (Value.int .i64) (Value.int .i64) okI m4 sc, RowsI 109 5 e5L rsx, RowsI 94 1 rowL tsx] ++ [Old w (fps [Ob b (.cells #[.map (some m1), .map (some m2), .map (some m3), .map (some m4)] 88 (0, 0)), Mp (Value.int .i64) roV okI m1 nw, Mp (Value.int .i64) roV okI m2 od, Mp (Value.int .i64) Value.bool okI m3 bn, Mp (Value.int .i64) (Value.int .i64) okI m4 sc, RowsI 109 5 e5L rs, RowsI 94 1 rowL ts])]) := by
 have H0 := HS.beginI
 refine enter 82 Try.func23 rfl rfl rfl ?_
 refine g_weak [(0, .pointer (some ⟨b, 0, none⟩))] ⟨rfl, trivial⟩ ?_
 refine w_s ?_
 refine w_a ?_
 refine w_e ?_
 refine w_s ?_
 refine l_of (s_call (wt0 rfl) (x_call' rfl rfl cl19) (rnew_s _) ?_)
 rintro _ wq1 ⟨d, k1, k2, k3, k4, rfl, H2⟩
 replace H2 : S wq1 [Ob d (.cells #[.map (some k1), .map (some k2), .map (some k3), .map (some k4)] 88 (0, 0)), Mp (Value.int .i64) roV okI k1 ((fun _ => none) : Int → Option (Ro E5)), Mp (Value.int .i64) roV okI k2 ((fun _ => none) : Int → Option (Ro (Ro E5))), Mp (Value.int .i64) Value.bool okI k3 ((fun _ => none) : Int → Option Bool), Mp (Value.int .i64) (Value.int .i64) okI k4 ((fun _ => none) : Int → Option Int), Ob b (.cells #[.map (some m1), .map (some m2), .map (some m3), .map (some m4)] 88 (0, 0)), Mp (Value.int .i64) roV okI m1 nw, Mp (Value.int .i64) roV okI m2 od, Mp (Value.int .i64) Value.bool okI m3 bn, Mp (Value.int .i64) (Value.int .i64) okI m4 sc, RowsI 109 5 e5L rs, RowsI 94 1 rowL ts, Old w (fps [Ob b (.cells #[.map (some m1), .map (some m2), .map (some m3), .map (some m4)] 88 (0, 0)), Mp (Value.int .i64) roV okI m1 nw, Mp (Value.int .i64) roV okI m2 od, Mp (Value.int .i64) Value.bool okI m3 bn, Mp (Value.int .i64) (Value.int .i64) okI m4 sc, RowsI 109 5 e5L rs, RowsI 94 1 rowL ts])] := by have h := H0.absorb H2; exact h
 refine b_ret rfl rfl ?_
 refine w_a ?_
 refine w_e ?_
 refine g_seq ?_
 refine w_s ?_
 refine w_r3 ?_
 refine w_1 H2 5 ?_
 refine l_of (s_rangeN (intTy Try.underlying85 Try.underlying3) H2 6 (wt0 rfl) rfl rfl rfl rfl rfl ?_)
 intro rr3 rem4 wq5 hnrem4 hrem4 H6
 refine w_e ?_
 refine g_block ?_
 refine g_loop (ι := List (Int × Ro E5) × Option (Int × Ro E5) × (Int → Option (Ro E5)) × List (Ro E5)) (fun (rem, cur, nwc, rsx) => [(0, .pointer (some ⟨b, 0, none⟩)), (3, .pointer (some ⟨d, 0, none⟩)), (17, .pointer (some ⟨rr3, 0, none⟩))]) (fun (rem, cur, nwc, rsx) wx => (CI nw rem4 rem nwc rsx) ∧ (∀ z ∈ rem, z ∈ rem4) ∧ (∀ x ∈ rs, x ∈ rsx) ∧ S wx [Ob d (.cells #[.map (some k1), .map (some k2), .map (some k3), .map (some k4)] 88 (0, 0)), Mp (Value.int .i64) roV okI k1 nwc, Mp (Value.int .i64) roV okI k2 ((fun _ => none) : Int → Option (Ro (Ro E5))), Mp (Value.int .i64) Value.bool okI k3 ((fun _ => none) : Int → Option Bool), Mp (Value.int .i64) (Value.int .i64) okI k4 ((fun _ => none) : Int → Option Int), Ob b (.cells #[.map (some m1), .map (some m2), .map (some m3), .map (some m4)] 88 (0, 0)), MpR (Value.int .i64) roV okI m1 rr3 nw rem cur, Mp (Value.int .i64) roV okI m2 od, Mp (Value.int .i64) Value.bool okI m3 bn, Mp (Value.int .i64) (Value.int .i64) okI m4 sc, RowsI 109 5 e5L rsx, RowsI 94 1 rowL ts, Old w (fps [Ob b (.cells #[.map (some m1), .map (some m2), .map (some m3), .map (some m4)] 88 (0, 0)), Mp (Value.int .i64) roV okI m1 nw, Mp (Value.int .i64) roV okI m2 od, Mp (Value.int .i64) Value.bool okI m3 bn, Mp (Value.int .i64) (Value.int .i64) okI m4 sc, RowsI 109 5 e5L rs, RowsI 94 1 rowL ts])]) (fun (rem, cur, nwc, rsx) => rem.length) (rem4, none, (fun _ => none), rs) ⟨rfl, rfl, rfl, trivial⟩ ⟨(CI.start _ _ _), (fun _ h => h), (fun _ h => h), (H6.takes [0, 1, 2, 3, 4, 5, 6, 7, 8, 9, 10, 11, 12] (by decide))⟩ ?_
 rintro ⟨rem, cur, nwc, rsx⟩ wq7 ⟨hC, hsub, hbg, H8⟩
 refine g_weak [(0, .pointer (some ⟨b, 0, none⟩)), (3, .pointer (some ⟨d, 0, none⟩)), (17, .pointer (some ⟨rr3, 0, none⟩))] ⟨rfl, rfl, rfl, trivial⟩ ?_
 refine w_s ?_
 refine l_of (s_next H8 6 (wt0 rfl) rfl rfl rfl rfl rfl (fun hnil18 => ?_) (fun q9 rem10 wx11 hp12 hok13 hN14 hm15 hl16 Hx17 => ?_))
 ·
  subst hnil18
  have H19 : S wq7 [Ob d (.cells #[.map (some k1), .map (some k2), .map (some k3), .map (some k4)] 88 (0, 0)), Mp (Value.int .i64) roV okI k1 nwc, Mp (Value.int .i64) roV okI k2 ((fun _ => none) : Int → Option (Ro (Ro E5))), Mp (Value.int .i64) Value.bool okI k3 ((fun _ => none) : Int → Option Bool), Mp (Value.int .i64) (Value.int .i64) okI k4 ((fun _ => none) : Int → Option Int), Ob b (.cells #[.map (some m1), .map (some m2), .map (some m3), .map (some m4)] 88 (0, 0)), Mp (Value.int .i64) roV okI m1 nw, Mp (Value.int .i64) roV okI m2 od, Mp (Value.int .i64) Value.bool okI m3 bn, Mp (Value.int .i64) (Value.int .i64) okI m4 sc, RowsI 109 5 e5L rsx, RowsI 94 1 rowL ts, Old w (fps [Ob b (.cells #[.map (some m1), .map (some m2), .map (some m3), .map (some m4)] 88 (0, 0)), Mp (Value.int .i64) roV okI m1 nw, Mp (Value.int .i64) roV okI m2 od, Mp (Value.int .i64) Value.bool okI m3 bn, Mp (Value.int .i64) (Value.int .i64) okI m4 sc, RowsI 109 5 e5L rs, RowsI 94 1 rowL ts])] := H8.unR (k0 := 6) rfl
  refine w_v xe ?_
  refine w_e ?_
  refine g_seq ?_
  refine g_cond_f rfl rfl ?_
  refine g_exit ?_
  refine g_then_exit ?_
  refine g_then_exit ?_
  refine g_in_hit ?_
  refine g_then ?_
  refine g_seq ?_
  refine w_s ?_
  have hC1 := hC
  have hbg1 := hbg
  refine w_r3 ?_
  refine w_1 H19 5 ?_
  refine l_of (s_rangeN (intTy Try.underlying86 Try.underlying3) H19 7 (wt0 rfl) rfl rfl rfl rfl rfl ?_)
  intro rr20 rem21 wq22 hnrem21 hrem21 H23
  refine w_e ?_
  refine g_block ?_
  refine g_loop (ι := List (Int × Ro (Ro E5)) × Option (Int × Ro (Ro E5)) × (Int → Option (Ro (Ro E5))) × List (Ro (Ro E5))) (fun (rem, cur, odc, tsx) => [(0, .pointer (some ⟨b, 0, none⟩)), (3, .pointer (some ⟨d, 0, none⟩)), (35, .pointer (some ⟨rr20, 0, none⟩))]) (fun (rem, cur, odc, tsx) wx => (CI od rem21 rem odc tsx) ∧ (∀ z ∈ rem, z ∈ rem21) ∧ (∀ x ∈ ts, x ∈ tsx) ∧ S wx [Ob d (.cells #[.map (some k1), .map (some k2), .map (some k3), .map (some k4)] 88 (0, 0)), Mp (Value.int .i64) roV okI k1 nwc, Mp (Value.int .i64) roV okI k2 odc, Mp (Value.int .i64) Value.bool okI k3 ((fun _ => none) : Int → Option Bool), Mp (Value.int .i64) (Value.int .i64) okI k4 ((fun _ => none) : Int → Option Int), Ob b (.cells #[.map (some m1), .map (some m2), .map (some m3), .map (some m4)] 88 (0, 0)), Mp (Value.int .i64) roV okI m1 nw, MpR (Value.int .i64) roV okI m2 rr20 od rem cur, Mp (Value.int .i64) Value.bool okI m3 bn, Mp (Value.int .i64) (Value.int .i64) okI m4 sc, RowsI 109 5 e5L rsx, RowsI 94 1 rowL tsx, Old w (fps [Ob b (.cells #[.map (some m1), .map (some m2), .map (some m3), .map (some m4)] 88 (0, 0)), Mp (Value.int .i64) roV okI m1 nw, Mp (Value.int .i64) roV okI m2 od, Mp (Value.int .i64) Value.bool okI m3 bn, Mp (Value.int .i64) (Value.int .i64) okI m4 sc, RowsI 109 5 e5L rs, RowsI 94 1 rowL ts])]) (fun (rem, cur, odc, tsx) => rem.length) (rem21, none, (fun _ => none), ts) ⟨rfl, rfl, rfl, trivial⟩ ⟨(CI.start _ _ _), (fun _ h => h), (fun _ h => h), (H23.takes [0, 1, 2, 3, 4, 5, 6, 7, 8, 9, 10, 11, 12] (by decide))⟩ ?_
  rintro ⟨rem, cur, odc, tsx⟩ wq24 ⟨hC, hsub, hbg, H25⟩
  refine g_weak [(0, .pointer (some ⟨b, 0, none⟩)), (3, .pointer (some ⟨d, 0, none⟩)), (35, .pointer (some ⟨rr20, 0, none⟩))] ⟨rfl, rfl, rfl, trivial⟩ ?_
  refine w_s ?_
  refine l_of (s_next H25 7 (wt0 rfl) rfl rfl rfl rfl rfl (fun hnil35 => ?_) (fun q26 rem27 wx28 hp29 hok30 hN31 hm32 hl33 Hx34 => ?_))
  ·
   subst hnil35
   have H36 : S wq24 [Ob d (.cells #[.map (some k1), .map (some k2), .map (some k3), .map (some k4)] 88 (0, 0)), Mp (Value.int .i64) roV okI k1 nwc, Mp (Value.int .i64) roV okI k2 odc, Mp (Value.int .i64) Value.bool okI k3 ((fun _ => none) : Int → Option Bool), Mp (Value.int .i64) (Value.int .i64) okI k4 ((fun _ => none) : Int → Option Int), Ob b (.cells #[.map (some m1), .map (some m2), .map (some m3), .map (some m4)] 88 (0, 0)), Mp (Value.int .i64) roV okI m1 nw, Mp (Value.int .i64) roV okI m2 od, Mp (Value.int .i64) Value.bool okI m3 bn, Mp (Value.int .i64) (Value.int .i64) okI m4 sc, RowsI 109 5 e5L rsx, RowsI 94 1 rowL tsx, Old w (fps [Ob b (.cells #[.map (some m1), .map (some m2), .map (some m3), .map (some m4)] 88 (0, 0)), Mp (Value.int .i64) roV okI m1 nw, Mp (Value.int .i64) roV okI m2 od, Mp (Value.int .i64) Value.bool okI m3 bn, Mp (Value.int .i64) (Value.int .i64) okI m4 sc, RowsI 109 5 e5L rs, RowsI 94 1 rowL ts])] := H25.unR (k0 := 7) rfl
   refine w_v xe ?_
   refine w_e ?_
   refine g_seq ?_
   refine g_cond_f rfl rfl ?_
   refine g_exit ?_
   refine g_then_exit ?_
   refine g_then_exit ?_
   refine g_in_hit ?_
   refine g_then ?_
   refine g_seq ?_
   refine w_s ?_
   have hC2 := hC
   have hbg2 := hbg
   refine w_r3 ?_
   refine w_1 H36 5 ?_
   refine l_of (s_rangeN (intTy Try.underlying29 Try.underlying3) H36 8 (wt0 rfl) rfl rfl rfl rfl rfl ?_)
   intro rr37 rem38 wq39 hnrem38 hrem38 H40
   refine w_e ?_
   refine g_block ?_
   refine g_loop (ι := List (Int × Bool) × Option (Int × Bool) × (Int → Option (Bool))) (fun (rem, cur, bnc) => [(0, .pointer (some ⟨b, 0, none⟩)), (3, .pointer (some ⟨d, 0, none⟩)), (53, .pointer (some ⟨rr37, 0, none⟩))]) (fun (rem, cur, bnc) wx => (CP bn rem38 rem bnc) ∧ (∀ z ∈ rem, z ∈ rem38) ∧ S wx [Ob d (.cells #[.map (some k1), .map (some k2), .map (some k3), .map (some k4)] 88 (0, 0)), Mp (Value.int .i64) roV okI k1 nwc, Mp (Value.int .i64) roV okI k2 odc, Mp (Value.int .i64) Value.bool okI k3 bnc, Mp (Value.int .i64) (Value.int .i64) okI k4 ((fun _ => none) : Int → Option Int), Ob b (.cells #[.map (some m1), .map (some m2), .map (some m3), .map (some m4)] 88 (0, 0)), Mp (Value.int .i64) roV okI m1 nw, Mp (Value.int .i64) roV okI m2 od, MpR (Value.int .i64) Value.bool okI m3 rr37 bn rem cur, Mp (Value.int .i64) (Value.int .i64) okI m4 sc, RowsI 109 5 e5L rsx, RowsI 94 1 rowL tsx, Old w (fps [Ob b (.cells #[.map (some m1), .map (some m2), .map (some m3), .map (some m4)] 88 (0, 0)), Mp (Value.int .i64) roV okI m1 nw, Mp (Value.int .i64) roV okI m2 od, Mp (Value.int .i64) Value.bool okI m3 bn, Mp (Value.int .i64) (Value.int .i64) okI m4 sc, RowsI 109 5 e5L rs, RowsI 94 1 rowL ts])]) (fun (rem, cur, bnc) => rem.length) (rem38, none, (fun _ => none)) ⟨rfl, rfl, rfl, trivial⟩ ⟨(CP.start _ _), (fun _ h => h), (H40.takes [0, 1, 2, 3, 4, 5, 6, 7, 8, 9, 10, 11, 12] (by decide))⟩ ?_
   rintro ⟨rem, cur, bnc⟩ wq41 ⟨hC, hsub, H42⟩
   refine g_weak [(0, .pointer (some ⟨b, 0, none⟩)), (3, .pointer (some ⟨d, 0, none⟩)), (53, .pointer (some ⟨rr37, 0, none⟩))] ⟨rfl, rfl, rfl, trivial⟩ ?_
   refine w_s ?_
   refine l_of (s_next H42 8 (wt0 rfl) rfl rfl rfl rfl rfl (fun hnil52 => ?_) (fun q43 rem44 wx45 hp46 hok47 hN48 hm49 hl50 Hx51 => ?_))
   ·
    subst hnil52
    have H53 : S wq41 [Ob d (.cells #[.map (some k1), .map (some k2), .map (some k3), .map (some k4)] 88 (0, 0)), Mp (Value.int .i64) roV okI k1 nwc, Mp (Value.int .i64) roV okI k2 odc, Mp (Value.int .i64) Value.bool okI k3 bnc, Mp (Value.int .i64) (Value.int .i64) okI k4 ((fun _ => none) : Int → Option Int), Ob b (.cells #[.map (some m1), .map (some m2), .map (some m3), .map (some m4)] 88 (0, 0)), Mp (Value.int .i64) roV okI m1 nw, Mp (Value.int .i64) roV okI m2 od, Mp (Value.int .i64) Value.bool okI m3 bn, Mp (Value.int .i64) (Value.int .i64) okI m4 sc, RowsI 109 5 e5L rsx, RowsI 94 1 rowL tsx, Old w (fps [Ob b (.cells #[.map (some m1), .map (some m2), .map (some m3), .map (some m4)] 88 (0, 0)), Mp (Value.int .i64) roV okI m1 nw, Mp (Value.int .i64) roV okI m2 od, Mp (Value.int .i64) Value.bool okI m3 bn, Mp (Value.int .i64) (Value.int .i64) okI m4 sc, RowsI 109 5 e5L rs, RowsI 94 1 rowL ts])] := H42.unR (k0 := 8) rfl
    refine w_v xe ?_
    refine w_e ?_
    refine g_seq ?_
    refine g_cond_f rfl rfl ?_
    refine g_exit ?_
    refine g_then_exit ?_
    refine g_then_exit ?_
    refine g_in_hit ?_
    refine g_then ?_
    refine g_seq ?_
    refine w_s ?_
    have hC3 := hC
    refine w_r3 ?_
    refine w_1 H53 5 ?_
    refine l_of (s_rangeN (intTy Try.underlying60 Try.underlying3) H53 9 (wt0 rfl) rfl rfl rfl rfl rfl ?_)
    intro rr54 rem55 wq56 hnrem55 hrem55 H57
    refine w_e ?_
    refine g_block ?_
    refine g_loop (ι := List (Int × Int) × Option (Int × Int) × (Int → Option (Int))) (fun (rem, cur, scc) => [(3, .pointer (some ⟨d, 0, none⟩)), (69, .pointer (some ⟨rr54, 0, none⟩))]) (fun (rem, cur, scc) wx => (CP sc rem55 rem scc) ∧ (∀ z ∈ rem, z ∈ rem55) ∧ S wx [Ob d (.cells #[.map (some k1), .map (some k2), .map (some k3), .map (some k4)] 88 (0, 0)), Mp (Value.int .i64) roV okI k1 nwc, Mp (Value.int .i64) roV okI k2 odc, Mp (Value.int .i64) Value.bool okI k3 bnc, Mp (Value.int .i64) (Value.int .i64) okI k4 scc, Ob b (.cells #[.map (some m1), .map (some m2), .map (some m3), .map (some m4)] 88 (0, 0)), Mp (Value.int .i64) roV okI m1 nw, Mp (Value.int .i64) roV okI m2 od, Mp (Value.int .i64) Value.bool okI m3 bn, MpR (Value.int .i64) (Value.int .i64) okI m4 rr54 sc rem cur, RowsI 109 5 e5L rsx, RowsI 94 1 rowL tsx, Old w (fps [Ob b (.cells #[.map (some m1), .map (some m2), .map (some m3), .map (some m4)] 88 (0, 0)), Mp (Value.int .i64) roV okI m1 nw, Mp (Value.int .i64) roV okI m2 od, Mp (Value.int .i64) Value.bool okI m3 bn, Mp (Value.int .i64) (Value.int .i64) okI m4 sc, RowsI 109 5 e5L rs, RowsI 94 1 rowL ts])]) (fun (rem, cur, scc) => rem.length) (rem55, none, (fun _ => none)) ⟨rfl, rfl, trivial⟩ ⟨(CP.start _ _), (fun _ h => h), (H57.takes [0, 1, 2, 3, 4, 5, 6, 7, 8, 9, 10, 11, 12] (by decide))⟩ ?_
    rintro ⟨rem, cur, scc⟩ wq58 ⟨hC, hsub, H59⟩
    refine g_weak [(3, .pointer (some ⟨d, 0, none⟩)), (69, .pointer (some ⟨rr54, 0, none⟩))] ⟨rfl, rfl, trivial⟩ ?_
    refine w_s ?_
    refine l_of (s_next H59 9 (wt0 rfl) rfl rfl rfl rfl rfl (fun hnil69 => ?_) (fun q60 rem61 wx62 hp63 hok64 hN65 hm66 hl67 Hx68 => ?_))
    ·
     subst hnil69
     have H70 : S wq58 [Ob d (.cells #[.map (some k1), .map (some k2), .map (some k3), .map (some k4)] 88 (0, 0)), Mp (Value.int .i64) roV okI k1 nwc, Mp (Value.int .i64) roV okI k2 odc, Mp (Value.int .i64) Value.bool okI k3 bnc, Mp (Value.int .i64) (Value.int .i64) okI k4 scc, Ob b (.cells #[.map (some m1), .map (some m2), .map (some m3), .map (some m4)] 88 (0, 0)), Mp (Value.int .i64) roV okI m1 nw, Mp (Value.int .i64) roV okI m2 od, Mp (Value.int .i64) Value.bool okI m3 bn, Mp (Value.int .i64) (Value.int .i64) okI m4 sc, RowsI 109 5 e5L rsx, RowsI 94 1 rowL tsx, Old w (fps [Ob b (.cells #[.map (some m1), .map (some m2), .map (some m3), .map (some m4)] 88 (0, 0)), Mp (Value.int .i64) roV okI m1 nw, Mp (Value.int .i64) roV okI m2 od, Mp (Value.int .i64) Value.bool okI m3 bn, Mp (Value.int .i64) (Value.int .i64) okI m4 sc, RowsI 109 5 e5L rs, RowsI 94 1 rowL ts])] := H59.unR (k0 := 9) rfl
     refine w_v xe ?_
     refine w_e ?_
     refine g_seq ?_
     refine g_cond_f rfl rfl ?_
     refine g_exit ?_
     refine g_then_exit ?_
     refine g_then_exit ?_
     refine g_in_hit ?_
     refine g_then ?_
     refine w_s ?_
     refine w_r2 ?_
     refine w_e ?_
     refine g_ret ?_
     refine fin_ret [.tmp 2] [.pointer (some ⟨d, 0, none⟩)] rfl ⟨rfl, trivial⟩ ?_
     exact ⟨d, k1, k2, k3, k4, nwc, odc, bnc, scc, rsx, tsx, hR.copy ⟨hbg1, hbg2⟩ hC1 hC2, ⟨hbg1, hbg2⟩, RA_copy (hC1.all hrem4) (hC2.all hrem21) (hC3.all hrem38) (hC.all hrem55), rfl, H70.takes [0, 1, 2, 3, 4, 5, 6, 7, 8, 9, 10, 11, 12] (by decide)⟩
    ·
     have H71 : S wx62 [Ob d (.cells #[.map (some k1), .map (some k2), .map (some k3), .map (some k4)] 88 (0, 0)), Mp (Value.int .i64) roV okI k1 nwc, Mp (Value.int .i64) roV okI k2 odc, Mp (Value.int .i64) Value.bool okI k3 bnc, Mp (Value.int .i64) (Value.int .i64) okI k4 scc, Ob b (.cells #[.map (some m1), .map (some m2), .map (some m3), .map (some m4)] 88 (0, 0)), Mp (Value.int .i64) roV okI m1 nw, Mp (Value.int .i64) roV okI m2 od, Mp (Value.int .i64) Value.bool okI m3 bn, MpR (Value.int .i64) (Value.int .i64) okI m4 rr54 sc rem61 (some q60), RowsI 109 5 e5L rsx, RowsI 94 1 rowL tsx, Old w (fps [Ob b (.cells #[.map (some m1), .map (some m2), .map (some m3), .map (some m4)] 88 (0, 0)), Mp (Value.int .i64) roV okI m1 nw, Mp (Value.int .i64) roV okI m2 od, Mp (Value.int .i64) Value.bool okI m3 bn, Mp (Value.int .i64) (Value.int .i64) okI m4 sc, RowsI 109 5 e5L rs, RowsI 94 1 rowL ts])] := Hx68
     refine w_v xe ?_
     refine w_e ?_
     refine g_seq ?_
     refine g_cond_t rfl rfl ?_
     refine g_skip ?_
     refine g_then ?_
     refine g_block ?_
     refine w_s ?_
     refine w_v (v := .tuple #[.int .i64 (q60.1), .int .i64 (q60.2)]) (x_entry (k := 0) (t := 0) (e0 := 0) H71 9 rfl rfl rfl) ?_
     refine w_r4 ?_
     refine w_e ?_
     refine g_region ?_
     refine w_r3 ?_
     refine w_1 H71 0 ?_
     refine w_r2 ?_
     refine l_of (s_mapUpdate (x := q60.1) (a := q60.2) (intTy Try.underlying60 Try.underlying3) H71 4 (wt0 rfl) rfl rfl rfl rfl rfl rfl (hok64) ?_)
     intro wq72 H73
     refine g_nil ?_
     refine g_in ?_
     refine g_then ?_
     refine g_round (i := (rem, cur, scc)) (rem61, (some q60), (upM scc q60.1 q60.2)) ?_ ?_ ?_
     · exact ⟨rfl, rfl, trivial⟩
     · exact ⟨(hC.next hok64 hN65 hrem55 hm66), (fun z hz => hsub z ((hm66 z).1 hz).1), (H73.takes [0, 1, 2, 3, 4, 5, 6, 7, 8, 9, 10, 11, 12] (by decide))⟩
     · exact hl67
   ·
    have H74 : S wx45 [Ob d (.cells #[.map (some k1), .map (some k2), .map (some k3), .map (some k4)] 88 (0, 0)), Mp (Value.int .i64) roV okI k1 nwc, Mp (Value.int .i64) roV okI k2 odc, Mp (Value.int .i64) Value.bool okI k3 bnc, Mp (Value.int .i64) (Value.int .i64) okI k4 ((fun _ => none) : Int → Option Int), Ob b (.cells #[.map (some m1), .map (some m2), .map (some m3), .map (some m4)] 88 (0, 0)), Mp (Value.int .i64) roV okI m1 nw, Mp (Value.int .i64) roV okI m2 od, MpR (Value.int .i64) Value.bool okI m3 rr37 bn rem44 (some q43), Mp (Value.int .i64) (Value.int .i64) okI m4 sc, RowsI 109 5 e5L rsx, RowsI 94 1 rowL tsx, Old w (fps [Ob b (.cells #[.map (some m1), .map (some m2), .map (some m3), .map (some m4)] 88 (0, 0)), Mp (Value.int .i64) roV okI m1 nw, Mp (Value.int .i64) roV okI m2 od, Mp (Value.int .i64) Value.bool okI m3 bn, Mp (Value.int .i64) (Value.int .i64) okI m4 sc, RowsI 109 5 e5L rs, RowsI 94 1 rowL ts])] := Hx51
    refine w_v xe ?_
    refine w_e ?_
    refine g_seq ?_
    refine g_cond_t rfl rfl ?_
    refine g_skip ?_
    refine g_then ?_
    refine g_block ?_
    refine w_s ?_
    refine w_v (v := .tuple #[.int .i64 (q43.1), .bool q43.2]) (x_entry (k := 0) (t := 0) (e0 := 0) H74 8 rfl rfl rfl) ?_
    refine w_r4 ?_
    refine w_e ?_
    refine g_region ?_
    refine w_r3 ?_
    refine w_1 H74 0 ?_
    refine w_r2 ?_
    refine l_of (s_mapUpdate (x := q43.1) (a := q43.2) (intTy Try.underlying29 Try.underlying3) H74 3 (wt0 rfl) rfl rfl rfl rfl rfl rfl (hok47) ?_)
    intro wq75 H76
    refine g_nil ?_
    refine g_in ?_
    refine g_then ?_
    refine g_round (i := (rem, cur, bnc)) (rem44, (some q43), (upM bnc q43.1 q43.2)) ?_ ?_ ?_
    · exact ⟨rfl, rfl, rfl, trivial⟩
    · exact ⟨(hC.next hok47 hN48 hrem38 hm49), (fun z hz => hsub z ((hm49 z).1 hz).1), (H76.takes [0, 1, 2, 3, 4, 5, 6, 7, 8, 9, 10, 11, 12] (by decide))⟩
    · exact hl50
  ·
   have H77 : S wx28 [Ob d (.cells #[.map (some k1), .map (some k2), .map (some k3), .map (some k4)] 88 (0, 0)), Mp (Value.int .i64) roV okI k1 nwc, Mp (Value.int .i64) roV okI k2 odc, Mp (Value.int .i64) Value.bool okI k3 ((fun _ => none) : Int → Option Bool), Mp (Value.int .i64) (Value.int .i64) okI k4 ((fun _ => none) : Int → Option Int), Ob b (.cells #[.map (some m1), .map (some m2), .map (some m3), .map (some m4)] 88 (0, 0)), Mp (Value.int .i64) roV okI m1 nw, MpR (Value.int .i64) roV okI m2 rr20 od rem27 (some q26), Mp (Value.int .i64) Value.bool okI m3 bn, Mp (Value.int .i64) (Value.int .i64) okI m4 sc, RowsI 109 5 e5L rsx, RowsI 94 1 rowL tsx, Old w (fps [Ob b (.cells #[.map (some m1), .map (some m2), .map (some m3), .map (some m4)] 88 (0, 0)), Mp (Value.int .i64) roV okI m1 nw, Mp (Value.int .i64) roV okI m2 od, Mp (Value.int .i64) Value.bool okI m3 bn, Mp (Value.int .i64) (Value.int .i64) okI m4 sc, RowsI 109 5 e5L rs, RowsI 94 1 rowL ts])] := Hx34
   refine w_v xe ?_
   refine w_e ?_
   refine g_seq ?_
   refine g_cond_t rfl rfl ?_
   refine g_skip ?_
   refine g_then ?_
   refine g_block ?_
   refine w_s ?_
   have hql := (hR.odr _ _ hN31).2.1
   refine w_v (v := .tuple #[.int .i64 (q26.1), .slice q26.2.p q26.2.l.length q26.2.c]) (x_entry (k := 0) (t := 0) (e0 := 0) H77 7 rfl rfl rfl) ?_
   refine w_r4 ?_
   refine w_e ?_
   refine g_any [] (fun wx => S wx [Ob d (.cells #[.map (some k1), .map (some k2), .map (some k3), .map (some k4)] 88 (0, 0))]) [8] (by kernel_rfl) H77 (fun wq78 H79 => ?_)
   have cm1 := H79.mask [true, false, false, false, false, false, false, false, false, false, false, false, false]
   refine w_t 0 rfl cm1 (fun _ _ => xm) ?_
   refine w_t 1 rfl cm1 (fun _ _ => xn) ?_
   refine w_t 2 rfl cm1 (fun _ _ => xf 1) ?_
   refine w_t 3 rfl cm1 (fun _ H => xl H 0) ?_
   refine w_t 4 rfl cm1 (fun _ _ => xm) ?_
   refine w_t 6 rfl cm1 (fun _ _ => xm) ?_
   refine a_one (i := 5) (by kernel_rfl) rfl ?_
   refine s_buildSlice0 H79 (wt0 rfl) rfl rfl rfl Try.underlying95 sz94 ?_
   intro g80 wq81 H82
   replace H82 : S wq81 [Rw 94 1 (some ⟨g80, 0, none⟩) 0 0 (fl rowL ([] : List (Ro E5))), Ob d (.cells #[.map (some k1), .map (some k2), .map (some k3), .map (some k4)] 88 (0, 0)), Mp (Value.int .i64) roV okI k1 nwc, Mp (Value.int .i64) roV okI k2 odc, Mp (Value.int .i64) Value.bool okI k3 ((fun _ => none) : Int → Option Bool), Mp (Value.int .i64) (Value.int .i64) okI k4 ((fun _ => none) : Int → Option Int), Ob b (.cells #[.map (some m1), .map (some m2), .map (some m3), .map (some m4)] 88 (0, 0)), Mp (Value.int .i64) roV okI m1 nw, MpR (Value.int .i64) roV okI m2 rr20 od rem27 (some q26), Mp (Value.int .i64) Value.bool okI m3 bn, Mp (Value.int .i64) (Value.int .i64) okI m4 sc, RowsI 109 5 e5L rsx, RowsI 94 1 rowL tsx, Old w (fps [Ob b (.cells #[.map (some m1), .map (some m2), .map (some m3), .map (some m4)] 88 (0, 0)), Mp (Value.int .i64) roV okI m1 nw, Mp (Value.int .i64) roV okI m2 od, Mp (Value.int .i64) Value.bool okI m3 bn, Mp (Value.int .i64) (Value.int .i64) okI m4 sc, RowsI 109 5 e5L rs, RowsI 94 1 rowL ts])] := S.obFl rowE H82 (k := 0) rfl rfl (by decide) rfl
   refine a_k (H82.mask [false, true, false, false, false, false, false, false, false, false, false, false, false, false]) ?_
   refine a_one (i := 7) (by kernel_rfl) rfl ?_
   have hln87a := (H82.rwReads (k := 0) rfl).lenL rowE
   have hln87b := ((rows_in (H82.at (k := 12) rfl) (.inl (hbg _ (hR.odr _ _ hN31).1)))).lenL rowE
   have hln87 : q26.2.l.length = 0 + q26.2.l.length := by omega
   refine s_appLn (l := []) (l2 := q26.2.l) rowE H82 0 (wt0 rfl) rfl rfl rfl rfl rfl rfl Try.underlying95 inf94 rfl (by decide) ((rows_in (H82.at (k := 12) rfl) (.inl (hbg _ (hR.odr _ _ hN31).1)))) (by omega) ?_
   intro p83 c84 wq85 H86
   rw [List.nil_append] at H86 ⊢
   replace H86 : S wq85 [Rw 94 1 p83 q26.2.l.length c84 (fl rowL q26.2.l), Ob d (.cells #[.map (some k1), .map (some k2), .map (some k3), .map (some k4)] 88 (0, 0)), Mp (Value.int .i64) roV okI k1 nwc, Mp (Value.int .i64) roV okI k2 odc, Mp (Value.int .i64) Value.bool okI k3 ((fun _ => none) : Int → Option Bool), Mp (Value.int .i64) (Value.int .i64) okI k4 ((fun _ => none) : Int → Option Int), Ob b (.cells #[.map (some m1), .map (some m2), .map (some m3), .map (some m4)] 88 (0, 0)), Mp (Value.int .i64) roV okI m1 nw, MpR (Value.int .i64) roV okI m2 rr20 od rem27 (some q26), Mp (Value.int .i64) Value.bool okI m3 bn, Mp (Value.int .i64) (Value.int .i64) okI m4 sc, RowsI 109 5 e5L rsx, RowsI 94 1 rowL tsx, Old w (fps [Ob b (.cells #[.map (some m1), .map (some m2), .map (some m3), .map (some m4)] 88 (0, 0)), Mp (Value.int .i64) roV okI m1 nw, Mp (Value.int .i64) roV okI m2 od, Mp (Value.int .i64) Value.bool okI m3 bn, Mp (Value.int .i64) (Value.int .i64) okI m4 sc, RowsI 109 5 e5L rs, RowsI 94 1 rowL ts])] := H86
   refine a_k (H86.mask [false, true, false, false, false, false, false, false, false, false, false, false, false, false]) ?_
   refine a_one (i := 8) (by kernel_rfl) rfl ?_
   refine s_mapUpdate (x := q26.1) (a := (⟨p83, c84, q26.2.l⟩ : Ro (Ro E5))) (intTy Try.underlying86 Try.underlying3) H86 3 (wt0 rfl) rfl rfl rfl rfl rfl rfl (hok30) ?_
   intro wq88 H89
   have H90 : S wq88 [RowsI 94 1 rowL (tsx ++ [(⟨p83, c84, q26.2.l⟩ : Ro (Ro E5))]), Ob d (.cells #[.map (some k1), .map (some k2), .map (some k3), .map (some k4)] 88 (0, 0)), Mp (Value.int .i64) roV okI k1 nwc, Mp (Value.int .i64) roV okI k2 (upM odc q26.1 (⟨p83, c84, q26.2.l⟩ : Ro (Ro E5))), Mp (Value.int .i64) Value.bool okI k3 ((fun _ => none) : Int → Option Bool), Mp (Value.int .i64) (Value.int .i64) okI k4 ((fun _ => none) : Int → Option Int), Ob b (.cells #[.map (some m1), .map (some m2), .map (some m3), .map (some m4)] 88 (0, 0)), Mp (Value.int .i64) roV okI m1 nw, MpR (Value.int .i64) roV okI m2 rr20 od rem27 (some q26), Mp (Value.int .i64) Value.bool okI m3 bn, Mp (Value.int .i64) (Value.int .i64) okI m4 sc, RowsI 109 5 e5L rsx, Old w (fps [Ob b (.cells #[.map (some m1), .map (some m2), .map (some m3), .map (some m4)] 88 (0, 0)), Mp (Value.int .i64) roV okI m1 nw, Mp (Value.int .i64) roV okI m2 od, Mp (Value.int .i64) Value.bool okI m3 bn, Mp (Value.int .i64) (Value.int .i64) okI m4 sc, RowsI 109 5 e5L rs, RowsI 94 1 rowL ts])] := S.rowsAdd (H89.takes [12, 0, 1, 2, 3, 4, 5, 6, 7, 8, 9, 10, 11, 13] (by decide)) rfl
   refine a_kt rfl ?_
   refine a_done (by kernel_rfl) ?_
   refine g_in ?_
   refine g_then ?_
   refine g_round (i := (rem, cur, odc, tsx)) (rem27, (some q26), (upM odc q26.1 (⟨p83, c84, q26.2.l⟩ : Ro (Ro E5))), (tsx ++ [(⟨p83, c84, q26.2.l⟩ : Ro (Ro E5))])) ?_ ?_ ?_
   · exact ⟨rfl, rfl, rfl, trivial⟩
   · exact ⟨(hC.next hok30 hN31 hm32 (fun x hx => List.mem_append_left _ hx) rfl (List.mem_append_right _ (List.mem_singleton.2 rfl))), (fun z hz => hsub z ((hm32 z).1 hz).1), (fun x hx => List.mem_append_left _ (hbg x hx)), (H90.takes [1, 2, 3, 4, 5, 6, 7, 8, 9, 10, 11, 0, 12] (by decide))⟩
   · exact hl33
 ·
  have H91 : S wx11 [Ob d (.cells #[.map (some k1), .map (some k2), .map (some k3), .map (some k4)] 88 (0, 0)), Mp (Value.int .i64) roV okI k1 nwc, Mp (Value.int .i64) roV okI k2 ((fun _ => none) : Int → Option (Ro (Ro E5))), Mp (Value.int .i64) Value.bool okI k3 ((fun _ => none) : Int → Option Bool), Mp (Value.int .i64) (Value.int .i64) okI k4 ((fun _ => none) : Int → Option Int), Ob b (.cells #[.map (some m1), .map (some m2), .map (some m3), .map (some m4)] 88 (0, 0)), MpR (Value.int .i64) roV okI m1 rr3 nw rem10 (some q9), Mp (Value.int .i64) roV okI m2 od, Mp (Value.int .i64) Value.bool okI m3 bn, Mp (Value.int .i64) (Value.int .i64) okI m4 sc, RowsI 109 5 e5L rsx, RowsI 94 1 rowL ts, Old w (fps [Ob b (.cells #[.map (some m1), .map (some m2), .map (some m3), .map (some m4)] 88 (0, 0)), Mp (Value.int .i64) roV okI m1 nw, Mp (Value.int .i64) roV okI m2 od, Mp (Value.int .i64) Value.bool okI m3 bn, Mp (Value.int .i64) (Value.int .i64) okI m4 sc, RowsI 109 5 e5L rs, RowsI 94 1 rowL ts])] := Hx17
  refine w_v xe ?_
  refine w_e ?_
  refine g_seq ?_
  refine g_cond_t rfl rfl ?_
  refine g_skip ?_
  refine g_then ?_
  refine g_block ?_
  refine w_s ?_
  have hql := (hR.nwr _ _ hN14).2.len
  refine w_v (v := .tuple #[.int .i64 (q9.1), .slice q9.2.p q9.2.l.length q9.2.c]) (x_entry (k := 0) (t := 0) (e0 := 0) H91 6 rfl rfl rfl) ?_
  refine w_r4 ?_
  refine w_e ?_
  refine g_any [] (fun wx => S wx [Ob d (.cells #[.map (some k1), .map (some k2), .map (some k3), .map (some k4)] 88 (0, 0))]) [8] (by kernel_rfl) H91 (fun wq92 H93 => ?_)
  have cm2 := H93.mask [true, false, false, false, false, false, false, false, false, false, false, false, false]
  refine w_t 0 rfl cm2 (fun _ _ => xm) ?_
  refine w_t 1 rfl cm2 (fun _ _ => xn) ?_
  refine w_t 2 rfl cm2 (fun _ _ => xf 0) ?_
  refine w_t 3 rfl cm2 (fun _ H => xl H 0) ?_
  refine w_t 4 rfl cm2 (fun _ _ => xm) ?_
  refine w_t 6 rfl cm2 (fun _ _ => xm) ?_
  refine a_one (i := 5) (by kernel_rfl) rfl ?_
  refine s_buildSlice0 H93 (wt0 rfl) rfl rfl rfl Try.underlying94 sz109 ?_
  intro g94 wq95 H96
  replace H96 : S wq95 [Rw 109 5 (some ⟨g94, 0, none⟩) 0 0 (fl e5L ([] : List E5)), Ob d (.cells #[.map (some k1), .map (some k2), .map (some k3), .map (some k4)] 88 (0, 0)), Mp (Value.int .i64) roV okI k1 nwc, Mp (Value.int .i64) roV okI k2 ((fun _ => none) : Int → Option (Ro (Ro E5))), Mp (Value.int .i64) Value.bool okI k3 ((fun _ => none) : Int → Option Bool), Mp (Value.int .i64) (Value.int .i64) okI k4 ((fun _ => none) : Int → Option Int), Ob b (.cells #[.map (some m1), .map (some m2), .map (some m3), .map (some m4)] 88 (0, 0)), MpR (Value.int .i64) roV okI m1 rr3 nw rem10 (some q9), Mp (Value.int .i64) roV okI m2 od, Mp (Value.int .i64) Value.bool okI m3 bn, Mp (Value.int .i64) (Value.int .i64) okI m4 sc, RowsI 109 5 e5L rsx, RowsI 94 1 rowL ts, Old w (fps [Ob b (.cells #[.map (some m1), .map (some m2), .map (some m3), .map (some m4)] 88 (0, 0)), Mp (Value.int .i64) roV okI m1 nw, Mp (Value.int .i64) roV okI m2 od, Mp (Value.int .i64) Value.bool okI m3 bn, Mp (Value.int .i64) (Value.int .i64) okI m4 sc, RowsI 109 5 e5L rs, RowsI 94 1 rowL ts])] := S.obFl e5E H96 (k := 0) rfl rfl (by decide) rfl
  refine a_k (H96.mask [false, true, false, false, false, false, false, false, false, false, false, false, false, false]) ?_
  refine a_one (i := 7) (by kernel_rfl) rfl ?_
  have hln101a := (H96.rwReads (k := 0) rfl).lenL e5E
  have hln101b := ((rows_in (H96.at (k := 11) rfl) (.inl (hbg _ (hR.nwr _ _ hN14).1)))).lenL e5E
  have hln101 : q9.2.l.length = 0 + q9.2.l.length := by omega
  refine s_appLn (l := []) (l2 := q9.2.l) e5E H96 0 (wt0 rfl) rfl rfl rfl rfl rfl rfl Try.underlying94 inf109 rfl (by decide) ((rows_in (H96.at (k := 11) rfl) (.inl (hbg _ (hR.nwr _ _ hN14).1)))) (by omega) ?_
  intro p97 c98 wq99 H100
  rw [List.nil_append] at H100 ⊢
  replace H100 : S wq99 [Rw 109 5 p97 q9.2.l.length c98 (fl e5L q9.2.l), Ob d (.cells #[.map (some k1), .map (some k2), .map (some k3), .map (some k4)] 88 (0, 0)), Mp (Value.int .i64) roV okI k1 nwc, Mp (Value.int .i64) roV okI k2 ((fun _ => none) : Int → Option (Ro (Ro E5))), Mp (Value.int .i64) Value.bool okI k3 ((fun _ => none) : Int → Option Bool), Mp (Value.int .i64) (Value.int .i64) okI k4 ((fun _ => none) : Int → Option Int), Ob b (.cells #[.map (some m1), .map (some m2), .map (some m3), .map (some m4)] 88 (0, 0)), MpR (Value.int .i64) roV okI m1 rr3 nw rem10 (some q9), Mp (Value.int .i64) roV okI m2 od, Mp (Value.int .i64) Value.bool okI m3 bn, Mp (Value.int .i64) (Value.int .i64) okI m4 sc, RowsI 109 5 e5L rsx, RowsI 94 1 rowL ts, Old w (fps [Ob b (.cells #[.map (some m1), .map (some m2), .map (some m3), .map (some m4)] 88 (0, 0)), Mp (Value.int .i64) roV okI m1 nw, Mp (Value.int .i64) roV okI m2 od, Mp (Value.int .i64) Value.bool okI m3 bn, Mp (Value.int .i64) (Value.int .i64) okI m4 sc, RowsI 109 5 e5L rs, RowsI 94 1 rowL ts])] := H100
  refine a_k (H100.mask [false, true, false, false, false, false, false, false, false, false, false, false, false, false]) ?_
  refine a_one (i := 8) (by kernel_rfl) rfl ?_
  refine s_mapUpdate (x := q9.1) (a := (⟨p97, c98, q9.2.l⟩ : Ro E5)) (intTy Try.underlying85 Try.underlying3) H100 2 (wt0 rfl) rfl rfl rfl rfl rfl rfl (hok13) ?_
  intro wq102 H103
  have H104 : S wq102 [RowsI 109 5 e5L (rsx ++ [(⟨p97, c98, q9.2.l⟩ : Ro E5)]), Ob d (.cells #[.map (some k1), .map (some k2), .map (some k3), .map (some k4)] 88 (0, 0)), Mp (Value.int .i64) roV okI k1 (upM nwc q9.1 (⟨p97, c98, q9.2.l⟩ : Ro E5)), Mp (Value.int .i64) roV okI k2 ((fun _ => none) : Int → Option (Ro (Ro E5))), Mp (Value.int .i64) Value.bool okI k3 ((fun _ => none) : Int → Option Bool), Mp (Value.int .i64) (Value.int .i64) okI k4 ((fun _ => none) : Int → Option Int), Ob b (.cells #[.map (some m1), .map (some m2), .map (some m3), .map (some m4)] 88 (0, 0)), MpR (Value.int .i64) roV okI m1 rr3 nw rem10 (some q9), Mp (Value.int .i64) roV okI m2 od, Mp (Value.int .i64) Value.bool okI m3 bn, Mp (Value.int .i64) (Value.int .i64) okI m4 sc, RowsI 94 1 rowL ts, Old w (fps [Ob b (.cells #[.map (some m1), .map (some m2), .map (some m3), .map (some m4)] 88 (0, 0)), Mp (Value.int .i64) roV okI m1 nw, Mp (Value.int .i64) roV okI m2 od, Mp (Value.int .i64) Value.bool okI m3 bn, Mp (Value.int .i64) (Value.int .i64) okI m4 sc, RowsI 109 5 e5L rs, RowsI 94 1 rowL ts])] := S.rowsAdd (H103.takes [11, 0, 1, 2, 3, 4, 5, 6, 7, 8, 9, 10, 12, 13] (by decide)) rfl
  refine a_kt rfl ?_
  refine a_done (by kernel_rfl) ?_
  refine g_in ?_
  refine g_then ?_
  refine g_round (i := (rem, cur, nwc, rsx)) (rem10, (some q9), (upM nwc q9.1 (⟨p97, c98, q9.2.l⟩ : Ro E5)), (rsx ++ [(⟨p97, c98, q9.2.l⟩ : Ro E5)])) ?_ ?_ ?_
  · exact ⟨rfl, rfl, rfl, trivial⟩
  · exact ⟨(hC.next hok13 hN14 hm15 (fun x hx => List.mem_append_left _ hx) rfl (List.mem_append_right _ (List.mem_singleton.2 rfl))), (fun z hz => hsub z ((hm15 z).1 hz).1), (fun x hx => List.mem_append_left _ (hbg x hx)), (H104.takes [1, 2, 3, 4, 5, 6, 7, 8, 9, 10, 0, 11, 12] (by decide))⟩
  · exact hl16
end Go.Proofs.Ytlikhpfdncidkaa
