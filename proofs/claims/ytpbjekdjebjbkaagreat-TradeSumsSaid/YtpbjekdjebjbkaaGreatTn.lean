import Derived.Test.YtpbjekdjebjbkaaGreatFk
import Derived.Test.YtpbjekdjebjbkaaGreatTm
set_option linter.unusedSimpArgs false
set_option linter.unusedVariables false
namespace Go.Proofs.YtpbjekdjebjbkaaGreat
open Go.RowKit

theorem sz54 : szO Tryz.prog 54 = some 1 := by kernel_rfl
set_option maxRecDepth 20000 in
set_option maxHeartbeats 4000000 in
theorem made_1  (w : World) : Calls Tryz.prog 21 #[.int .i64 1] w fun e w' => e = .returned (.iface 70 (.agg #[])) ∧ S w' [Old w no] := by
 have H0 := S.old w
 refine enter 24 Tryz.func21 rfl rfl rfl ?_
 refine g_weak [(0, .int .i64 1)] ⟨rfl, trivial⟩ ?_
 refine w_s ?_
 refine w_a ?_
 refine w_e ?_
 refine w_s ?_
 refine w_v (v := .agg #[]) (x_build (vs := []) rfl rfl (cells := #[]) (by kernel_rfl)) ?_
 refine w_v (v := .iface 70 (.agg #[])) (x_makeInterface rfl rfl Tryz.underlying70 rfl) ?_
 refine w_v (v := .agg #[]) (x_build (vs := []) rfl rfl (cells := #[]) (by kernel_rfl)) ?_
 refine w_v (v := .iface 71 (.agg #[])) (x_makeInterface rfl rfl Tryz.underlying71 rfl) ?_
 refine w_v (v := .agg #[]) (x_build (vs := []) rfl rfl (cells := #[]) (by kernel_rfl)) ?_
 refine w_v (v := .iface 72 (.agg #[])) (x_makeInterface rfl rfl Tryz.underlying72 rfl) ?_
 refine w_v (v := .agg #[]) (x_build (vs := []) rfl rfl (cells := #[]) (by kernel_rfl)) ?_
 refine w_v (v := .iface 73 (.agg #[])) (x_makeInterface rfl rfl Tryz.underlying73 rfl) ?_
 refine w_v (v := .agg #[]) (x_build (vs := []) rfl rfl (cells := #[]) (by kernel_rfl)) ?_
 refine w_v (v := .iface 74 (.agg #[])) (x_makeInterface rfl rfl Tryz.underlying74 rfl) ?_
 refine l_of (s_makeMap (α := Int) (Value.int .i64) (Value.int .i64) okI H0 (wt0 rfl) rfl rfl rfl ?_)
 intro mg1 wq2 H3
 refine l_of (s_makeMap (α := Int) (Value.int .i64) (Value.int .i64) okI H3 (wt0 rfl) rfl rfl rfl ?_)
 intro mg4 wq5 H6
 refine w_v (v := .agg #[.map (some mg1), .map (some mg4), .map none]) (x_build (vs := [.map (some mg1), .map (some mg4), .map none]) rfl rfl (cells := #[.map (some mg1), .map (some mg4), .map none]) (by kernel_rfl)) ?_
 refine l_of (s_box H6 (wt0 rfl) rfl rfl rfl rfl ?_)
 intro g7 wq8 H9
 refine w_v (v := .iface 75 (.pointer (some ⟨g7, 0, none⟩))) (x_makeInterface rfl rfl Tryz.underlying75 rfl) ?_
 refine w_v (v := .agg #[]) (x_build (vs := []) rfl rfl (cells := #[]) (by kernel_rfl)) ?_
 refine w_v (v := .iface 80 (.agg #[])) (x_makeInterface rfl rfl Tryz.underlying80 rfl) ?_
 refine w_v (v := .agg #[.iface 70 (.agg #[]), .iface 71 (.agg #[]), .iface 72 (.agg #[]), .iface 73 (.agg #[]), .iface 74 (.agg #[]), .iface 75 (.pointer (some ⟨g7, 0, none⟩)), .iface 80 (.agg #[])]) (x_build (vs := [.iface 70 (.agg #[]), .iface 71 (.agg #[]), .iface 72 (.agg #[]), .iface 73 (.agg #[]), .iface 74 (.agg #[]), .iface 75 (.pointer (some ⟨g7, 0, none⟩)), .iface 80 (.agg #[])]) rfl rfl (cells := #[.iface 70 (.agg #[]), .iface 71 (.agg #[]), .iface 72 (.agg #[]), .iface 73 (.agg #[]), .iface 74 (.agg #[]), .iface 75 (.pointer (some ⟨g7, 0, none⟩)), .iface 80 (.agg #[])]) (by kernel_rfl)) ?_
 refine w_m ?_
 refine w_b (v := .int .i64 0) (hb := (b_sub (r := 0) (by decide))) ?_
 refine w_v (v := .iface 70 (.agg #[])) (x_indexW 0 rfl rfl rfl Tryz.underlying81 sz54 Tryz.underlying54 rfl ⟨by decide, by decide⟩ rfl) ?_
 refine w_a ?_
 refine w_e ?_
 refine g_weak [(2, .iface 70 (.agg #[]))] ⟨rfl, trivial⟩ ?_
 refine g_ret ?_
 refine fin_ret [.tmp 2] [.iface 70 (.agg #[])] rfl ⟨rfl, trivial⟩ ?_
 exact ⟨rfl, H9.mask [false, false, false, true]⟩
set_option maxRecDepth 20000 in
set_option maxHeartbeats 4000000 in
theorem made_2  (w : World) : Calls Tryz.prog 21 #[.int .i64 2] w fun e w' => e = .returned (.iface 71 (.agg #[])) ∧ S w' [Old w no] := by
 have H0 := S.old w
 refine enter 24 Tryz.func21 rfl rfl rfl ?_
 refine g_weak [(0, .int .i64 2)] ⟨rfl, trivial⟩ ?_
 refine w_s ?_
 refine w_a ?_
 refine w_e ?_
 refine w_s ?_
 refine w_v (v := .agg #[]) (x_build (vs := []) rfl rfl (cells := #[]) (by kernel_rfl)) ?_
 refine w_v (v := .iface 70 (.agg #[])) (x_makeInterface rfl rfl Tryz.underlying70 rfl) ?_
 refine w_v (v := .agg #[]) (x_build (vs := []) rfl rfl (cells := #[]) (by kernel_rfl)) ?_
 refine w_v (v := .iface 71 (.agg #[])) (x_makeInterface rfl rfl Tryz.underlying71 rfl) ?_
 refine w_v (v := .agg #[]) (x_build (vs := []) rfl rfl (cells := #[]) (by kernel_rfl)) ?_
 refine w_v (v := .iface 72 (.agg #[])) (x_makeInterface rfl rfl Tryz.underlying72 rfl) ?_
 refine w_v (v := .agg #[]) (x_build (vs := []) rfl rfl (cells := #[]) (by kernel_rfl)) ?_
 refine w_v (v := .iface 73 (.agg #[])) (x_makeInterface rfl rfl Tryz.underlying73 rfl) ?_
 refine w_v (v := .agg #[]) (x_build (vs := []) rfl rfl (cells := #[]) (by kernel_rfl)) ?_
 refine w_v (v := .iface 74 (.agg #[])) (x_makeInterface rfl rfl Tryz.underlying74 rfl) ?_
 refine l_of (s_makeMap (α := Int) (Value.int .i64) (Value.int .i64) okI H0 (wt0 rfl) rfl rfl rfl ?_)
 intro mg1 wq2 H3
 refine l_of (s_makeMap (α := Int) (Value.int .i64) (Value.int .i64) okI H3 (wt0 rfl) rfl rfl rfl ?_)
 intro mg4 wq5 H6
 refine w_v (v := .agg #[.map (some mg1), .map (some mg4), .map none]) (x_build (vs := [.map (some mg1), .map (some mg4), .map none]) rfl rfl (cells := #[.map (some mg1), .map (some mg4), .map none]) (by kernel_rfl)) ?_
 refine l_of (s_box H6 (wt0 rfl) rfl rfl rfl rfl ?_)
 intro g7 wq8 H9
 refine w_v (v := .iface 75 (.pointer (some ⟨g7, 0, none⟩))) (x_makeInterface rfl rfl Tryz.underlying75 rfl) ?_
 refine w_v (v := .agg #[]) (x_build (vs := []) rfl rfl (cells := #[]) (by kernel_rfl)) ?_
 refine w_v (v := .iface 80 (.agg #[])) (x_makeInterface rfl rfl Tryz.underlying80 rfl) ?_
 refine w_v (v := .agg #[.iface 70 (.agg #[]), .iface 71 (.agg #[]), .iface 72 (.agg #[]), .iface 73 (.agg #[]), .iface 74 (.agg #[]), .iface 75 (.pointer (some ⟨g7, 0, none⟩)), .iface 80 (.agg #[])]) (x_build (vs := [.iface 70 (.agg #[]), .iface 71 (.agg #[]), .iface 72 (.agg #[]), .iface 73 (.agg #[]), .iface 74 (.agg #[]), .iface 75 (.pointer (some ⟨g7, 0, none⟩)), .iface 80 (.agg #[])]) rfl rfl (cells := #[.iface 70 (.agg #[]), .iface 71 (.agg #[]), .iface 72 (.agg #[]), .iface 73 (.agg #[]), .iface 74 (.agg #[]), .iface 75 (.pointer (some ⟨g7, 0, none⟩)), .iface 80 (.agg #[])]) (by kernel_rfl)) ?_
 refine w_m ?_
 refine w_b (v := .int .i64 1) (hb := (b_sub (r := 1) (by decide))) ?_
 refine w_v (v := .iface 71 (.agg #[])) (x_indexW 1 rfl rfl rfl Tryz.underlying81 sz54 Tryz.underlying54 rfl ⟨by decide, by decide⟩ rfl) ?_
 refine w_a ?_
 refine w_e ?_
 refine g_weak [(2, .iface 71 (.agg #[]))] ⟨rfl, trivial⟩ ?_
 refine g_ret ?_
 refine fin_ret [.tmp 2] [.iface 71 (.agg #[])] rfl ⟨rfl, trivial⟩ ?_
 exact ⟨rfl, H9.mask [false, false, false, true]⟩
set_option maxRecDepth 20000 in
set_option maxHeartbeats 4000000 in
theorem made_3  (w : World) : Calls Tryz.prog 21 #[.int .i64 3] w fun e w' => e = .returned (.iface 72 (.agg #[])) ∧ S w' [Old w no] := by
 have H0 := S.old w
 refine enter 24 Tryz.func21 rfl rfl rfl ?_
 refine g_weak [(0, .int .i64 3)] ⟨rfl, trivial⟩ ?_
 refine w_s ?_
 refine w_a ?_
 refine w_e ?_
 refine w_s ?_
 refine w_v (v := .agg #[]) (x_build (vs := []) rfl rfl (cells := #[]) (by kernel_rfl)) ?_
 refine w_v (v := .iface 70 (.agg #[])) (x_makeInterface rfl rfl Tryz.underlying70 rfl) ?_
 refine w_v (v := .agg #[]) (x_build (vs := []) rfl rfl (cells := #[]) (by kernel_rfl)) ?_
 refine w_v (v := .iface 71 (.agg #[])) (x_makeInterface rfl rfl Tryz.underlying71 rfl) ?_
 refine w_v (v := .agg #[]) (x_build (vs := []) rfl rfl (cells := #[]) (by kernel_rfl)) ?_
 refine w_v (v := .iface 72 (.agg #[])) (x_makeInterface rfl rfl Tryz.underlying72 rfl) ?_
 refine w_v (v := .agg #[]) (x_build (vs := []) rfl rfl (cells := #[]) (by kernel_rfl)) ?_
 refine w_v (v := .iface 73 (.agg #[])) (x_makeInterface rfl rfl Tryz.underlying73 rfl) ?_
 refine w_v (v := .agg #[]) (x_build (vs := []) rfl rfl (cells := #[]) (by kernel_rfl)) ?_
 refine w_v (v := .iface 74 (.agg #[])) (x_makeInterface rfl rfl Tryz.underlying74 rfl) ?_
 refine l_of (s_makeMap (α := Int) (Value.int .i64) (Value.int .i64) okI H0 (wt0 rfl) rfl rfl rfl ?_)
 intro mg1 wq2 H3
 refine l_of (s_makeMap (α := Int) (Value.int .i64) (Value.int .i64) okI H3 (wt0 rfl) rfl rfl rfl ?_)
 intro mg4 wq5 H6
 refine w_v (v := .agg #[.map (some mg1), .map (some mg4), .map none]) (x_build (vs := [.map (some mg1), .map (some mg4), .map none]) rfl rfl (cells := #[.map (some mg1), .map (some mg4), .map none]) (by kernel_rfl)) ?_
 refine l_of (s_box H6 (wt0 rfl) rfl rfl rfl rfl ?_)
 intro g7 wq8 H9
 refine w_v (v := .iface 75 (.pointer (some ⟨g7, 0, none⟩))) (x_makeInterface rfl rfl Tryz.underlying75 rfl) ?_
 refine w_v (v := .agg #[]) (x_build (vs := []) rfl rfl (cells := #[]) (by kernel_rfl)) ?_
 refine w_v (v := .iface 80 (.agg #[])) (x_makeInterface rfl rfl Tryz.underlying80 rfl) ?_
 refine w_v (v := .agg #[.iface 70 (.agg #[]), .iface 71 (.agg #[]), .iface 72 (.agg #[]), .iface 73 (.agg #[]), .iface 74 (.agg #[]), .iface 75 (.pointer (some ⟨g7, 0, none⟩)), .iface 80 (.agg #[])]) (x_build (vs := [.iface 70 (.agg #[]), .iface 71 (.agg #[]), .iface 72 (.agg #[]), .iface 73 (.agg #[]), .iface 74 (.agg #[]), .iface 75 (.pointer (some ⟨g7, 0, none⟩)), .iface 80 (.agg #[])]) rfl rfl (cells := #[.iface 70 (.agg #[]), .iface 71 (.agg #[]), .iface 72 (.agg #[]), .iface 73 (.agg #[]), .iface 74 (.agg #[]), .iface 75 (.pointer (some ⟨g7, 0, none⟩)), .iface 80 (.agg #[])]) (by kernel_rfl)) ?_
 refine w_m ?_
 refine w_b (v := .int .i64 2) (hb := (b_sub (r := 2) (by decide))) ?_
 refine w_v (v := .iface 72 (.agg #[])) (x_indexW 2 rfl rfl rfl Tryz.underlying81 sz54 Tryz.underlying54 rfl ⟨by decide, by decide⟩ rfl) ?_
 refine w_a ?_
 refine w_e ?_
 refine g_weak [(2, .iface 72 (.agg #[]))] ⟨rfl, trivial⟩ ?_
 refine g_ret ?_
 refine fin_ret [.tmp 2] [.iface 72 (.agg #[])] rfl ⟨rfl, trivial⟩ ?_
 exact ⟨rfl, H9.mask [false, false, false, true]⟩
set_option maxRecDepth 20000 in
set_option maxHeartbeats 4000000 in
theorem made_4  (w : World) : Calls Tryz.prog 21 #[.int .i64 4] w fun e w' => e = .returned (.iface 73 (.agg #[])) ∧ S w' [Old w no] := by
 have H0 := S.old w
 refine enter 24 Tryz.func21 rfl rfl rfl ?_
 refine g_weak [(0, .int .i64 4)] ⟨rfl, trivial⟩ ?_
 refine w_s ?_
 refine w_a ?_
 refine w_e ?_
 refine w_s ?_
 refine w_v (v := .agg #[]) (x_build (vs := []) rfl rfl (cells := #[]) (by kernel_rfl)) ?_
 refine w_v (v := .iface 70 (.agg #[])) (x_makeInterface rfl rfl Tryz.underlying70 rfl) ?_
 refine w_v (v := .agg #[]) (x_build (vs := []) rfl rfl (cells := #[]) (by kernel_rfl)) ?_
 refine w_v (v := .iface 71 (.agg #[])) (x_makeInterface rfl rfl Tryz.underlying71 rfl) ?_
 refine w_v (v := .agg #[]) (x_build (vs := []) rfl rfl (cells := #[]) (by kernel_rfl)) ?_
 refine w_v (v := .iface 72 (.agg #[])) (x_makeInterface rfl rfl Tryz.underlying72 rfl) ?_
 refine w_v (v := .agg #[]) (x_build (vs := []) rfl rfl (cells := #[]) (by kernel_rfl)) ?_
 refine w_v (v := .iface 73 (.agg #[])) (x_makeInterface rfl rfl Tryz.underlying73 rfl) ?_
 refine w_v (v := .agg #[]) (x_build (vs := []) rfl rfl (cells := #[]) (by kernel_rfl)) ?_
 refine w_v (v := .iface 74 (.agg #[])) (x_makeInterface rfl rfl Tryz.underlying74 rfl) ?_
 refine l_of (s_makeMap (α := Int) (Value.int .i64) (Value.int .i64) okI H0 (wt0 rfl) rfl rfl rfl ?_)
 intro mg1 wq2 H3
 refine l_of (s_makeMap (α := Int) (Value.int .i64) (Value.int .i64) okI H3 (wt0 rfl) rfl rfl rfl ?_)
 intro mg4 wq5 H6
 refine w_v (v := .agg #[.map (some mg1), .map (some mg4), .map none]) (x_build (vs := [.map (some mg1), .map (some mg4), .map none]) rfl rfl (cells := #[.map (some mg1), .map (some mg4), .map none]) (by kernel_rfl)) ?_
 refine l_of (s_box H6 (wt0 rfl) rfl rfl rfl rfl ?_)
 intro g7 wq8 H9
 refine w_v (v := .iface 75 (.pointer (some ⟨g7, 0, none⟩))) (x_makeInterface rfl rfl Tryz.underlying75 rfl) ?_
 refine w_v (v := .agg #[]) (x_build (vs := []) rfl rfl (cells := #[]) (by kernel_rfl)) ?_
 refine w_v (v := .iface 80 (.agg #[])) (x_makeInterface rfl rfl Tryz.underlying80 rfl) ?_
 refine w_v (v := .agg #[.iface 70 (.agg #[]), .iface 71 (.agg #[]), .iface 72 (.agg #[]), .iface 73 (.agg #[]), .iface 74 (.agg #[]), .iface 75 (.pointer (some ⟨g7, 0, none⟩)), .iface 80 (.agg #[])]) (x_build (vs := [.iface 70 (.agg #[]), .iface 71 (.agg #[]), .iface 72 (.agg #[]), .iface 73 (.agg #[]), .iface 74 (.agg #[]), .iface 75 (.pointer (some ⟨g7, 0, none⟩)), .iface 80 (.agg #[])]) rfl rfl (cells := #[.iface 70 (.agg #[]), .iface 71 (.agg #[]), .iface 72 (.agg #[]), .iface 73 (.agg #[]), .iface 74 (.agg #[]), .iface 75 (.pointer (some ⟨g7, 0, none⟩)), .iface 80 (.agg #[])]) (by kernel_rfl)) ?_
 refine w_m ?_
 refine w_b (v := .int .i64 3) (hb := (b_sub (r := 3) (by decide))) ?_
 refine w_v (v := .iface 73 (.agg #[])) (x_indexW 3 rfl rfl rfl Tryz.underlying81 sz54 Tryz.underlying54 rfl ⟨by decide, by decide⟩ rfl) ?_
 refine w_a ?_
 refine w_e ?_
 refine g_weak [(2, .iface 73 (.agg #[]))] ⟨rfl, trivial⟩ ?_
 refine g_ret ?_
 refine fin_ret [.tmp 2] [.iface 73 (.agg #[])] rfl ⟨rfl, trivial⟩ ?_
 exact ⟨rfl, H9.mask [false, false, false, true]⟩
set_option maxRecDepth 20000 in
set_option maxHeartbeats 4000000 in
theorem made_5  (w : World) : Calls Tryz.prog 21 #[.int .i64 5] w fun e w' => e = .returned (.iface 74 (.agg #[])) ∧ S w' [Old w no] := by
 have H0 := S.old w
 refine enter 24 Tryz.func21 rfl rfl rfl ?_
 refine g_weak [(0, .int .i64 5)] ⟨rfl, trivial⟩ ?_
 refine w_s ?_
 refine w_a ?_
 refine w_e ?_
 refine w_s ?_
 refine w_v (v := .agg #[]) (x_build (vs := []) rfl rfl (cells := #[]) (by kernel_rfl)) ?_
 refine w_v (v := .iface 70 (.agg #[])) (x_makeInterface rfl rfl Tryz.underlying70 rfl) ?_
 refine w_v (v := .agg #[]) (x_build (vs := []) rfl rfl (cells := #[]) (by kernel_rfl)) ?_
 refine w_v (v := .iface 71 (.agg #[])) (x_makeInterface rfl rfl Tryz.underlying71 rfl) ?_
 refine w_v (v := .agg #[]) (x_build (vs := []) rfl rfl (cells := #[]) (by kernel_rfl)) ?_
 refine w_v (v := .iface 72 (.agg #[])) (x_makeInterface rfl rfl Tryz.underlying72 rfl) ?_
 refine w_v (v := .agg #[]) (x_build (vs := []) rfl rfl (cells := #[]) (by kernel_rfl)) ?_
 refine w_v (v := .iface 73 (.agg #[])) (x_makeInterface rfl rfl Tryz.underlying73 rfl) ?_
 refine w_v (v := .agg #[]) (x_build (vs := []) rfl rfl (cells := #[]) (by kernel_rfl)) ?_
 refine w_v (v := .iface 74 (.agg #[])) (x_makeInterface rfl rfl Tryz.underlying74 rfl) ?_
 refine l_of (s_makeMap (α := Int) (Value.int .i64) (Value.int .i64) okI H0 (wt0 rfl) rfl rfl rfl ?_)
 intro mg1 wq2 H3
 refine l_of (s_makeMap (α := Int) (Value.int .i64) (Value.int .i64) okI H3 (wt0 rfl) rfl rfl rfl ?_)
 intro mg4 wq5 H6
 refine w_v (v := .agg #[.map (some mg1), .map (some mg4), .map none]) (x_build (vs := [.map (some mg1), .map (some mg4), .map none]) rfl rfl (cells := #[.map (some mg1), .map (some mg4), .map none]) (by kernel_rfl)) ?_
 refine l_of (s_box H6 (wt0 rfl) rfl rfl rfl rfl ?_)
 intro g7 wq8 H9
 refine w_v (v := .iface 75 (.pointer (some ⟨g7, 0, none⟩))) (x_makeInterface rfl rfl Tryz.underlying75 rfl) ?_
 refine w_v (v := .agg #[]) (x_build (vs := []) rfl rfl (cells := #[]) (by kernel_rfl)) ?_
 refine w_v (v := .iface 80 (.agg #[])) (x_makeInterface rfl rfl Tryz.underlying80 rfl) ?_
 refine w_v (v := .agg #[.iface 70 (.agg #[]), .iface 71 (.agg #[]), .iface 72 (.agg #[]), .iface 73 (.agg #[]), .iface 74 (.agg #[]), .iface 75 (.pointer (some ⟨g7, 0, none⟩)), .iface 80 (.agg #[])]) (x_build (vs := [.iface 70 (.agg #[]), .iface 71 (.agg #[]), .iface 72 (.agg #[]), .iface 73 (.agg #[]), .iface 74 (.agg #[]), .iface 75 (.pointer (some ⟨g7, 0, none⟩)), .iface 80 (.agg #[])]) rfl rfl (cells := #[.iface 70 (.agg #[]), .iface 71 (.agg #[]), .iface 72 (.agg #[]), .iface 73 (.agg #[]), .iface 74 (.agg #[]), .iface 75 (.pointer (some ⟨g7, 0, none⟩)), .iface 80 (.agg #[])]) (by kernel_rfl)) ?_
 refine w_m ?_
 refine w_b (v := .int .i64 4) (hb := (b_sub (r := 4) (by decide))) ?_
 refine w_v (v := .iface 74 (.agg #[])) (x_indexW 4 rfl rfl rfl Tryz.underlying81 sz54 Tryz.underlying54 rfl ⟨by decide, by decide⟩ rfl) ?_
 refine w_a ?_
 refine w_e ?_
 refine g_weak [(2, .iface 74 (.agg #[]))] ⟨rfl, trivial⟩ ?_
 refine g_ret ?_
 refine fin_ret [.tmp 2] [.iface 74 (.agg #[])] rfl ⟨rfl, trivial⟩ ?_
 exact ⟨rfl, H9.mask [false, false, false, true]⟩
set_option maxRecDepth 20000 in
set_option maxHeartbeats 4000000 in
theorem made_6  (w : World) : Calls Tryz.prog 21 #[.int .i64 6] w fun e w' => ∃ b2 pg2 bg2, e = .returned (.iface 75 (.pointer (some ⟨b2, 0, none⟩))) ∧ S w' ([Ob b2 (.cells #[.map (some pg2), .map (some bg2), .map none] 79 (0, 0)), Mp (Value.int .i64) (Value.int .i64) okI pg2 (fun _ => none), Mp (Value.int .i64) (Value.int .i64) okI bg2 (fun _ => none)] ++ [Old w no]) := by
 have H0 := S.old w
 refine enter 24 Tryz.func21 rfl rfl rfl ?_
 refine g_weak [(0, .int .i64 6)] ⟨rfl, trivial⟩ ?_
 refine w_s ?_
 refine w_a ?_
 refine w_e ?_
 refine w_s ?_
 refine w_v (v := .agg #[]) (x_build (vs := []) rfl rfl (cells := #[]) (by kernel_rfl)) ?_
 refine w_v (v := .iface 70 (.agg #[])) (x_makeInterface rfl rfl Tryz.underlying70 rfl) ?_
 refine w_v (v := .agg #[]) (x_build (vs := []) rfl rfl (cells := #[]) (by kernel_rfl)) ?_
 refine w_v (v := .iface 71 (.agg #[])) (x_makeInterface rfl rfl Tryz.underlying71 rfl) ?_
 refine w_v (v := .agg #[]) (x_build (vs := []) rfl rfl (cells := #[]) (by kernel_rfl)) ?_
 refine w_v (v := .iface 72 (.agg #[])) (x_makeInterface rfl rfl Tryz.underlying72 rfl) ?_
 refine w_v (v := .agg #[]) (x_build (vs := []) rfl rfl (cells := #[]) (by kernel_rfl)) ?_
 refine w_v (v := .iface 73 (.agg #[])) (x_makeInterface rfl rfl Tryz.underlying73 rfl) ?_
 refine w_v (v := .agg #[]) (x_build (vs := []) rfl rfl (cells := #[]) (by kernel_rfl)) ?_
 refine w_v (v := .iface 74 (.agg #[])) (x_makeInterface rfl rfl Tryz.underlying74 rfl) ?_
 refine l_of (s_makeMap (α := Int) (Value.int .i64) (Value.int .i64) okI H0 (wt0 rfl) rfl rfl rfl ?_)
 intro mg1 wq2 H3
 refine l_of (s_makeMap (α := Int) (Value.int .i64) (Value.int .i64) okI H3 (wt0 rfl) rfl rfl rfl ?_)
 intro mg4 wq5 H6
 refine w_v (v := .agg #[.map (some mg1), .map (some mg4), .map none]) (x_build (vs := [.map (some mg1), .map (some mg4), .map none]) rfl rfl (cells := #[.map (some mg1), .map (some mg4), .map none]) (by kernel_rfl)) ?_
 refine l_of (s_box H6 (wt0 rfl) rfl rfl rfl rfl ?_)
 intro g7 wq8 H9
 refine w_v (v := .iface 75 (.pointer (some ⟨g7, 0, none⟩))) (x_makeInterface rfl rfl Tryz.underlying75 rfl) ?_
 refine w_v (v := .agg #[]) (x_build (vs := []) rfl rfl (cells := #[]) (by kernel_rfl)) ?_
 refine w_v (v := .iface 80 (.agg #[])) (x_makeInterface rfl rfl Tryz.underlying80 rfl) ?_
 refine w_v (v := .agg #[.iface 70 (.agg #[]), .iface 71 (.agg #[]), .iface 72 (.agg #[]), .iface 73 (.agg #[]), .iface 74 (.agg #[]), .iface 75 (.pointer (some ⟨g7, 0, none⟩)), .iface 80 (.agg #[])]) (x_build (vs := [.iface 70 (.agg #[]), .iface 71 (.agg #[]), .iface 72 (.agg #[]), .iface 73 (.agg #[]), .iface 74 (.agg #[]), .iface 75 (.pointer (some ⟨g7, 0, none⟩)), .iface 80 (.agg #[])]) rfl rfl (cells := #[.iface 70 (.agg #[]), .iface 71 (.agg #[]), .iface 72 (.agg #[]), .iface 73 (.agg #[]), .iface 74 (.agg #[]), .iface 75 (.pointer (some ⟨g7, 0, none⟩)), .iface 80 (.agg #[])]) (by kernel_rfl)) ?_
 refine w_m ?_
 refine w_b (v := .int .i64 5) (hb := (b_sub (r := 5) (by decide))) ?_
 refine w_v (v := .iface 75 (.pointer (some ⟨g7, 0, none⟩))) (x_indexW 5 rfl rfl rfl Tryz.underlying81 sz54 Tryz.underlying54 rfl ⟨by decide, by decide⟩ rfl) ?_
 refine w_a ?_
 refine w_e ?_
 refine g_weak [(2, .iface 75 (.pointer (some ⟨g7, 0, none⟩)))] ⟨rfl, trivial⟩ ?_
 refine g_ret ?_
 refine fin_ret [.tmp 2] [.iface 75 (.pointer (some ⟨g7, 0, none⟩))] rfl ⟨rfl, trivial⟩ ?_
 exact ⟨_, _, _, rfl, H9.takes [0, 2, 1, 3] (by decide)⟩
set_option maxRecDepth 20000 in
set_option maxHeartbeats 4000000 in
theorem made_7  (w : World) : Calls Tryz.prog 21 #[.int .i64 7] w fun e w' => e = .returned (.iface 80 (.agg #[])) ∧ S w' [Old w no] := by
 have H0 := S.old w
 refine enter 24 Tryz.func21 rfl rfl rfl ?_
 refine g_weak [(0, .int .i64 7)] ⟨rfl, trivial⟩ ?_
 refine w_s ?_
 refine w_a ?_
 refine w_e ?_
 refine w_s ?_
 refine w_v (v := .agg #[]) (x_build (vs := []) rfl rfl (cells := #[]) (by kernel_rfl)) ?_
 refine w_v (v := .iface 70 (.agg #[])) (x_makeInterface rfl rfl Tryz.underlying70 rfl) ?_
 refine w_v (v := .agg #[]) (x_build (vs := []) rfl rfl (cells := #[]) (by kernel_rfl)) ?_
 refine w_v (v := .iface 71 (.agg #[])) (x_makeInterface rfl rfl Tryz.underlying71 rfl) ?_
 refine w_v (v := .agg #[]) (x_build (vs := []) rfl rfl (cells := #[]) (by kernel_rfl)) ?_
 refine w_v (v := .iface 72 (.agg #[])) (x_makeInterface rfl rfl Tryz.underlying72 rfl) ?_
 refine w_v (v := .agg #[]) (x_build (vs := []) rfl rfl (cells := #[]) (by kernel_rfl)) ?_
 refine w_v (v := .iface 73 (.agg #[])) (x_makeInterface rfl rfl Tryz.underlying73 rfl) ?_
 refine w_v (v := .agg #[]) (x_build (vs := []) rfl rfl (cells := #[]) (by kernel_rfl)) ?_
 refine w_v (v := .iface 74 (.agg #[])) (x_makeInterface rfl rfl Tryz.underlying74 rfl) ?_
 refine l_of (s_makeMap (α := Int) (Value.int .i64) (Value.int .i64) okI H0 (wt0 rfl) rfl rfl rfl ?_)
 intro mg1 wq2 H3
 refine l_of (s_makeMap (α := Int) (Value.int .i64) (Value.int .i64) okI H3 (wt0 rfl) rfl rfl rfl ?_)
 intro mg4 wq5 H6
 refine w_v (v := .agg #[.map (some mg1), .map (some mg4), .map none]) (x_build (vs := [.map (some mg1), .map (some mg4), .map none]) rfl rfl (cells := #[.map (some mg1), .map (some mg4), .map none]) (by kernel_rfl)) ?_
 refine l_of (s_box H6 (wt0 rfl) rfl rfl rfl rfl ?_)
 intro g7 wq8 H9
 refine w_v (v := .iface 75 (.pointer (some ⟨g7, 0, none⟩))) (x_makeInterface rfl rfl Tryz.underlying75 rfl) ?_
 refine w_v (v := .agg #[]) (x_build (vs := []) rfl rfl (cells := #[]) (by kernel_rfl)) ?_
 refine w_v (v := .iface 80 (.agg #[])) (x_makeInterface rfl rfl Tryz.underlying80 rfl) ?_
 refine w_v (v := .agg #[.iface 70 (.agg #[]), .iface 71 (.agg #[]), .iface 72 (.agg #[]), .iface 73 (.agg #[]), .iface 74 (.agg #[]), .iface 75 (.pointer (some ⟨g7, 0, none⟩)), .iface 80 (.agg #[])]) (x_build (vs := [.iface 70 (.agg #[]), .iface 71 (.agg #[]), .iface 72 (.agg #[]), .iface 73 (.agg #[]), .iface 74 (.agg #[]), .iface 75 (.pointer (some ⟨g7, 0, none⟩)), .iface 80 (.agg #[])]) rfl rfl (cells := #[.iface 70 (.agg #[]), .iface 71 (.agg #[]), .iface 72 (.agg #[]), .iface 73 (.agg #[]), .iface 74 (.agg #[]), .iface 75 (.pointer (some ⟨g7, 0, none⟩)), .iface 80 (.agg #[])]) (by kernel_rfl)) ?_
 refine w_m ?_
 refine w_b (v := .int .i64 6) (hb := (b_sub (r := 6) (by decide))) ?_
 refine w_v (v := .iface 80 (.agg #[])) (x_indexW 6 rfl rfl rfl Tryz.underlying81 sz54 Tryz.underlying54 rfl ⟨by decide, by decide⟩ rfl) ?_
 refine w_a ?_
 refine w_e ?_
 refine g_weak [(2, .iface 80 (.agg #[]))] ⟨rfl, trivial⟩ ?_
 refine g_ret ?_
 refine fin_ret [.tmp 2] [.iface 80 (.agg #[])] rfl ⟨rfl, trivial⟩ ?_
 exact ⟨rfl, H9.mask [false, false, false, true]⟩
end Go.Proofs.YtpbjekdjebjbkaaGreat
