import Derived.Test.YtpbjekdjebjbkaaGreatFk
import Derived.Test.YtpbjekdjebjbkaaGreatTm
set_option linter.unusedSimpArgs false
set_option linter.unusedVariables false
namespace Go.Proofs.YtpbjekdjebjbkaaGreat
open Go.RowKit

theorem cl169 : callable Tryz.prog 169 = true := by kernel_rfl
theorem cl170 : callable Tryz.prog 170 = true := by kernel_rfl
theorem sz54 : szO Tryz.prog 54 = some 1 := by kernel_rfl
theorem b_eqlMapN {P : Program} {w : World} {t k e : TypeId} {xo : Operand} {c : Value} (h : P.underlying t = some (.map k e)) : Bin P .eql t xo (.const c) (.map none) (.map none) w (.bool true) := by
  have h0 : (eqGuard .eql t xo (.const c) (.map none) (.map none)).run P w = .ok () w := by unfold eqGuard; cases xo <;> rfl
  have h1 : (Op.equal t (.map none) (.map none)).run P w = .ok true w := by
    have h2 : ∀ d, (Op.equalIn (d + 1) t (.map none) (.map none)).run P w = .ok true w := fun d => by simp [Op.equalIn, run_underlying h]
    exact h2 9999
  unfold Bin; rw [Sem.run_bind, h0]
  simp only [Result.andThen_ok, binOp, Sem.run_bind, h1]
  rfl
set_option maxRecDepth 20000 in
set_option maxHeartbeats 4000000 in
theorem mclone_n  (w : World) : Calls Tryz.prog 170 #[.map none] w fun e w' => e = .returned (.map none) ∧ S w' [Old w no] := by
 have H0 := S.old w
 refine enter 9 Tryz.func170 rfl rfl rfl ?_
 refine g_weak [(0, .map none)] ⟨rfl, trivial⟩ ?_
 refine w_s ?_
 refine w_a ?_
 refine w_e ?_
 refine g_seq ?_
 refine w_s ?_
 refine w_m ?_
 refine w_b (v := .bool true) (hb := (b_eqlMapN Tryz.underlying77)) ?_
 refine w_e ?_
 refine g_cond_t rfl rfl ?_
 refine w_s ?_
 refine w_a ?_
 refine w_e ?_
 refine g_ret ?_
 refine g_then_ret ?_
 refine fin_ret [.tmp 2] [.map none] rfl ⟨rfl, trivial⟩ ?_
 exact ⟨rfl, H0.mask [true]⟩
set_option maxRecDepth 20000 in
set_option maxHeartbeats 4000000 in
theorem fairly_c  (w : World) : Calls Tryz.prog 47 #[.agg #[]] w fun e w' => e = .returned (.iface 70 (.agg #[])) ∧ S w' [Old w no] := by
 have H0 := S.old w
 refine enter 5 Tryz.func47 rfl rfl rfl ?_
 refine g_weak [(0, .agg #[])] ⟨rfl, trivial⟩ ?_
 refine w_s ?_
 refine l_of (s_box H0 (wt0 rfl) rfl rfl rfl rfl ?_)
 intro g1 wq2 H3
 refine w_a ?_
 refine w_e ?_
 refine w_s ?_
 refine w_v (v := .agg #[]) (x_build (vs := []) rfl rfl (cells := #[]) (by kernel_rfl)) ?_
 refine w_v (v := .iface 70 (.agg #[])) (x_makeInterface rfl rfl Tryz.underlying70 rfl) ?_
 refine w_a ?_
 refine w_e ?_
 refine g_ret ?_
 refine fin_ret [.tmp 2] [.iface 70 (.agg #[])] rfl ⟨rfl, trivial⟩ ?_
 exact ⟨rfl, H3.mask [false, true]⟩
set_option maxRecDepth 20000 in
set_option maxHeartbeats 4000000 in
theorem freely_c  (w : World) : Calls Tryz.prog 152 #[.agg #[]] w fun e w' => e = .returned (.iface 71 (.agg #[])) ∧ S w' [Old w no] := by
 have H0 := S.old w
 refine enter 5 Tryz.func152 rfl rfl rfl ?_
 refine g_weak [(0, .agg #[])] ⟨rfl, trivial⟩ ?_
 refine w_s ?_
 refine l_of (s_box H0 (wt0 rfl) rfl rfl rfl rfl ?_)
 intro g1 wq2 H3
 refine w_a ?_
 refine w_e ?_
 refine w_s ?_
 refine w_v (v := .agg #[]) (x_build (vs := []) rfl rfl (cells := #[]) (by kernel_rfl)) ?_
 refine w_v (v := .iface 71 (.agg #[])) (x_makeInterface rfl rfl Tryz.underlying71 rfl) ?_
 refine w_a ?_
 refine w_e ?_
 refine g_ret ?_
 refine fin_ret [.tmp 2] [.iface 71 (.agg #[])] rfl ⟨rfl, trivial⟩ ?_
 exact ⟨rfl, H3.mask [false, true]⟩
set_option maxRecDepth 20000 in
set_option maxHeartbeats 4000000 in
theorem openly_c  (w : World) : Calls Tryz.prog 154 #[.agg #[]] w fun e w' => e = .returned (.iface 72 (.agg #[])) ∧ S w' [Old w no] := by
 have H0 := S.old w
 refine enter 5 Tryz.func154 rfl rfl rfl ?_
 refine g_weak [(0, .agg #[])] ⟨rfl, trivial⟩ ?_
 refine w_s ?_
 refine l_of (s_box H0 (wt0 rfl) rfl rfl rfl rfl ?_)
 intro g1 wq2 H3
 refine w_a ?_
 refine w_e ?_
 refine w_s ?_
 refine w_v (v := .agg #[]) (x_build (vs := []) rfl rfl (cells := #[]) (by kernel_rfl)) ?_
 refine w_v (v := .iface 72 (.agg #[])) (x_makeInterface rfl rfl Tryz.underlying72 rfl) ?_
 refine w_a ?_
 refine w_e ?_
 refine g_ret ?_
 refine fin_ret [.tmp 2] [.iface 72 (.agg #[])] rfl ⟨rfl, trivial⟩ ?_
 exact ⟨rfl, H3.mask [false, true]⟩
set_option maxRecDepth 20000 in
set_option maxHeartbeats 4000000 in
theorem grimly_c  (w : World) : Calls Tryz.prog 156 #[.agg #[]] w fun e w' => e = .returned (.iface 73 (.agg #[])) ∧ S w' [Old w no] := by
 have H0 := S.old w
 refine enter 5 Tryz.func156 rfl rfl rfl ?_
 refine g_weak [(0, .agg #[])] ⟨rfl, trivial⟩ ?_
 refine w_s ?_
 refine l_of (s_box H0 (wt0 rfl) rfl rfl rfl rfl ?_)
 intro g1 wq2 H3
 refine w_a ?_
 refine w_e ?_
 refine w_s ?_
 refine w_v (v := .agg #[]) (x_build (vs := []) rfl rfl (cells := #[]) (by kernel_rfl)) ?_
 refine w_v (v := .iface 73 (.agg #[])) (x_makeInterface rfl rfl Tryz.underlying73 rfl) ?_
 refine w_a ?_
 refine w_e ?_
 refine g_ret ?_
 refine fin_ret [.tmp 2] [.iface 73 (.agg #[])] rfl ⟨rfl, trivial⟩ ?_
 exact ⟨rfl, H3.mask [false, true]⟩
set_option maxRecDepth 20000 in
set_option maxHeartbeats 4000000 in
theorem bestly_c  (w : World) : Calls Tryz.prog 161 #[.agg #[]] w fun e w' => e = .returned (.iface 74 (.agg #[])) ∧ S w' [Old w no] := by
 have H0 := S.old w
 refine enter 5 Tryz.func161 rfl rfl rfl ?_
 refine g_weak [(0, .agg #[])] ⟨rfl, trivial⟩ ?_
 refine w_s ?_
 refine l_of (s_box H0 (wt0 rfl) rfl rfl rfl rfl ?_)
 intro g1 wq2 H3
 refine w_a ?_
 refine w_e ?_
 refine w_s ?_
 refine w_v (v := .agg #[]) (x_build (vs := []) rfl rfl (cells := #[]) (by kernel_rfl)) ?_
 refine w_v (v := .iface 74 (.agg #[])) (x_makeInterface rfl rfl Tryz.underlying74 rfl) ?_
 refine w_a ?_
 refine w_e ?_
 refine g_ret ?_
 refine fin_ret [.tmp 2] [.iface 74 (.agg #[])] rfl ⟨rfl, trivial⟩ ?_
 exact ⟨rfl, H3.mask [false, true]⟩
set_option maxRecDepth 20000 in
set_option maxHeartbeats 4000000 in
theorem mirrored_c  (w : World) : Calls Tryz.prog 179 #[.agg #[]] w fun e w' => e = .returned (.iface 80 (.agg #[])) ∧ S w' [Old w no] := by
 have H0 := S.old w
 refine enter 5 Tryz.func179 rfl rfl rfl ?_
 refine g_weak [(0, .agg #[])] ⟨rfl, trivial⟩ ?_
 refine w_s ?_
 refine l_of (s_box H0 (wt0 rfl) rfl rfl rfl rfl ?_)
 intro g1 wq2 H3
 refine w_a ?_
 refine w_e ?_
 refine w_s ?_
 refine w_v (v := .agg #[]) (x_build (vs := []) rfl rfl (cells := #[]) (by kernel_rfl)) ?_
 refine w_v (v := .iface 80 (.agg #[])) (x_makeInterface rfl rfl Tryz.underlying80 rfl) ?_
 refine w_a ?_
 refine w_e ?_
 refine g_ret ?_
 refine fin_ret [.tmp 2] [.iface 80 (.agg #[])] rfl ⟨rfl, trivial⟩ ?_
 exact ⟨rfl, H3.mask [false, true]⟩
set_option maxRecDepth 20000 in
set_option maxHeartbeats 4000000 in
theorem tycopy_s (b pg bg cg : Nat) (P B : Int → Option Int) (C : Int → Option Bool)  (w : World) (HS : S w [Ob b (.cells #[.map (some pg), .map (some bg), .map (some cg)] 79 (0, 0)), Mp (Value.int .i64) (Value.int .i64) okI pg P, Mp (Value.int .i64) (Value.int .i64) okI bg B, Mp (Value.int .i64) Value.bool okI cg C]) : Calls Tryz.prog 166 #[.pointer (some ⟨b, 0, none⟩)] w fun e w' => ∃ b2 pg2 bg2 cg2, e = .returned (.iface 75 (.pointer (some ⟨b2, 0, none⟩))) ∧ S w' ([Ob b2 (.cells #[.map (some pg2), .map (some bg2), .map (some cg2)] 79 (0, 0)), Mp (Value.int .i64) (Value.int .i64) okI pg2 P, Mp (Value.int .i64) (Value.int .i64) okI bg2 B, Mp (Value.int .i64) Value.bool okI cg2 C, Ob b (.cells #[.map (some pg), .map (some bg), .map (some cg)] 79 (0, 0)), Mp (Value.int .i64) (Value.int .i64) okI pg P, Mp (Value.int .i64) (Value.int .i64) okI bg B, Mp (Value.int .i64) Value.bool okI cg C] ++ [Old w (fps [Ob b (.cells #[.map (some pg), .map (some bg), .map (some cg)] 79 (0, 0)), Mp (Value.int .i64) (Value.int .i64) okI pg P, Mp (Value.int .i64) (Value.int .i64) okI bg B, Mp (Value.int .i64) Value.bool okI cg C])]) := by
 have H0 := HS.beginI
 refine enter 21 Tryz.func166 rfl rfl rfl ?_
 refine g_weak [(0, .pointer (some ⟨b, 0, none⟩))] ⟨rfl, trivial⟩ ?_
 refine w_s ?_
 refine w_a ?_
 refine w_e ?_
 refine g_seq ?_
 refine g_anyY [] (fun wx => S wx [Ob b (.cells #[.map (some pg), .map (some bg), .map (some cg)] 79 (0, 0))]) (fun wx => S wx [Ob b (.cells #[.map (some pg), .map (some bg), .map (some cg)] 79 (0, 0))]) [] (by kernel_rfl) H0 (fun wq1 H2 => ?_)
 refine w_y 0 rfl (wt0 rfl) rfl rfl rfl (by kernel_rfl) (fun _ => x_move rfl rfl) ?_
 refine w_y 1 rfl (wt0 rfl) rfl rfl rfl (by kernel_rfl) (fun _ => x_nilCheck rfl rfl) ?_
 refine w_y 2 rfl (wt0 rfl) rfl rfl rfl (by kernel_rfl) (fun _ => x_fieldAddr (off' := 0) rfl rfl fo79_0 rfl) ?_
 have cm1 := H2.mask [true, false, false, false, false]
 refine y_take (v := .map (some pg)) 3 rfl (wt0 rfl) rfl rfl rfl (by kernel_rfl) (by kernel_rfl) (by kernel_rfl) (by kernel_rfl) (by kernel_rfl) cm1 (fun wx H => x_load1 H 0 rfl rfl Tryz.underlying76 rfl rfl rfl) ?_
 refine w_y 5 rfl (wt0 rfl) rfl rfl rfl (by kernel_rfl) (fun _ => x_move rfl rfl) ?_
 refine w_y 6 rfl (wt0 rfl) rfl rfl rfl (by kernel_rfl) (fun _ => x_nilCheck rfl rfl) ?_
 refine w_y 7 rfl (wt0 rfl) rfl rfl rfl (by kernel_rfl) (fun _ => x_fieldAddr (off' := 1) rfl rfl fo79_1 rfl) ?_
 refine y_take (v := .map (some bg)) 8 rfl (wt0 rfl) rfl rfl rfl (by kernel_rfl) (by kernel_rfl) (by kernel_rfl) (by kernel_rfl) (by kernel_rfl) cm1 (fun wx H => x_load1 H 0 rfl rfl Tryz.underlying76 rfl rfl rfl) ?_
 refine w_y 10 rfl (wt0 rfl) rfl rfl rfl (by kernel_rfl) (fun _ => x_move rfl rfl) ?_
 refine w_y 11 rfl (wt0 rfl) rfl rfl rfl (by kernel_rfl) (fun _ => x_nilCheck rfl rfl) ?_
 refine w_y 12 rfl (wt0 rfl) rfl rfl rfl (by kernel_rfl) (fun _ => x_fieldAddr (off' := 2) rfl rfl fo79_2 rfl) ?_
 refine y_take (v := .map (some cg)) 13 rfl (wt0 rfl) rfl rfl rfl (by kernel_rfl) (by kernel_rfl) (by kernel_rfl) (by kernel_rfl) (by kernel_rfl) cm1 (fun wx H => x_load1 H 0 rfl rfl Tryz.underlying77 rfl rfl rfl) ?_
 refine y_one (i := 4) (by kernel_rfl) rfl ?_
 refine s_call (wt0 rfl) (x_call' rfl rfl cl169) (mclone_i pg P _ (H2.takes [1] (by decide))) ?_
 rintro _ wq4 ⟨mg3, rfl, H5⟩
 replace H5 : S wq4 [Mp (Value.int .i64) (Value.int .i64) okI mg3 P, Mp (Value.int .i64) (Value.int .i64) okI pg P, Ob b (.cells #[.map (some pg), .map (some bg), .map (some cg)] 79 (0, 0)), Mp (Value.int .i64) (Value.int .i64) okI bg B, Mp (Value.int .i64) Value.bool okI cg C, Old w (fps [Ob b (.cells #[.map (some pg), .map (some bg), .map (some cg)] 79 (0, 0)), Mp (Value.int .i64) (Value.int .i64) okI pg P, Mp (Value.int .i64) (Value.int .i64) okI bg B, Mp (Value.int .i64) Value.bool okI cg C])] := by have h := H2.absorbI [1] H5; exact h
 refine b_ret rfl rfl ?_
 have cm2 := H5.mask [false, false, true, false, false, false]
 refine y_k cm2 cm2 ?_
 refine y_one (i := 9) (by kernel_rfl) rfl ?_
 refine s_call (wt0 rfl) (x_call' rfl rfl cl169) (mclone_i bg B _ (H5.takes [3] (by decide))) ?_
 rintro _ wq7 ⟨mg6, rfl, H8⟩
 replace H8 : S wq7 [Mp (Value.int .i64) (Value.int .i64) okI mg6 B, Mp (Value.int .i64) (Value.int .i64) okI bg B, Mp (Value.int .i64) (Value.int .i64) okI mg3 P, Mp (Value.int .i64) (Value.int .i64) okI pg P, Ob b (.cells #[.map (some pg), .map (some bg), .map (some cg)] 79 (0, 0)), Mp (Value.int .i64) Value.bool okI cg C, Old w (fps [Ob b (.cells #[.map (some pg), .map (some bg), .map (some cg)] 79 (0, 0)), Mp (Value.int .i64) (Value.int .i64) okI pg P, Mp (Value.int .i64) (Value.int .i64) okI bg B, Mp (Value.int .i64) Value.bool okI cg C])] := by have h := H5.absorbI [3] H8; exact h
 refine b_ret rfl rfl ?_
 have cm3 := H8.mask [false, false, false, false, true, false, false]
 refine y_k cm3 cm3 ?_
 refine y_one (i := 14) (by kernel_rfl) rfl ?_
 refine s_call (wt0 rfl) (x_call' rfl rfl cl170) (mclone_b cg C _ (H8.takes [5] (by decide))) ?_
 rintro _ wq10 ⟨mg9, rfl, H11⟩
 replace H11 : S wq10 [Mp (Value.int .i64) Value.bool okI mg9 C, Mp (Value.int .i64) Value.bool okI cg C, Mp (Value.int .i64) (Value.int .i64) okI mg6 B, Mp (Value.int .i64) (Value.int .i64) okI bg B, Mp (Value.int .i64) (Value.int .i64) okI mg3 P, Mp (Value.int .i64) (Value.int .i64) okI pg P, Ob b (.cells #[.map (some pg), .map (some bg), .map (some cg)] 79 (0, 0)), Old w (fps [Ob b (.cells #[.map (some pg), .map (some bg), .map (some cg)] 79 (0, 0)), Mp (Value.int .i64) (Value.int .i64) okI pg P, Mp (Value.int .i64) (Value.int .i64) okI bg B, Mp (Value.int .i64) Value.bool okI cg C])] := by have h := H8.absorbI [5] H11; exact h
 refine b_ret rfl rfl ?_
 have cm4 := H11.mask [false, false, false, false, false, false, true, false]
 refine y_k cm4 cm4 ?_
 refine w_y (v := .agg #[.map (some mg3), .map (some mg6), .map (some mg9)]) 15 rfl (wt0 rfl) rfl rfl rfl (by kernel_rfl) (fun _ => x_build (vs := [.map (some mg3), .map (some mg6), .map (some mg9)]) rfl rfl (cells := #[.map (some mg3), .map (some mg6), .map (some mg9)]) (by kernel_rfl)) ?_
 refine y_one (i := 16) (by kernel_rfl) rfl ?_
 refine s_box H11 (wt0 rfl) rfl rfl rfl rfl ?_
 intro g12 wq13 H14
 have cm5 := H14.mask [false, false, false, false, false, false, false, true, false]
 refine y_k cm5 cm5 ?_
 refine w_y (v := .iface 75 (.pointer (some ⟨g12, 0, none⟩))) 17 rfl (wt0 rfl) rfl rfl rfl (by kernel_rfl) (fun _ => x_makeInterface rfl rfl Tryz.underlying75 rfl) ?_
 refine w_y 18 rfl (wt0 rfl) rfl rfl rfl (by kernel_rfl) (fun _ => x_assign rfl rfl) ?_
 refine y_done (by kernel_rfl) ?_
 refine g_then ?_
 refine g_weak [(2, .iface 75 (.pointer (some ⟨g12, 0, none⟩)))] ⟨rfl, trivial⟩ ?_
 refine g_ret ?_
 refine fin_ret [.tmp 2] [.iface 75 (.pointer (some ⟨g12, 0, none⟩))] rfl ⟨rfl, trivial⟩ ?_
 exact ⟨_, _, _, _, rfl, H14.takes [0, 5, 3, 1, 7, 6, 4, 2, 8] (by decide)⟩
set_option maxRecDepth 20000 in
set_option maxHeartbeats 4000000 in
theorem tycopy_n (b pg bg : Nat) (P B : Int → Option Int)  (w : World) (HS : S w [Ob b (.cells #[.map (some pg), .map (some bg), .map none] 79 (0, 0)), Mp (Value.int .i64) (Value.int .i64) okI pg P, Mp (Value.int .i64) (Value.int .i64) okI bg B]) : Calls Tryz.prog 166 #[.pointer (some ⟨b, 0, none⟩)] w fun e w' => ∃ b2 pg2 bg2, e = .returned (.iface 75 (.pointer (some ⟨b2, 0, none⟩))) ∧ S w' ([Ob b2 (.cells #[.map (some pg2), .map (some bg2), .map none] 79 (0, 0)), Mp (Value.int .i64) (Value.int .i64) okI pg2 P, Mp (Value.int .i64) (Value.int .i64) okI bg2 B, Ob b (.cells #[.map (some pg), .map (some bg), .map none] 79 (0, 0)), Mp (Value.int .i64) (Value.int .i64) okI pg P, Mp (Value.int .i64) (Value.int .i64) okI bg B] ++ [Old w (fps [Ob b (.cells #[.map (some pg), .map (some bg), .map none] 79 (0, 0)), Mp (Value.int .i64) (Value.int .i64) okI pg P, Mp (Value.int .i64) (Value.int .i64) okI bg B])]) := by
 have H0 := HS.beginI
 refine enter 21 Tryz.func166 rfl rfl rfl ?_
 refine g_weak [(0, .pointer (some ⟨b, 0, none⟩))] ⟨rfl, trivial⟩ ?_
 refine w_s ?_
 refine w_a ?_
 refine w_e ?_
 refine g_seq ?_
 refine g_anyY [] (fun wx => S wx [Ob b (.cells #[.map (some pg), .map (some bg), .map none] 79 (0, 0))]) (fun wx => S wx [Ob b (.cells #[.map (some pg), .map (some bg), .map none] 79 (0, 0))]) [] (by kernel_rfl) H0 (fun wq1 H2 => ?_)
 refine w_y 0 rfl (wt0 rfl) rfl rfl rfl (by kernel_rfl) (fun _ => x_move rfl rfl) ?_
 refine w_y 1 rfl (wt0 rfl) rfl rfl rfl (by kernel_rfl) (fun _ => x_nilCheck rfl rfl) ?_
 refine w_y 2 rfl (wt0 rfl) rfl rfl rfl (by kernel_rfl) (fun _ => x_fieldAddr (off' := 0) rfl rfl fo79_0 rfl) ?_
 have cm6 := H2.mask [true, false, false, false]
 refine y_take (v := .map (some pg)) 3 rfl (wt0 rfl) rfl rfl rfl (by kernel_rfl) (by kernel_rfl) (by kernel_rfl) (by kernel_rfl) (by kernel_rfl) cm6 (fun wx H => x_load1 H 0 rfl rfl Tryz.underlying76 rfl rfl rfl) ?_
 refine w_y 5 rfl (wt0 rfl) rfl rfl rfl (by kernel_rfl) (fun _ => x_move rfl rfl) ?_
 refine w_y 6 rfl (wt0 rfl) rfl rfl rfl (by kernel_rfl) (fun _ => x_nilCheck rfl rfl) ?_
 refine w_y 7 rfl (wt0 rfl) rfl rfl rfl (by kernel_rfl) (fun _ => x_fieldAddr (off' := 1) rfl rfl fo79_1 rfl) ?_
 refine y_take (v := .map (some bg)) 8 rfl (wt0 rfl) rfl rfl rfl (by kernel_rfl) (by kernel_rfl) (by kernel_rfl) (by kernel_rfl) (by kernel_rfl) cm6 (fun wx H => x_load1 H 0 rfl rfl Tryz.underlying76 rfl rfl rfl) ?_
 refine w_y 10 rfl (wt0 rfl) rfl rfl rfl (by kernel_rfl) (fun _ => x_move rfl rfl) ?_
 refine w_y 11 rfl (wt0 rfl) rfl rfl rfl (by kernel_rfl) (fun _ => x_nilCheck rfl rfl) ?_
 refine w_y 12 rfl (wt0 rfl) rfl rfl rfl (by kernel_rfl) (fun _ => x_fieldAddr (off' := 2) rfl rfl fo79_2 rfl) ?_
 refine y_take (v := .map none) 13 rfl (wt0 rfl) rfl rfl rfl (by kernel_rfl) (by kernel_rfl) (by kernel_rfl) (by kernel_rfl) (by kernel_rfl) cm6 (fun wx H => x_load1 H 0 rfl rfl Tryz.underlying77 rfl rfl rfl) ?_
 refine y_one (i := 4) (by kernel_rfl) rfl ?_
 refine s_call (wt0 rfl) (x_call' rfl rfl cl169) (mclone_i pg P _ (H2.takes [1] (by decide))) ?_
 rintro _ wq4 ⟨mg3, rfl, H5⟩
 replace H5 : S wq4 [Mp (Value.int .i64) (Value.int .i64) okI mg3 P, Mp (Value.int .i64) (Value.int .i64) okI pg P, Ob b (.cells #[.map (some pg), .map (some bg), .map none] 79 (0, 0)), Mp (Value.int .i64) (Value.int .i64) okI bg B, Old w (fps [Ob b (.cells #[.map (some pg), .map (some bg), .map none] 79 (0, 0)), Mp (Value.int .i64) (Value.int .i64) okI pg P, Mp (Value.int .i64) (Value.int .i64) okI bg B])] := by have h := H2.absorbI [1] H5; exact h
 refine b_ret rfl rfl ?_
 have cm7 := H5.mask [false, false, true, false, false]
 refine y_k cm7 cm7 ?_
 refine y_one (i := 9) (by kernel_rfl) rfl ?_
 refine s_call (wt0 rfl) (x_call' rfl rfl cl169) (mclone_i bg B _ (H5.takes [3] (by decide))) ?_
 rintro _ wq7 ⟨mg6, rfl, H8⟩
 replace H8 : S wq7 [Mp (Value.int .i64) (Value.int .i64) okI mg6 B, Mp (Value.int .i64) (Value.int .i64) okI bg B, Mp (Value.int .i64) (Value.int .i64) okI mg3 P, Mp (Value.int .i64) (Value.int .i64) okI pg P, Ob b (.cells #[.map (some pg), .map (some bg), .map none] 79 (0, 0)), Old w (fps [Ob b (.cells #[.map (some pg), .map (some bg), .map none] 79 (0, 0)), Mp (Value.int .i64) (Value.int .i64) okI pg P, Mp (Value.int .i64) (Value.int .i64) okI bg B])] := by have h := H5.absorbI [3] H8; exact h
 refine b_ret rfl rfl ?_
 have cm8 := H8.mask [false, false, false, false, true, false]
 refine y_k cm8 cm8 ?_
 refine y_one (i := 14) (by kernel_rfl) rfl ?_
 refine s_call0 H8 (wt0 rfl) (x_call' rfl rfl cl170) (mclone_n _) rfl rfl ?_
 intro wq9 H10
 have cm9 := H10.mask [false, false, false, false, true, false]
 refine y_k cm9 cm9 ?_
 refine w_y (v := .agg #[.map (some mg3), .map (some mg6), .map none]) 15 rfl (wt0 rfl) rfl rfl rfl (by kernel_rfl) (fun _ => x_build (vs := [.map (some mg3), .map (some mg6), .map none]) rfl rfl (cells := #[.map (some mg3), .map (some mg6), .map none]) (by kernel_rfl)) ?_
 refine y_one (i := 16) (by kernel_rfl) rfl ?_
 refine s_box H10 (wt0 rfl) rfl rfl rfl rfl ?_
 intro g11 wq12 H13
 have cm10 := H13.mask [false, false, false, false, false, true, false]
 refine y_k cm10 cm10 ?_
 refine w_y (v := .iface 75 (.pointer (some ⟨g11, 0, none⟩))) 17 rfl (wt0 rfl) rfl rfl rfl (by kernel_rfl) (fun _ => x_makeInterface rfl rfl Tryz.underlying75 rfl) ?_
 refine w_y 18 rfl (wt0 rfl) rfl rfl rfl (by kernel_rfl) (fun _ => x_assign rfl rfl) ?_
 refine y_done (by kernel_rfl) ?_
 refine g_then ?_
 refine g_weak [(2, .iface 75 (.pointer (some ⟨g11, 0, none⟩)))] ⟨rfl, trivial⟩ ?_
 refine g_ret ?_
 refine fin_ret [.tmp 2] [.iface 75 (.pointer (some ⟨g11, 0, none⟩))] rfl ⟨rfl, trivial⟩ ?_
 exact ⟨_, _, _, rfl, H13.takes [0, 3, 1, 5, 4, 2, 6] (by decide)⟩
set_option maxRecDepth 20000 in
set_option maxHeartbeats 4000000 in
theorem made_1  (w : World) : Calls Tryz.prog 21 #[.int .i64 1] w fun e w' => e = .returned (.iface 70 (.agg #[])) ∧ S w' [Old w no] := by
 have H0 := S.old w
 refine enter 24 Tryz.func21 rfl rfl rfl ?_
 refine g_weak [(0, .int .i64 1)] ⟨rfl, trivial⟩ ?_
 refine w_s ?_
 refine w_a ?_
 refine w_e ?_
 refine w_s ?_
 refine w_v (v := .agg #[]) (x_build (vs := []) rfl rfl (cells := #[]) (by kernel_rfl)) ?_
 refine w_v (v := .iface 70 (.agg #[])) (x_makeInterface rfl rfl Tryz.underlying70 rfl) ?_
 refine w_v (v := .agg #[]) (x_build (vs := []) rfl rfl (cells := #[]) (by kernel_rfl)) ?_
 refine w_v (v := .iface 71 (.agg #[])) (x_makeInterface rfl rfl Tryz.underlying71 rfl) ?_
 refine w_v (v := .agg #[]) (x_build (vs := []) rfl rfl (cells := #[]) (by kernel_rfl)) ?_
 refine w_v (v := .iface 72 (.agg #[])) (x_makeInterface rfl rfl Tryz.underlying72 rfl) ?_
 refine w_v (v := .agg #[]) (x_build (vs := []) rfl rfl (cells := #[]) (by kernel_rfl)) ?_
 refine w_v (v := .iface 73 (.agg #[])) (x_makeInterface rfl rfl Tryz.underlying73 rfl) ?_
 refine w_v (v := .agg #[]) (x_build (vs := []) rfl rfl (cells := #[]) (by kernel_rfl)) ?_
 refine w_v (v := .iface 74 (.agg #[])) (x_makeInterface rfl rfl Tryz.underlying74 rfl) ?_
 refine l_of (s_makeMap (α := Int) (Value.int .i64) (Value.int .i64) okI H0 (wt0 rfl) rfl rfl rfl ?_)
 intro mg1 wq2 H3
 refine l_of (s_makeMap (α := Int) (Value.int .i64) (Value.int .i64) okI H3 (wt0 rfl) rfl rfl rfl ?_)
 intro mg4 wq5 H6
 refine w_v (v := .agg #[.map (some mg1), .map (some mg4), .map none]) (x_build (vs := [.map (some mg1), .map (some mg4), .map none]) rfl rfl (cells := #[.map (some mg1), .map (some mg4), .map none]) (by kernel_rfl)) ?_
 refine l_of (s_box H6 (wt0 rfl) rfl rfl rfl rfl ?_)
 intro g7 wq8 H9
 refine w_v (v := .iface 75 (.pointer (some ⟨g7, 0, none⟩))) (x_makeInterface rfl rfl Tryz.underlying75 rfl) ?_
 refine w_v (v := .agg #[]) (x_build (vs := []) rfl rfl (cells := #[]) (by kernel_rfl)) ?_
 refine w_v (v := .iface 80 (.agg #[])) (x_makeInterface rfl rfl Tryz.underlying80 rfl) ?_
 refine w_v (v := .agg #[.iface 70 (.agg #[]), .iface 71 (.agg #[]), .iface 72 (.agg #[]), .iface 73 (.agg #[]), .iface 74 (.agg #[]), .iface 75 (.pointer (some ⟨g7, 0, none⟩)), .iface 80 (.agg #[])]) (x_build (vs := [.iface 70 (.agg #[]), .iface 71 (.agg #[]), .iface 72 (.agg #[]), .iface 73 (.agg #[]), .iface 74 (.agg #[]), .iface 75 (.pointer (some ⟨g7, 0, none⟩)), .iface 80 (.agg #[])]) rfl rfl (cells := #[.iface 70 (.agg #[]), .iface 71 (.agg #[]), .iface 72 (.agg #[]), .iface 73 (.agg #[]), .iface 74 (.agg #[]), .iface 75 (.pointer (some ⟨g7, 0, none⟩)), .iface 80 (.agg #[])]) (by kernel_rfl)) ?_
 refine w_m ?_
 refine w_b (v := .int .i64 0) (hb := (b_sub (r := 0) (by decide))) ?_
 refine w_v (v := .iface 70 (.agg #[])) (x_indexW 0 rfl rfl rfl Tryz.underlying81 sz54 Tryz.underlying54 rfl ⟨by decide, by decide⟩ rfl) ?_
 refine w_a ?_
 refine w_e ?_
 refine g_weak [(2, .iface 70 (.agg #[]))] ⟨rfl, trivial⟩ ?_
 refine g_ret ?_
 refine fin_ret [.tmp 2] [.iface 70 (.agg #[])] rfl ⟨rfl, trivial⟩ ?_
 exact ⟨rfl, H9.mask [false, false, false, true]⟩
set_option maxRecDepth 20000 in
set_option maxHeartbeats 4000000 in
theorem made_2  (w : World) : Calls Tryz.prog 21 #[.int .i64 2] w fun e w' => e = .returned (.iface 71 (.agg #[])) ∧ S w' [Old w no] := by
 have H0 := S.old w
 refine enter 24 Tryz.func21 rfl rfl rfl ?_
 refine g_weak [(0, .int .i64 2)] ⟨rfl, trivial⟩ ?_
 refine w_s ?_
 refine w_a ?_
 refine w_e ?_
 refine w_s ?_
 refine w_v (v := .agg #[]) (x_build (vs := []) rfl rfl (cells := #[]) (by kernel_rfl)) ?_
 refine w_v (v := .iface 70 (.agg #[])) (x_makeInterface rfl rfl Tryz.underlying70 rfl) ?_
 refine w_v (v := .agg #[]) (x_build (vs := []) rfl rfl (cells := #[]) (by kernel_rfl)) ?_
 refine w_v (v := .iface 71 (.agg #[])) (x_makeInterface rfl rfl Tryz.underlying71 rfl) ?_
 refine w_v (v := .agg #[]) (x_build (vs := []) rfl rfl (cells := #[]) (by kernel_rfl)) ?_
 refine w_v (v := .iface 72 (.agg #[])) (x_makeInterface rfl rfl Tryz.underlying72 rfl) ?_
 refine w_v (v := .agg #[]) (x_build (vs := []) rfl rfl (cells := #[]) (by kernel_rfl)) ?_
 refine w_v (v := .iface 73 (.agg #[])) (x_makeInterface rfl rfl Tryz.underlying73 rfl) ?_
 refine w_v (v := .agg #[]) (x_build (vs := []) rfl rfl (cells := #[]) (by kernel_rfl)) ?_
 refine w_v (v := .iface 74 (.agg #[])) (x_makeInterface rfl rfl Tryz.underlying74 rfl) ?_
 refine l_of (s_makeMap (α := Int) (Value.int .i64) (Value.int .i64) okI H0 (wt0 rfl) rfl rfl rfl ?_)
 intro mg1 wq2 H3
 refine l_of (s_makeMap (α := Int) (Value.int .i64) (Value.int .i64) okI H3 (wt0 rfl) rfl rfl rfl ?_)
 intro mg4 wq5 H6
 refine w_v (v := .agg #[.map (some mg1), .map (some mg4), .map none]) (x_build (vs := [.map (some mg1), .map (some mg4), .map none]) rfl rfl (cells := #[.map (some mg1), .map (some mg4), .map none]) (by kernel_rfl)) ?_
 refine l_of (s_box H6 (wt0 rfl) rfl rfl rfl rfl ?_)
 intro g7 wq8 H9
 refine w_v (v := .iface 75 (.pointer (some ⟨g7, 0, none⟩))) (x_makeInterface rfl rfl Tryz.underlying75 rfl) ?_
 refine w_v (v := .agg #[]) (x_build (vs := []) rfl rfl (cells := #[]) (by kernel_rfl)) ?_
 refine w_v (v := .iface 80 (.agg #[])) (x_makeInterface rfl rfl Tryz.underlying80 rfl) ?_
 refine w_v (v := .agg #[.iface 70 (.agg #[]), .iface 71 (.agg #[]), .iface 72 (.agg #[]), .iface 73 (.agg #[]), .iface 74 (.agg #[]), .iface 75 (.pointer (some ⟨g7, 0, none⟩)), .iface 80 (.agg #[])]) (x_build (vs := [.iface 70 (.agg #[]), .iface 71 (.agg #[]), .iface 72 (.agg #[]), .iface 73 (.agg #[]), .iface 74 (.agg #[]), .iface 75 (.pointer (some ⟨g7, 0, none⟩)), .iface 80 (.agg #[])]) rfl rfl (cells := #[.iface 70 (.agg #[]), .iface 71 (.agg #[]), .iface 72 (.agg #[]), .iface 73 (.agg #[]), .iface 74 (.agg #[]), .iface 75 (.pointer (some ⟨g7, 0, none⟩)), .iface 80 (.agg #[])]) (by kernel_rfl)) ?_
 refine w_m ?_
 refine w_b (v := .int .i64 1) (hb := (b_sub (r := 1) (by decide))) ?_
 refine w_v (v := .iface 71 (.agg #[])) (x_indexW 1 rfl rfl rfl Tryz.underlying81 sz54 Tryz.underlying54 rfl ⟨by decide, by decide⟩ rfl) ?_
 refine w_a ?_
 refine w_e ?_
 refine g_weak [(2, .iface 71 (.agg #[]))] ⟨rfl, trivial⟩ ?_
 refine g_ret ?_
 refine fin_ret [.tmp 2] [.iface 71 (.agg #[])] rfl ⟨rfl, trivial⟩ ?_
 exact ⟨rfl, H9.mask [false, false, false, true]⟩
set_option maxRecDepth 20000 in
set_option maxHeartbeats 4000000 in
theorem made_3  (w : World) : Calls Tryz.prog 21 #[.int .i64 3] w fun e w' => e = .returned (.iface 72 (.agg #[])) ∧ S w' [Old w no] := by
 have H0 := S.old w
 refine enter 24 Tryz.func21 rfl rfl rfl ?_
 refine g_weak [(0, .int .i64 3)] ⟨rfl, trivial⟩ ?_
 refine w_s ?_
 refine w_a ?_
 refine w_e ?_
 refine w_s ?_
 refine w_v (v := .agg #[]) (x_build (vs := []) rfl rfl (cells := #[]) (by kernel_rfl)) ?_
 refine w_v (v := .iface 70 (.agg #[])) (x_makeInterface rfl rfl Tryz.underlying70 rfl) ?_
 refine w_v (v := .agg #[]) (x_build (vs := []) rfl rfl (cells := #[]) (by kernel_rfl)) ?_
 refine w_v (v := .iface 71 (.agg #[])) (x_makeInterface rfl rfl Tryz.underlying71 rfl) ?_
 refine w_v (v := .agg #[]) (x_build (vs := []) rfl rfl (cells := #[]) (by kernel_rfl)) ?_
 refine w_v (v := .iface 72 (.agg #[])) (x_makeInterface rfl rfl Tryz.underlying72 rfl) ?_
 refine w_v (v := .agg #[]) (x_build (vs := []) rfl rfl (cells := #[]) (by kernel_rfl)) ?_
 refine w_v (v := .iface 73 (.agg #[])) (x_makeInterface rfl rfl Tryz.underlying73 rfl) ?_
 refine w_v (v := .agg #[]) (x_build (vs := []) rfl rfl (cells := #[]) (by kernel_rfl)) ?_
 refine w_v (v := .iface 74 (.agg #[])) (x_makeInterface rfl rfl Tryz.underlying74 rfl) ?_
 refine l_of (s_makeMap (α := Int) (Value.int .i64) (Value.int .i64) okI H0 (wt0 rfl) rfl rfl rfl ?_)
 intro mg1 wq2 H3
 refine l_of (s_makeMap (α := Int) (Value.int .i64) (Value.int .i64) okI H3 (wt0 rfl) rfl rfl rfl ?_)
 intro mg4 wq5 H6
 refine w_v (v := .agg #[.map (some mg1), .map (some mg4), .map none]) (x_build (vs := [.map (some mg1), .map (some mg4), .map none]) rfl rfl (cells := #[.map (some mg1), .map (some mg4), .map none]) (by kernel_rfl)) ?_
 refine l_of (s_box H6 (wt0 rfl) rfl rfl rfl rfl ?_)
 intro g7 wq8 H9
 refine w_v (v := .iface 75 (.pointer (some ⟨g7, 0, none⟩))) (x_makeInterface rfl rfl Tryz.underlying75 rfl) ?_
 refine w_v (v := .agg #[]) (x_build (vs := []) rfl rfl (cells := #[]) (by kernel_rfl)) ?_
 refine w_v (v := .iface 80 (.agg #[])) (x_makeInterface rfl rfl Tryz.underlying80 rfl) ?_
 refine w_v (v := .agg #[.iface 70 (.agg #[]), .iface 71 (.agg #[]), .iface 72 (.agg #[]), .iface 73 (.agg #[]), .iface 74 (.agg #[]), .iface 75 (.pointer (some ⟨g7, 0, none⟩)), .iface 80 (.agg #[])]) (x_build (vs := [.iface 70 (.agg #[]), .iface 71 (.agg #[]), .iface 72 (.agg #[]), .iface 73 (.agg #[]), .iface 74 (.agg #[]), .iface 75 (.pointer (some ⟨g7, 0, none⟩)), .iface 80 (.agg #[])]) rfl rfl (cells := #[.iface 70 (.agg #[]), .iface 71 (.agg #[]), .iface 72 (.agg #[]), .iface 73 (.agg #[]), .iface 74 (.agg #[]), .iface 75 (.pointer (some ⟨g7, 0, none⟩)), .iface 80 (.agg #[])]) (by kernel_rfl)) ?_
 refine w_m ?_
 refine w_b (v := .int .i64 2) (hb := (b_sub (r := 2) (by decide))) ?_
 refine w_v (v := .iface 72 (.agg #[])) (x_indexW 2 rfl rfl rfl Tryz.underlying81 sz54 Tryz.underlying54 rfl ⟨by decide, by decide⟩ rfl) ?_
 refine w_a ?_
 refine w_e ?_
 refine g_weak [(2, .iface 72 (.agg #[]))] ⟨rfl, trivial⟩ ?_
 refine g_ret ?_
 refine fin_ret [.tmp 2] [.iface 72 (.agg #[])] rfl ⟨rfl, trivial⟩ ?_
 exact ⟨rfl, H9.mask [false, false, false, true]⟩
set_option maxRecDepth 20000 in
set_option maxHeartbeats 4000000 in
theorem made_4  (w : World) : Calls Tryz.prog 21 #[.int .i64 4] w fun e w' => e = .returned (.iface 73 (.agg #[])) ∧ S w' [Old w no] := by
 have H0 := S.old w
 refine enter 24 Tryz.func21 rfl rfl rfl ?_
 refine g_weak [(0, .int .i64 4)] ⟨rfl, trivial⟩ ?_
 refine w_s ?_
 refine w_a ?_
 refine w_e ?_
 refine w_s ?_
 refine w_v (v := .agg #[]) (x_build (vs := []) rfl rfl (cells := #[]) (by kernel_rfl)) ?_
 refine w_v (v := .iface 70 (.agg #[])) (x_makeInterface rfl rfl Tryz.underlying70 rfl) ?_
 refine w_v (v := .agg #[]) (x_build (vs := []) rfl rfl (cells := #[]) (by kernel_rfl)) ?_
 refine w_v (v := .iface 71 (.agg #[])) (x_makeInterface rfl rfl Tryz.underlying71 rfl) ?_
 refine w_v (v := .agg #[]) (x_build (vs := []) rfl rfl (cells := #[]) (by kernel_rfl)) ?_
 refine w_v (v := .iface 72 (.agg #[])) (x_makeInterface rfl rfl Tryz.underlying72 rfl) ?_
 refine w_v (v := .agg #[]) (x_build (vs := []) rfl rfl (cells := #[]) (by kernel_rfl)) ?_
 refine w_v (v := .iface 73 (.agg #[])) (x_makeInterface rfl rfl Tryz.underlying73 rfl) ?_
 refine w_v (v := .agg #[]) (x_build (vs := []) rfl rfl (cells := #[]) (by kernel_rfl)) ?_
 refine w_v (v := .iface 74 (.agg #[])) (x_makeInterface rfl rfl Tryz.underlying74 rfl) ?_
 refine l_of (s_makeMap (α := Int) (Value.int .i64) (Value.int .i64) okI H0 (wt0 rfl) rfl rfl rfl ?_)
 intro mg1 wq2 H3
 refine l_of (s_makeMap (α := Int) (Value.int .i64) (Value.int .i64) okI H3 (wt0 rfl) rfl rfl rfl ?_)
 intro mg4 wq5 H6
 refine w_v (v := .agg #[.map (some mg1), .map (some mg4), .map none]) (x_build (vs := [.map (some mg1), .map (some mg4), .map none]) rfl rfl (cells := #[.map (some mg1), .map (some mg4), .map none]) (by kernel_rfl)) ?_
 refine l_of (s_box H6 (wt0 rfl) rfl rfl rfl rfl ?_)
 intro g7 wq8 H9
 refine w_v (v := .iface 75 (.pointer (some ⟨g7, 0, none⟩))) (x_makeInterface rfl rfl Tryz.underlying75 rfl) ?_
 refine w_v (v := .agg #[]) (x_build (vs := []) rfl rfl (cells := #[]) (by kernel_rfl)) ?_
 refine w_v (v := .iface 80 (.agg #[])) (x_makeInterface rfl rfl Tryz.underlying80 rfl) ?_
 refine w_v (v := .agg #[.iface 70 (.agg #[]), .iface 71 (.agg #[]), .iface 72 (.agg #[]), .iface 73 (.agg #[]), .iface 74 (.agg #[]), .iface 75 (.pointer (some ⟨g7, 0, none⟩)), .iface 80 (.agg #[])]) (x_build (vs := [.iface 70 (.agg #[]), .iface 71 (.agg #[]), .iface 72 (.agg #[]), .iface 73 (.agg #[]), .iface 74 (.agg #[]), .iface 75 (.pointer (some ⟨g7, 0, none⟩)), .iface 80 (.agg #[])]) rfl rfl (cells := #[.iface 70 (.agg #[]), .iface 71 (.agg #[]), .iface 72 (.agg #[]), .iface 73 (.agg #[]), .iface 74 (.agg #[]), .iface 75 (.pointer (some ⟨g7, 0, none⟩)), .iface 80 (.agg #[])]) (by kernel_rfl)) ?_
 refine w_m ?_
 refine w_b (v := .int .i64 3) (hb := (b_sub (r := 3) (by decide))) ?_
 refine w_v (v := .iface 73 (.agg #[])) (x_indexW 3 rfl rfl rfl Tryz.underlying81 sz54 Tryz.underlying54 rfl ⟨by decide, by decide⟩ rfl) ?_
 refine w_a ?_
 refine w_e ?_
 refine g_weak [(2, .iface 73 (.agg #[]))] ⟨rfl, trivial⟩ ?_
 refine g_ret ?_
 refine fin_ret [.tmp 2] [.iface 73 (.agg #[])] rfl ⟨rfl, trivial⟩ ?_
 exact ⟨rfl, H9.mask [false, false, false, true]⟩
set_option maxRecDepth 20000 in
set_option maxHeartbeats 4000000 in
theorem made_5  (w : World) : Calls Tryz.prog 21 #[.int .i64 5] w fun e w' => e = .returned (.iface 74 (.agg #[])) ∧ S w' [Old w no] := by
 have H0 := S.old w
 refine enter 24 Tryz.func21 rfl rfl rfl ?_
 refine g_weak [(0, .int .i64 5)] ⟨rfl, trivial⟩ ?_
 refine w_s ?_
 refine w_a ?_
 refine w_e ?_
 refine w_s ?_
 refine w_v (v := .agg #[]) (x_build (vs := []) rfl rfl (cells := #[]) (by kernel_rfl)) ?_
 refine w_v (v := .iface 70 (.agg #[])) (x_makeInterface rfl rfl Tryz.underlying70 rfl) ?_
 refine w_v (v := .agg #[]) (x_build (vs := []) rfl rfl (cells := #[]) (by kernel_rfl)) ?_
 refine w_v (v := .iface 71 (.agg #[])) (x_makeInterface rfl rfl Tryz.underlying71 rfl) ?_
 refine w_v (v := .agg #[]) (x_build (vs := []) rfl rfl (cells := #[]) (by kernel_rfl)) ?_
 refine w_v (v := .iface 72 (.agg #[])) (x_makeInterface rfl rfl Tryz.underlying72 rfl) ?_
 refine w_v (v := .agg #[]) (x_build (vs := []) rfl rfl (cells := #[]) (by kernel_rfl)) ?_
 refine w_v (v := .iface 73 (.agg #[])) (x_makeInterface rfl rfl Tryz.underlying73 rfl) ?_
 refine w_v (v := .agg #[]) (x_build (vs := []) rfl rfl (cells := #[]) (by kernel_rfl)) ?_
 refine w_v (v := .iface 74 (.agg #[])) (x_makeInterface rfl rfl Tryz.underlying74 rfl) ?_
 refine l_of (s_makeMap (α := Int) (Value.int .i64) (Value.int .i64) okI H0 (wt0 rfl) rfl rfl rfl ?_)
 intro mg1 wq2 H3
 refine l_of (s_makeMap (α := Int) (Value.int .i64) (Value.int .i64) okI H3 (wt0 rfl) rfl rfl rfl ?_)
 intro mg4 wq5 H6
 refine w_v (v := .agg #[.map (some mg1), .map (some mg4), .map none]) (x_build (vs := [.map (some mg1), .map (some mg4), .map none]) rfl rfl (cells := #[.map (some mg1), .map (some mg4), .map none]) (by kernel_rfl)) ?_
 refine l_of (s_box H6 (wt0 rfl) rfl rfl rfl rfl ?_)
 intro g7 wq8 H9
 refine w_v (v := .iface 75 (.pointer (some ⟨g7, 0, none⟩))) (x_makeInterface rfl rfl Tryz.underlying75 rfl) ?_
 refine w_v (v := .agg #[]) (x_build (vs := []) rfl rfl (cells := #[]) (by kernel_rfl)) ?_
 refine w_v (v := .iface 80 (.agg #[])) (x_makeInterface rfl rfl Tryz.underlying80 rfl) ?_
 refine w_v (v := .agg #[.iface 70 (.agg #[]), .iface 71 (.agg #[]), .iface 72 (.agg #[]), .iface 73 (.agg #[]), .iface 74 (.agg #[]), .iface 75 (.pointer (some ⟨g7, 0, none⟩)), .iface 80 (.agg #[])]) (x_build (vs := [.iface 70 (.agg #[]), .iface 71 (.agg #[]), .iface 72 (.agg #[]), .iface 73 (.agg #[]), .iface 74 (.agg #[]), .iface 75 (.pointer (some ⟨g7, 0, none⟩)), .iface 80 (.agg #[])]) rfl rfl (cells := #[.iface 70 (.agg #[]), .iface 71 (.agg #[]), .iface 72 (.agg #[]), .iface 73 (.agg #[]), .iface 74 (.agg #[]), .iface 75 (.pointer (some ⟨g7, 0, none⟩)), .iface 80 (.agg #[])]) (by kernel_rfl)) ?_
 refine w_m ?_
 refine w_b (v := .int .i64 4) (hb := (b_sub (r := 4) (by decide))) ?_
 refine w_v (v := .iface 74 (.agg #[])) (x_indexW 4 rfl rfl rfl Tryz.underlying81 sz54 Tryz.underlying54 rfl ⟨by decide, by decide⟩ rfl) ?_
 refine w_a ?_
 refine w_e ?_
 refine g_weak [(2, .iface 74 (.agg #[]))] ⟨rfl, trivial⟩ ?_
 refine g_ret ?_
 refine fin_ret [.tmp 2] [.iface 74 (.agg #[])] rfl ⟨rfl, trivial⟩ ?_
 exact ⟨rfl, H9.mask [false, false, false, true]⟩
set_option maxRecDepth 20000 in
set_option maxHeartbeats 4000000 in
theorem made_6  (w : World) : Calls Tryz.prog 21 #[.int .i64 6] w fun e w' => ∃ b2 pg2 bg2, e = .returned (.iface 75 (.pointer (some ⟨b2, 0, none⟩))) ∧ S w' ([Ob b2 (.cells #[.map (some pg2), .map (some bg2), .map none] 79 (0, 0)), Mp (Value.int .i64) (Value.int .i64) okI pg2 (fun _ => none), Mp (Value.int .i64) (Value.int .i64) okI bg2 (fun _ => none)] ++ [Old w no]) := by
 have H0 := S.old w
 refine enter 24 Tryz.func21 rfl rfl rfl ?_
 refine g_weak [(0, .int .i64 6)] ⟨rfl, trivial⟩ ?_
 refine w_s ?_
 refine w_a ?_
 refine w_e ?_
 refine w_s ?_
 refine w_v (v := .agg #[]) (x_build (vs := []) rfl rfl (cells := #[]) (by kernel_rfl)) ?_
 refine w_v (v := .iface 70 (.agg #[])) (x_makeInterface rfl rfl Tryz.underlying70 rfl) ?_
 refine w_v (v := .agg #[]) (x_build (vs := []) rfl rfl (cells := #[]) (by kernel_rfl)) ?_
 refine w_v (v := .iface 71 (.agg #[])) (x_makeInterface rfl rfl Tryz.underlying71 rfl) ?_
 refine w_v (v := .agg #[]) (x_build (vs := []) rfl rfl (cells := #[]) (by kernel_rfl)) ?_
 refine w_v (v := .iface 72 (.agg #[])) (x_makeInterface rfl rfl Tryz.underlying72 rfl) ?_
 refine w_v (v := .agg #[]) (x_build (vs := []) rfl rfl (cells := #[]) (by kernel_rfl)) ?_
 refine w_v (v := .iface 73 (.agg #[])) (x_makeInterface rfl rfl Tryz.underlying73 rfl) ?_
 refine w_v (v := .agg #[]) (x_build (vs := []) rfl rfl (cells := #[]) (by kernel_rfl)) ?_
 refine w_v (v := .iface 74 (.agg #[])) (x_makeInterface rfl rfl Tryz.underlying74 rfl) ?_
 refine l_of (s_makeMap (α := Int) (Value.int .i64) (Value.int .i64) okI H0 (wt0 rfl) rfl rfl rfl ?_)
 intro mg1 wq2 H3
 refine l_of (s_makeMap (α := Int) (Value.int .i64) (Value.int .i64) okI H3 (wt0 rfl) rfl rfl rfl ?_)
 intro mg4 wq5 H6
 refine w_v (v := .agg #[.map (some mg1), .map (some mg4), .map none]) (x_build (vs := [.map (some mg1), .map (some mg4), .map none]) rfl rfl (cells := #[.map (some mg1), .map (some mg4), .map none]) (by kernel_rfl)) ?_
 refine l_of (s_box H6 (wt0 rfl) rfl rfl rfl rfl ?_)
 intro g7 wq8 H9
 refine w_v (v := .iface 75 (.pointer (some ⟨g7, 0, none⟩))) (x_makeInterface rfl rfl Tryz.underlying75 rfl) ?_
 refine w_v (v := .agg #[]) (x_build (vs := []) rfl rfl (cells := #[]) (by kernel_rfl)) ?_
 refine w_v (v := .iface 80 (.agg #[])) (x_makeInterface rfl rfl Tryz.underlying80 rfl) ?_
 refine w_v (v := .agg #[.iface 70 (.agg #[]), .iface 71 (.agg #[]), .iface 72 (.agg #[]), .iface 73 (.agg #[]), .iface 74 (.agg #[]), .iface 75 (.pointer (some ⟨g7, 0, none⟩)), .iface 80 (.agg #[])]) (x_build (vs := [.iface 70 (.agg #[]), .iface 71 (.agg #[]), .iface 72 (.agg #[]), .iface 73 (.agg #[]), .iface 74 (.agg #[]), .iface 75 (.pointer (some ⟨g7, 0, none⟩)), .iface 80 (.agg #[])]) rfl rfl (cells := #[.iface 70 (.agg #[]), .iface 71 (.agg #[]), .iface 72 (.agg #[]), .iface 73 (.agg #[]), .iface 74 (.agg #[]), .iface 75 (.pointer (some ⟨g7, 0, none⟩)), .iface 80 (.agg #[])]) (by kernel_rfl)) ?_
 refine w_m ?_
 refine w_b (v := .int .i64 5) (hb := (b_sub (r := 5) (by decide))) ?_
 refine w_v (v := .iface 75 (.pointer (some ⟨g7, 0, none⟩))) (x_indexW 5 rfl rfl rfl Tryz.underlying81 sz54 Tryz.underlying54 rfl ⟨by decide, by decide⟩ rfl) ?_
 refine w_a ?_
 refine w_e ?_
 refine g_weak [(2, .iface 75 (.pointer (some ⟨g7, 0, none⟩)))] ⟨rfl, trivial⟩ ?_
 refine g_ret ?_
 refine fin_ret [.tmp 2] [.iface 75 (.pointer (some ⟨g7, 0, none⟩))] rfl ⟨rfl, trivial⟩ ?_
 exact ⟨_, _, _, rfl, H9.takes [0, 2, 1, 3] (by decide)⟩
set_option maxRecDepth 20000 in
set_option maxHeartbeats 4000000 in
theorem made_7  (w : World) : Calls Tryz.prog 21 #[.int .i64 7] w fun e w' => e = .returned (.iface 80 (.agg #[])) ∧ S w' [Old w no] := by
 have H0 := S.old w
 refine enter 24 Tryz.func21 rfl rfl rfl ?_
 refine g_weak [(0, .int .i64 7)] ⟨rfl, trivial⟩ ?_
 refine w_s ?_
 refine w_a ?_
 refine w_e ?_
 refine w_s ?_
 refine w_v (v := .agg #[]) (x_build (vs := []) rfl rfl (cells := #[]) (by kernel_rfl)) ?_
 refine w_v (v := .iface 70 (.agg #[])) (x_makeInterface rfl rfl Tryz.underlying70 rfl) ?_
 refine w_v (v := .agg #[]) (x_build (vs := []) rfl rfl (cells := #[]) (by kernel_rfl)) ?_
 refine w_v (v := .iface 71 (.agg #[])) (x_makeInterface rfl rfl Tryz.underlying71 rfl) ?_
 refine w_v (v := .agg #[]) (x_build (vs := []) rfl rfl (cells := #[]) (by kernel_rfl)) ?_
 refine w_v (v := .iface 72 (.agg #[])) (x_makeInterface rfl rfl Tryz.underlying72 rfl) ?_
 refine w_v (v := .agg #[]) (x_build (vs := []) rfl rfl (cells := #[]) (by kernel_rfl)) ?_
 refine w_v (v := .iface 73 (.agg #[])) (x_makeInterface rfl rfl Tryz.underlying73 rfl) ?_
 refine w_v (v := .agg #[]) (x_build (vs := []) rfl rfl (cells := #[]) (by kernel_rfl)) ?_
 refine w_v (v := .iface 74 (.agg #[])) (x_makeInterface rfl rfl Tryz.underlying74 rfl) ?_
 refine l_of (s_makeMap (α := Int) (Value.int .i64) (Value.int .i64) okI H0 (wt0 rfl) rfl rfl rfl ?_)
 intro mg1 wq2 H3
 refine l_of (s_makeMap (α := Int) (Value.int .i64) (Value.int .i64) okI H3 (wt0 rfl) rfl rfl rfl ?_)
 intro mg4 wq5 H6
 refine w_v (v := .agg #[.map (some mg1), .map (some mg4), .map none]) (x_build (vs := [.map (some mg1), .map (some mg4), .map none]) rfl rfl (cells := #[.map (some mg1), .map (some mg4), .map none]) (by kernel_rfl)) ?_
 refine l_of (s_box H6 (wt0 rfl) rfl rfl rfl rfl ?_)
 intro g7 wq8 H9
 refine w_v (v := .iface 75 (.pointer (some ⟨g7, 0, none⟩))) (x_makeInterface rfl rfl Tryz.underlying75 rfl) ?_
 refine w_v (v := .agg #[]) (x_build (vs := []) rfl rfl (cells := #[]) (by kernel_rfl)) ?_
 refine w_v (v := .iface 80 (.agg #[])) (x_makeInterface rfl rfl Tryz.underlying80 rfl) ?_
 refine w_v (v := .agg #[.iface 70 (.agg #[]), .iface 71 (.agg #[]), .iface 72 (.agg #[]), .iface 73 (.agg #[]), .iface 74 (.agg #[]), .iface 75 (.pointer (some ⟨g7, 0, none⟩)), .iface 80 (.agg #[])]) (x_build (vs := [.iface 70 (.agg #[]), .iface 71 (.agg #[]), .iface 72 (.agg #[]), .iface 73 (.agg #[]), .iface 74 (.agg #[]), .iface 75 (.pointer (some ⟨g7, 0, none⟩)), .iface 80 (.agg #[])]) rfl rfl (cells := #[.iface 70 (.agg #[]), .iface 71 (.agg #[]), .iface 72 (.agg #[]), .iface 73 (.agg #[]), .iface 74 (.agg #[]), .iface 75 (.pointer (some ⟨g7, 0, none⟩)), .iface 80 (.agg #[])]) (by kernel_rfl)) ?_
 refine w_m ?_
 refine w_b (v := .int .i64 6) (hb := (b_sub (r := 6) (by decide))) ?_
 refine w_v (v := .iface 80 (.agg #[])) (x_indexW 6 rfl rfl rfl Tryz.underlying81 sz54 Tryz.underlying54 rfl ⟨by decide, by decide⟩ rfl) ?_
 refine w_a ?_
 refine w_e ?_
 refine g_weak [(2, .iface 80 (.agg #[]))] ⟨rfl, trivial⟩ ?_
 refine g_ret ?_
 refine fin_ret [.tmp 2] [.iface 80 (.agg #[])] rfl ⟨rfl, trivial⟩ ?_
 exact ⟨rfl, H9.mask [false, false, false, true]⟩
end Go.Proofs.YtpbjekdjebjbkaaGreat
