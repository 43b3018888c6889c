import Derived.Test.YthfglkkjkpdkpaaKd
set_option linter.unusedSimpArgs false
set_option linter.unusedVariables false
namespace Go.Proofs.Ythfglkkjkpdkpaa
open Go.RowKit

theorem cl18 : callable Try.prog 18 = true := by kernel_rfl
theorem cl23 : callable Try.prog 23 = true := by kernel_rfl
theorem cl28 : callable Try.prog 28 = true := by kernel_rfl
theorem cl30 : callable Try.prog 30 = true := by kernel_rfl
theorem cl31 : callable Try.prog 31 = true := by kernel_rfl
open Classical in
noncomputable def chgE (l : List Rv) (m : List Int) : Int := if ¬ askE (ByteArray.mk #[]) l = 0 then askE (ByteArray.mk #[]) l else if ¬ m.Nodup then 6 else if ∃ n ∈ m, n < 0 then 7 else if ∃ n ∈ m, n ∉ l.map Rv.id then 5 else 0
noncomputable def onL (l : List Rv) (m : List Int) : List Int := sortI ((l.filter (fun r : Rv => decide (r.id ∈ m) && !r.now)).map Rv.id)
noncomputable def offL (l : List Rv) (m : List Int) : List Int := sortI ((l.filter (fun r : Rv => !decide (r.id ∈ m) && r.now)).map Rv.id)
noncomputable def onV (l : List Rv) (m : List Int) : List Int := if chgE l m = 0 then onL l m else []
noncomputable def offV (l : List Rv) (m : List Int) : List Int := if chgE l m = 0 then offL l m else []
set_option maxRecDepth 20000 in
set_option maxHeartbeats 4000000 in
set_option maxRecDepth 20000 in
set_option maxHeartbeats 4000000 in
theorem byID_s (x : Rv)  (w : World) : Calls Try.prog 26 #[.agg #[.int .i64 (x.id), .bool x.intr, .bool x.chk, .int .i64 (x.frm), .int .i64 (x.to), .int .i64 (x.lt), .int .i64 (x.since), .bool x.snb, .bool x.now, .bool x.seed]] w fun e w' => e = .returned (.int .i64 x.id) ∧ S w' [Old w no] := by
  have H0 := S.old w
  refine enter 5 Try.func26 rfl rfl rfl ?_
  refine g_weak [(0, .agg #[.int .i64 (x.id), .bool x.intr, .bool x.chk, .int .i64 (x.frm), .int .i64 (x.to), .int .i64 (x.lt), .int .i64 (x.since), .bool x.snb, .bool x.now, .bool x.seed])] ⟨rfl, trivial⟩ ?_
  refine g_seq ?_
  refine g_region ?_
  refine l_of (s_box H0 (wt0 rfl) rfl rfl rfl rfl ?_)
  intro g1 wq2 H3
  refine l_of (s_val (v := .int .i64 0) (wt0 rfl) rfl rfl (x_assign rfl rfl) ?_)
  refine g_nil ?_
  refine g_then ?_
  refine g_seq ?_
  refine g_region ?_
  refine l_of (s_val (v := .pointer (some ⟨g1, 0, none⟩)) (wt0 rfl) rfl rfl (x_fieldAddr rfl rfl fo30_0 rfl) ?_)
  refine l_of (s_val (v := .int .i64 (x.id)) (wt0 rfl) rfl rfl (x_load1 H3 0 rfl rfl Try.underlying3 rfl rfl rfl) ?_)
  refine l_of (s_val (v := .int .i64 (x.id)) (wt0 rfl) rfl rfl (x_assign rfl rfl) ?_)
  refine g_nil ?_
  refine g_then ?_
  refine g_ret ?_
  refine fin_ret [.tmp 2] [.int .i64 (x.id)] rfl ⟨rfl, trivial⟩ ?_
  exact ⟨rfl, H3.mask [false, true]⟩
theorem byID_f (D : Rv → Prop) : FunC Try.prog 26 #[] #[] (Big []) (fun x : Rv => [x.v]) (fun x => .int .i64 (Rv.id x)) D :=
  FunC.pure (by kernel_rfl) fun x _ w => byID_s x w
end Go.Proofs.Ythfglkkjkpdkpaa
