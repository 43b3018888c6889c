import Derived.Test.YtlajgickimgigaaGreatVE
import Derived.Test.YtlajgickimgigaaGreatFf
set_option linter.unusedSimpArgs false
set_option linter.unusedVariables false
namespace Go.Proofs.YtlajgickimgigaaGreat
open Go.RowKit

theorem sz73 : szO Tryz.prog 73 = some 2 := by kernel_rfl
theorem ze73 : zeO Tryz.prog 73 = some (.agg #[.int .i64 0, .int .i64 0]) := by kernel_rfl
def placeC (x : Nat × Nat) : Array Value := #[.int .i64 (x.1 : Int), .int .i64 (x.2 : Int)]
/-- One map over another. -/
def orM (N M : PM) : PM := fun x => match N x with | some a => some a | none => M x
set_option maxRecDepth 20000 in
set_option maxHeartbeats 4000000 in
set_option maxRecDepth 20000 in
set_option maxHeartbeats 4000000 in
theorem copy_m (dg sg : Nat) (M N : PM) (w : World) (HS : S w [Mp placeV Value.string placeOk dg (M), Mp placeV Value.string placeOk sg (N)]) : Calls Tryz.prog 48 #[.map (some dg), .map (some sg)] w fun e w' => e = .returned (.tuple #[]) ∧ S w' ([Mp placeV Value.string placeOk dg (orM N M), Mp placeV Value.string placeOk sg (N)] ++ [Old w (fps [Mp placeV Value.string placeOk dg (M), Mp placeV Value.string placeOk sg (N)])]) := by
  have H00 := HS.beginI
  have H0 : S w ([Mp placeV Value.string placeOk dg (M), Mp placeV Value.string placeOk sg (N), Old w (fps [Mp placeV Value.string placeOk dg (M), Mp placeV Value.string placeOk sg (N)])]) := H00
  refine enter 16 Tryz.func48 rfl rfl rfl ?_
  refine g_weak [(0, .map (some dg)), (1, .map (some sg))] ⟨rfl, rfl, trivial⟩ ?_
  refine g_seq ?_
  refine g_region ?_
  refine l_of (s_val (v := .map (some sg)) (wt0 rfl) rfl rfl (x_move rfl rfl) ?_)
  refine l_of (s_range placeT H0 1 (wt0 rfl) rfl rfl rfl rfl rfl ?_)
  intro rr rem0 wq1 hrem0 H2
  replace H2 : S wq1 [Mp placeV Value.string placeOk dg (M), MpR placeV Value.string placeOk sg rr (N) (rem0) (none), Old w (fps [Mp placeV Value.string placeOk dg (M), Mp placeV Value.string placeOk sg (N)])] := H2
  refine g_nil ?_
  refine g_then ?_
  refine g_block ?_
  refine g_loop (ι := List ((Nat × Nat) × ByteArray) × PM × Option ((Nat × Nat) × ByteArray)) (fun (rem, M1, cur) => [(0, .map (some dg)), (7, .pointer (some ⟨rr, 0, none⟩))]) (fun (rem, M1, cur) wx => (∀ x, placeOk x → (∀ a, (x, a) ∉ rem) → M1 x = orM N M x) ∧ (∀ p, p ∈ rem → N p.1 = some p.2) ∧ S wx [Mp placeV Value.string placeOk dg (M1), MpR placeV Value.string placeOk sg rr (N) (rem) (cur), Old w (fps [Mp placeV Value.string placeOk dg (M), Mp placeV Value.string placeOk sg (N)])]) (fun (rem, M1, cur) => rem.length) (rem0, M, none) ⟨rfl, rfl, trivial⟩ ⟨(fun x hx hno => by unfold orM; cases hN : N x with | none => rfl | some a => exact absurd ((hrem0 (x, a)).2 ⟨hx, hN⟩) (hno a)), (fun p hp => ((hrem0 p).1 hp).2), (H2.takes [0, 1, 2] (by decide))⟩ ?_
  rintro ⟨rem, M1, cur⟩ wq3 ⟨hM1, hrm, H4⟩
  replace H4 : S wq3 [Mp placeV Value.string placeOk dg (M1), MpR placeV Value.string placeOk sg rr (N) (rem) (cur), Old w (fps [Mp placeV Value.string placeOk dg (M), Mp placeV Value.string placeOk sg (N)])] := H4
  refine g_weak [(0, .map (some dg)), (7, .pointer (some ⟨rr, 0, none⟩))] ⟨rfl, rfl, trivial⟩ ?_
  refine g_seq ?_
  refine g_region ?_
  refine l_of (s_next H4 1 (wt0 rfl) rfl rfl rfl rfl rfl (fun hnil => ?_) (fun p rem2 w2 hp hok hN hmem hlen H2 => ?_))
  · skip
    refine l_of (s_val (v := .bool false) (wt0 rfl) rfl rfl (x_extract rfl rfl rfl) ?_)
    refine g_nil ?_
    refine g_then ?_
    refine g_seq ?_
    refine g_cond_f rfl rfl ?_
    refine g_exit ?_
    refine g_then_exit ?_
    refine g_then_exit ?_
    refine g_in_hit ?_
    refine fin_end [] [] rfl trivial ?_
    subst hnil
    have HF := Mp_congr (k0 := 0) ((H4.unR (k0 := 1) rfl).takes [0, 1, 2] (by decide)) rfl (fun x hx => hM1 x hx (fun a ha => by cases ha))
    exact ⟨rfl, HF⟩
  · skip
    have H5 : S w2 [Mp placeV Value.string placeOk dg (M1), MpR placeV Value.string placeOk sg rr (N) (rem2) (some p), Old w (fps [Mp placeV Value.string placeOk dg (M), Mp placeV Value.string placeOk sg (N)])] := H2
    refine l_of (s_val (v := .bool true) (wt0 rfl) rfl rfl (x_extract rfl rfl rfl) ?_)
    refine g_nil ?_
    refine g_then ?_
    refine g_seq ?_
    refine g_cond_t rfl rfl ?_
    refine g_skip ?_
    refine g_then ?_
    refine g_block ?_
    refine g_seq ?_
    refine g_region ?_
    refine l_of (s_val (v := .tuple #[.agg (placeC p.1), .string (p.2)]) (wt0 rfl) rfl rfl (x_entry (k := 0) (t := 0) (e0 := 0) H5 1 rfl rfl rfl) ?_)
    refine l_of (s_val (v := .agg (placeC p.1)) (wt0 rfl) rfl rfl (x_extract rfl rfl rfl) ?_)
    refine l_of (s_val (v := .string (p.2)) (wt0 rfl) rfl rfl (x_extract rfl rfl rfl) ?_)
    refine l_of (s_alloc H5 (wt0 rfl) rfl rfl rfl ze73 ?_)
    intro g6 wq7 H8
    refine l_of (s_store H8 0 (wt0 rfl) rfl rfl rfl rfl rfl sz73 rfl rfl (cs' := (placeC p.1)) rfl ?_)
    intro wq9 H10
    refine l_of (s_val (v := .string (p.2)) (wt0 rfl) rfl rfl (x_assign rfl rfl) ?_)
    refine g_nil ?_
    refine g_then ?_
    refine g_region ?_
    refine l_of (s_val (v := .map (some dg)) (wt0 rfl) rfl rfl (x_move rfl rfl) ?_)
    refine l_of (s_val (v := .agg (placeC p.1)) (wt0 rfl) rfl rfl (x_loadA H10 0 rfl rfl Tryz.underlying73 rfl sz73 rfl rfl rfl) ?_)
    refine l_of (s_val (v := .string (p.2)) (wt0 rfl) rfl rfl (x_move rfl rfl) ?_)
    refine l_of (s_mapUpdate (x := p.1) (a := p.2) placeT H10 1 (wt0 rfl) rfl rfl rfl rfl rfl rfl hok ?_)
    intro wq11 H12
    replace H12 : S wq11 [Ob g6 (.cells (placeC p.1) 73 (0, 0)), Mp placeV Value.string placeOk dg (upM M1 p.1 p.2), MpR placeV Value.string placeOk sg rr (N) (rem2) (some p), Old w (fps [Mp placeV Value.string placeOk dg (M), Mp placeV Value.string placeOk sg (N)])] := H12
    refine g_nil ?_
    refine g_in ?_
    refine g_then ?_
    have hMn : ∀ x, placeOk x → (∀ a, (x, a) ∉ rem2) → upM M1 p.1 p.2 x = orM N M x := fun x hx hno => by
      unfold upM
      by_cases hxp : x = p.1
      · rw [if_pos hxp]; unfold orM; rw [hxp, hN]
      · rw [if_neg hxp]; exact hM1 x hx (fun a ha => hno a ((hmem _).2 ⟨ha, fun e => hxp (by rw [← e])⟩))
    refine g_round (i := (rem, M1, cur)) (rem2, (upM M1 p.1 p.2), (some p)) ?_ ?_ ?_
    · exact ⟨rfl, rfl, trivial⟩
    · exact ⟨hMn, (fun q hq => hrm q ((hmem q).1 hq).1), (H12.takes [1, 2, 3] (by decide))⟩
    · exact hlen
end Go.Proofs.YtlajgickimgigaaGreat
