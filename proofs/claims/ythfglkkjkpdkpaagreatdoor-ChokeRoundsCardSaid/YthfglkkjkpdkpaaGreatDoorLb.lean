import Derived.Test.YthfglkkjkpdkpaaGreatDoorLa
set_option linter.unusedSimpArgs false
set_option linter.unusedVariables false
namespace Go.Proofs.YthfglkkjkpdkpaaGreatDoor
open Go.RowKit

theorem cl18 : callable Tryz.prog 18 = true := by kernel_rfl
theorem cl19 : callable Tryz.prog 19 = true := by kernel_rfl
theorem cl31 : callable Tryz.prog 31 = true := by kernel_rfl
theorem cl32 : callable Tryz.prog 32 = true := by kernel_rfl
theorem cl62 : callable Tryz.prog 62 = true := by kernel_rfl
theorem sz58 : szO Tryz.prog 58 = some 1 := by kernel_rfl
noncomputable def ids3 (l : List Rv) (slots : Int) : List Int := sortI (((sorted3 l).take (min (sorted3 l).length slots.toNat)).map Rv.id)
theorem sorted3_len (l : List Rv) : (sorted3 l).length ≤ l.length := by
  unfold sorted3; rw [srt_len]; exact List.length_filter_le _ _
set_option maxRecDepth 20000 in
set_option maxHeartbeats 4000000 in
set_option maxRecDepth 20000 in
set_option maxHeartbeats 4000000 in
theorem decided3_s (round slots : Int) (seed : ByteArray) (l : List Rv) (p : Option Addr) (n c : Nat) (hn2 : n ≤ 1000000) (hval : ∀ x ∈ l, validR x = true)  (w : World) (hr : Reads w p n c 10 (fl rvL l)) : Calls Tryz.prog 19 #[.int .i64 3, .int .i64 round, .int .i64 slots, .string seed, .slice p n c] w fun e w' => ∃ p' c', e = .returned (.slice p' (ids3 l slots).length c') ∧ S w' ([Rw 3 1 p' (ids3 l slots).length c' (fl intL (ids3 l slots))] ++ [Old w no]) := by
  have H0 := S.old w
  have hnl := hr.lenL rvE
  refine enter 22 Tryz.func19 rfl rfl rfl ?_
  refine g_weak [(0, .int .i64 3), (1, .int .i64 round), (2, .int .i64 slots), (3, .string seed), (4, .slice p n c)] ⟨rfl, rfl, rfl, rfl, rfl, trivial⟩ ?_
  refine g_seq ?_
  refine g_region ?_
  refine l_of (s_val (v := .slice none 0 0) (wt0 rfl) rfl rfl (x_assign rfl rfl) ?_)
  refine g_nil ?_
  refine g_then ?_
  refine g_seq ?_
  refine g_region ?_
  refine l_of (s_call (wt0 rfl) (x_call' rfl rfl cl32) (ways_s _) ?_)
  rintro _ wq1 ⟨rfl, H2⟩
  replace H2 : S wq1 [Old w no] := H0.absorb (new := []) H2
  refine b_ret rfl rfl ?_
  refine l_of (s_val (v := .int .i64 3) (wt0 rfl) rfl rfl (x_move rfl rfl) ?_)
  refine l_of (s_val (v := .int .i64 2) (wt0 rfl) rfl rfl (x_bin rfl rfl rfl (b_sub (r := 2) (by decide))) ?_)
  refine l_of (s_val (v := .func (.func 62) #[] #[]) (wt0 rfl) rfl rfl (x_indexW 2 rfl rfl rfl Tryz.underlying59 sz58 Tryz.underlying58 rfl ⟨by decide, by decide⟩ rfl) ?_)
  refine l_of (s_val (v := .int .i64 round) (wt0 rfl) rfl rfl (x_move rfl rfl) ?_)
  refine l_of (s_val (v := .int .i64 slots) (wt0 rfl) rfl rfl (x_move rfl rfl) ?_)
  refine l_of (s_val (v := .string seed) (wt0 rfl) rfl rfl (x_move rfl rfl) ?_)
  refine l_of (s_val (v := .slice p n c) (wt0 rfl) rfl rfl (x_move rfl rfl) ?_)
  refine l_of (s_val (v := .agg #[.int .i64 round, .int .i64 slots, .string seed, .slice p n c]) (wt0 rfl) rfl rfl (x_build (vs := [.int .i64 round, .int .i64 slots, .string seed, .slice p n c]) rfl rfl (cells := #[.int .i64 round, .int .i64 slots, .string seed, .slice p n c]) (by kernel_rfl)) ?_)
  refine l_of (s_call (wt0 rfl) (x_call rfl rfl rfl cl62) (way3_s round slots seed l p n c (by omega) hval _ (H2.exReads (k := 0) rfl hr (fun _ _ _ h => h))) ?_)
  rintro _ wq5 ⟨pw3, cw4, rfl, H6⟩
  replace H6 : S wq5 [Rw 30 10 pw3 ((sorted3 l).length) cw4 (fl rvL (sorted3 l)), Old w no] := H2.absorb (new := [Rw 30 10 pw3 ((sorted3 l).length) cw4 (fl rvL (sorted3 l))]) H6
  refine b_ret rfl rfl ?_
  refine l_of (s_call (wt0 rfl) (x_call' rfl rfl cl31) (ids_s ((sorted3 l).take (min (sorted3 l).length slots.toNat)) pw3 (min (sorted3 l).length slots.toNat) cw4 (by have := sorted3_len l; omega) _ ((H6.rwReads (k := 0) rfl).takeL rvE (min (sorted3 l).length slots.toNat) (Nat.min_le_left _ _))) ?_)
  rintro _ wq9 ⟨p7, c8, rfl, H10⟩
  replace H10 : S wq9 [Rw 3 1 p7 ((sortI (((sorted3 l).take (min (sorted3 l).length slots.toNat)).map Rv.id)).length) c8 (fl intL (sortI (((sorted3 l).take (min (sorted3 l).length slots.toNat)).map Rv.id))), Rw 30 10 pw3 ((sorted3 l).length) cw4 (fl rvL (sorted3 l)), Old w no] := H6.absorb (new := [Rw 3 1 p7 ((sortI (((sorted3 l).take (min (sorted3 l).length slots.toNat)).map Rv.id)).length) c8 (fl intL (sortI (((sorted3 l).take (min (sorted3 l).length slots.toNat)).map Rv.id)))]) H10
  refine b_ret rfl rfl ?_
  refine l_of (s_val (v := .slice p7 ((sortI (((sorted3 l).take (min (sorted3 l).length slots.toNat)).map Rv.id)).length) c8) (wt0 rfl) rfl rfl (x_assign rfl rfl) ?_)
  refine g_nil ?_
  refine g_then ?_
  refine g_weak [(10, .slice p7 ((sortI (((sorted3 l).take (min (sorted3 l).length slots.toNat)).map Rv.id)).length) c8)] ⟨rfl, trivial⟩ ?_
  refine g_ret ?_
  refine fin_ret [.tmp 10] [.slice p7 ((sortI (((sorted3 l).take (min (sorted3 l).length slots.toNat)).map Rv.id)).length) c8] rfl ⟨rfl, trivial⟩ ?_
  exact ⟨_, _, rfl, H10.takes [0, 2] (by decide)⟩
end Go.Proofs.YthfglkkjkpdkpaaGreatDoor
