import Derived.Test.YthfglkkjkpdkpaaGreatDoorLi
set_option linter.unusedSimpArgs false
set_option linter.unusedVariables false
namespace Go.Proofs.YthfglkkjkpdkpaaGreatDoor
open Go.RowKit

theorem cl46 : callable Tryz.prog 46 = true := by kernel_rfl
noncomputable def ids1 (round slots : Int) (seed : ByteArray) (l : List Rv) : List Int := sortI ((way1 round slots seed l).map Rv.id)
noncomputable def rndE (round slots : Int) (seed : ByteArray) (l : List Rv) : Int := if ¬ askE seed l = 0 then askE seed l else if round < 0 ∨ slots < 0 ∨ 100 < slots then 7 else 0
noncomputable def got1 (round slots : Int) (seed : ByteArray) (l : List Rv) : List Int := if rndE round slots seed l = 0 then ids1 round slots seed l else []
theorem way1_len (round slots : Int) (seed : ByteArray) (l : List Rv) : (way1 round slots seed l).length ≤ l.length + l.length := by
  unfold way1 reg1
  have h1 := fill_len slots ((sorted1 l).take (min (sorted1 l).length (slots - 1).toNat)) (optL round seed l)
  have h2 := optL_len round seed l
  have h3 := sorted1_len l
  rw [List.length_take] at h1
  omega
theorem askE_size {seed : ByteArray} {l : List Rv} (h : askE seed l = 0) : seed.size ≤ 100 := by
  unfold askE at h
  by_cases h1 : 100 < seed.size ∨ 200 < l.length ∨ l.any (fun x => !validR x) = true
  · rw [if_pos h1] at h; exact absurd h (by decide)
  · omega
set_option maxRecDepth 20000 in
set_option maxHeartbeats 4000000 in
set_option maxRecDepth 20000 in
set_option maxHeartbeats 4000000 in
theorem decided1_s (round slots : Int) (seed : ByteArray) (l : List Rv) (p : Option Addr) (n c : Nat) (hn2 : n ≤ 200) (hval : ∀ x ∈ l, validR x = true) (hsd : seed.size ≤ 200) (hrd : 0 ≤ round ∧ round ≤ 9223372036854775807) (hsl : 0 ≤ slots ∧ slots ≤ 100)  (w : World) (hr : Reads w p n c 10 (fl rvL l)) (ht : PowTab w) : Calls Tryz.prog 19 #[.int .i64 1, .int .i64 round, .int .i64 slots, .string seed, .slice p n c] w fun e w' => ∃ p' c', e = .returned (.slice p' (ids1 round slots seed l).length c') ∧ S w' ([Rw 3 1 p' (ids1 round slots seed l).length c' (fl intL (ids1 round slots seed l))] ++ [Old w no]) := by
  have H0 := S.old w
  have hnl := hr.lenL rvE
  have hwl := way1_len round slots seed l
  refine enter 22 Tryz.func19 rfl rfl rfl ?_
  refine g_weak [(0, .int .i64 1), (1, .int .i64 round), (2, .int .i64 slots), (3, .string seed), (4, .slice p n c)] ⟨rfl, rfl, rfl, rfl, rfl, trivial⟩ ?_
  refine g_seq ?_
  refine g_region ?_
  refine l_of (s_val (v := .slice none 0 0) (wt0 rfl) rfl rfl (x_assign rfl rfl) ?_)
  refine g_nil ?_
  refine g_then ?_
  refine g_seq ?_
  refine g_region ?_
  refine l_of (s_call (wt0 rfl) (x_call' rfl rfl cl32) (ways_s _) ?_)
  rintro _ wq1 ⟨rfl, H2⟩
  replace H2 : S wq1 [Old w no] := H0.absorb (new := []) H2
  refine b_ret rfl rfl ?_
  refine l_of (s_val (v := .int .i64 1) (wt0 rfl) rfl rfl (x_move rfl rfl) ?_)
  refine l_of (s_val (v := .int .i64 0) (wt0 rfl) rfl rfl (x_bin rfl rfl rfl (b_sub (r := 0) (by decide))) ?_)
  refine l_of (s_val (v := .func (.func 46) #[] #[]) (wt0 rfl) rfl rfl (x_indexW 0 rfl rfl rfl Tryz.underlying59 sz58 Tryz.underlying58 rfl ⟨by decide, by decide⟩ rfl) ?_)
  refine l_of (s_val (v := .int .i64 round) (wt0 rfl) rfl rfl (x_move rfl rfl) ?_)
  refine l_of (s_val (v := .int .i64 slots) (wt0 rfl) rfl rfl (x_move rfl rfl) ?_)
  refine l_of (s_val (v := .string seed) (wt0 rfl) rfl rfl (x_move rfl rfl) ?_)
  refine l_of (s_val (v := .slice p n c) (wt0 rfl) rfl rfl (x_move rfl rfl) ?_)
  refine l_of (s_val (v := .agg #[.int .i64 round, .int .i64 slots, .string seed, .slice p n c]) (wt0 rfl) rfl rfl (x_build (vs := [.int .i64 round, .int .i64 slots, .string seed, .slice p n c]) rfl rfl (cells := #[.int .i64 round, .int .i64 slots, .string seed, .slice p n c]) (by kernel_rfl)) ?_)
  refine l_of (s_call (wt0 rfl) (x_call rfl rfl rfl cl46) (way1_s round slots seed l p n c hn2 hval hsd hrd hsl _ (H2.exReads (k := 0) rfl hr (fun _ _ _ h => h)) (H2.tab (k := 0) rfl ht)) ?_)
  rintro _ wq3 ⟨pw, cw, rfl, H4⟩
  replace H4 : S wq3 [Rw 30 10 pw ((way1 round slots seed l).length) cw (fl rvL (way1 round slots seed l)), Old w no] := H2.absorb (new := [Rw 30 10 pw ((way1 round slots seed l).length) cw (fl rvL (way1 round slots seed l))]) H4
  refine b_ret rfl rfl ?_
  refine l_of (s_call (wt0 rfl) (x_call' rfl rfl cl31) (ids_s (way1 round slots seed l) pw ((way1 round slots seed l).length) cw (by omega) _ (H4.rwReads (k := 0) rfl)) ?_)
  rintro _ wq7 ⟨p5, c6, rfl, H8⟩
  replace H8 : S wq7 [Rw 3 1 p5 ((sortI ((way1 round slots seed l).map Rv.id)).length) c6 (fl intL (sortI ((way1 round slots seed l).map Rv.id))), Rw 30 10 pw ((way1 round slots seed l).length) cw (fl rvL (way1 round slots seed l)), Old w no] := H4.absorb (new := [Rw 3 1 p5 ((sortI ((way1 round slots seed l).map Rv.id)).length) c6 (fl intL (sortI ((way1 round slots seed l).map Rv.id)))]) H8
  refine b_ret rfl rfl ?_
  refine l_of (s_val (v := .slice p5 ((sortI ((way1 round slots seed l).map Rv.id)).length) c6) (wt0 rfl) rfl rfl (x_assign rfl rfl) ?_)
  refine g_nil ?_
  refine g_then ?_
  refine g_weak [(10, .slice p5 ((sortI ((way1 round slots seed l).map Rv.id)).length) c6)] ⟨rfl, trivial⟩ ?_
  refine g_ret ?_
  refine fin_ret [.tmp 10] [.slice p5 ((sortI ((way1 round slots seed l).map Rv.id)).length) c6] rfl ⟨rfl, trivial⟩ ?_
  exact ⟨_, _, rfl, H8.takes [0, 2] (by decide)⟩
end Go.Proofs.YthfglkkjkpdkpaaGreatDoor
