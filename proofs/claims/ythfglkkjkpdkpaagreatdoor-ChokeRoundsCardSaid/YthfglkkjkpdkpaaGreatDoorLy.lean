import Derived.Test.YthfglkkjkpdkpaaGreatDoorLp
import Derived.Test.YthfglkkjkpdkpaaGreatDoorLb
import Derived.Test.YthfglkkjkpdkpaaGreatDoorLj
set_option linter.unusedSimpArgs false
set_option linter.unusedVariables false
namespace Go.Proofs.YthfglkkjkpdkpaaGreatDoor
open Go.RowKit

theorem cl59 : callable Tryz.prog 59 = true := by kernel_rfl
theorem cl66 : callable Tryz.prog 66 = true := by kernel_rfl
theorem rated_len (round slots : Int) (seed : ByteArray) (c : Rv → Rv → Int) (l : List Rv) : (ratedL round slots seed c l).length ≤ l.length + l.length := by
  have h1 := srt_len Rv.zero c (l.filter qW)
  have h2 := List.length_filter_le qW l
  have h3 := optL_len round seed l
  unfold ratedL
  split
  · rw [List.length_take]; omega
  · have h4 := fill_len slots ((srt Rv.zero c (l.filter qW)).take (min (srt Rv.zero c (l.filter qW)).length (slots - 1).toNat)) (optL round seed l)
    rw [List.length_take] at h4
    omega
set_option maxRecDepth 20000 in
set_option maxHeartbeats 4000000 in
set_option maxRecDepth 20000 in
set_option maxHeartbeats 4000000 in
theorem decided2_s (round slots : Int) (seed : ByteArray) (l : List Rv) (p : Option Addr) (n c : Nat) (hn2 : n ≤ 200) (hval : ∀ x ∈ l, validR x = true) (hsd : seed.size ≤ 200) (hrd : 0 ≤ round ∧ round ≤ 9223372036854775807) (hsl : 0 ≤ slots ∧ slots ≤ 100)  (w : World) (hr : Reads w p n c 10 (fl rvL l)) (ht : PowTab w) : Calls Tryz.prog 19 #[.int .i64 2, .int .i64 round, .int .i64 slots, .string seed, .slice p n c] w fun e w' => ∃ p' c', e = .returned (.slice p' (sortI ((ratedL round slots seed c2 l).map Rv.id)).length c') ∧ S w' ([Rw 3 1 p' (sortI ((ratedL round slots seed c2 l).map Rv.id)).length c' (fl intL (sortI ((ratedL round slots seed c2 l).map Rv.id)))] ++ [Old w no]) := by
  have H0 := S.old w
  have hnl := hr.lenL rvE
  have hwl := rated_len round slots seed c2 l
  refine enter 22 Tryz.func19 rfl rfl rfl ?_
  refine g_weak [(0, .int .i64 2), (1, .int .i64 round), (2, .int .i64 slots), (3, .string seed), (4, .slice p n c)] ⟨rfl, rfl, rfl, rfl, rfl, trivial⟩ ?_
  refine g_seq ?_
  refine g_region ?_
  refine l_of (s_val (v := .slice none 0 0) (wt0 rfl) rfl rfl (x_assign rfl rfl) ?_)
  refine g_nil ?_
  refine g_then ?_
  refine g_seq ?_
  refine g_region ?_
  refine l_of (s_call (wt0 rfl) (x_call' rfl rfl cl32) (ways_s _) ?_)
  rintro _ wq1 ⟨rfl, H2⟩
  replace H2 : S wq1 [Old w no] := H0.absorb (new := []) H2
  refine b_ret rfl rfl ?_
  refine l_of (s_val (v := .int .i64 2) (wt0 rfl) rfl rfl (x_move rfl rfl) ?_)
  refine l_of (s_val (v := .int .i64 1) (wt0 rfl) rfl rfl (x_bin rfl rfl rfl (b_sub (r := 1) (by decide))) ?_)
  refine l_of (s_val (v := .func (.func 59) #[] #[]) (wt0 rfl) rfl rfl (x_indexW 1 rfl rfl rfl Tryz.underlying59 sz58 Tryz.underlying58 rfl ⟨by decide, by decide⟩ rfl) ?_)
  refine l_of (s_val (v := .int .i64 round) (wt0 rfl) rfl rfl (x_move rfl rfl) ?_)
  refine l_of (s_val (v := .int .i64 slots) (wt0 rfl) rfl rfl (x_move rfl rfl) ?_)
  refine l_of (s_val (v := .string seed) (wt0 rfl) rfl rfl (x_move rfl rfl) ?_)
  refine l_of (s_val (v := .slice p n c) (wt0 rfl) rfl rfl (x_move rfl rfl) ?_)
  refine l_of (s_val (v := .agg #[.int .i64 round, .int .i64 slots, .string seed, .slice p n c]) (wt0 rfl) rfl rfl (x_build (vs := [.int .i64 round, .int .i64 slots, .string seed, .slice p n c]) rfl rfl (cells := #[.int .i64 round, .int .i64 slots, .string seed, .slice p n c]) (by kernel_rfl)) ?_)
  refine l_of (s_call (wt0 rfl) (x_call rfl rfl rfl cl59) (way2_s round slots seed l p n c hn2 hval hsd hrd hsl _ (H2.exReads (k := 0) rfl hr (fun _ _ _ h => h)) (H2.tab (k := 0) rfl ht)) ?_)
  rintro _ wq3 ⟨pY, cY, IY, rfl, hY, H4⟩
  replace H4 : S wq3 [IY, Old w no] := H2.absorb (new := [IY]) H4
  refine b_ret rfl rfl ?_
  refine l_of (s_call (wt0 rfl) (x_call' rfl rfl cl31) (ids_s (ratedL round slots seed c2 l) pY ((ratedL round slots seed c2 l).length) cY (by omega) _ ((hY _ (H4.takes [0] (by decide))))) ?_)
  rintro _ wq7 ⟨p5, c6, rfl, H8⟩
  replace H8 : S wq7 [Rw 3 1 p5 ((sortI ((ratedL round slots seed c2 l).map Rv.id)).length) c6 (fl intL (sortI ((ratedL round slots seed c2 l).map Rv.id))), IY, Old w no] := H4.absorb (new := [Rw 3 1 p5 ((sortI ((ratedL round slots seed c2 l).map Rv.id)).length) c6 (fl intL (sortI ((ratedL round slots seed c2 l).map Rv.id)))]) H8
  refine b_ret rfl rfl ?_
  refine l_of (s_val (v := .slice p5 ((sortI ((ratedL round slots seed c2 l).map Rv.id)).length) c6) (wt0 rfl) rfl rfl (x_assign rfl rfl) ?_)
  refine g_nil ?_
  refine g_then ?_
  refine g_weak [(10, .slice p5 ((sortI ((ratedL round slots seed c2 l).map Rv.id)).length) c6)] ⟨rfl, trivial⟩ ?_
  refine g_ret ?_
  refine fin_ret [.tmp 10] [.slice p5 ((sortI ((ratedL round slots seed c2 l).map Rv.id)).length) c6] rfl ⟨rfl, trivial⟩ ?_
  exact ⟨_, _, rfl, H8.takes [0, 2] (by decide)⟩
set_option maxRecDepth 20000 in
set_option maxHeartbeats 4000000 in
set_option maxRecDepth 20000 in
set_option maxHeartbeats 4000000 in
theorem decided4_s (round slots : Int) (seed : ByteArray) (l : List Rv) (p : Option Addr) (n c : Nat) (hn2 : n ≤ 200) (hval : ∀ x ∈ l, validR x = true) (hsd : seed.size ≤ 200) (hrd : 0 ≤ round ∧ round ≤ 9223372036854775807) (hsl : 0 ≤ slots ∧ slots ≤ 100)  (w : World) (hr : Reads w p n c 10 (fl rvL l)) (ht : PowTab w) : Calls Tryz.prog 19 #[.int .i64 4, .int .i64 round, .int .i64 slots, .string seed, .slice p n c] w fun e w' => ∃ p' c', e = .returned (.slice p' (sortI ((ratedL round slots seed c4 l).map Rv.id)).length c') ∧ S w' ([Rw 3 1 p' (sortI ((ratedL round slots seed c4 l).map Rv.id)).length c' (fl intL (sortI ((ratedL round slots seed c4 l).map Rv.id)))] ++ [Old w no]) := by
  have H0 := S.old w
  have hnl := hr.lenL rvE
  have hwl := rated_len round slots seed c4 l
  refine enter 22 Tryz.func19 rfl rfl rfl ?_
  refine g_weak [(0, .int .i64 4), (1, .int .i64 round), (2, .int .i64 slots), (3, .string seed), (4, .slice p n c)] ⟨rfl, rfl, rfl, rfl, rfl, trivial⟩ ?_
  refine g_seq ?_
  refine g_region ?_
  refine l_of (s_val (v := .slice none 0 0) (wt0 rfl) rfl rfl (x_assign rfl rfl) ?_)
  refine g_nil ?_
  refine g_then ?_
  refine g_seq ?_
  refine g_region ?_
  refine l_of (s_call (wt0 rfl) (x_call' rfl rfl cl32) (ways_s _) ?_)
  rintro _ wq1 ⟨rfl, H2⟩
  replace H2 : S wq1 [Old w no] := H0.absorb (new := []) H2
  refine b_ret rfl rfl ?_
  refine l_of (s_val (v := .int .i64 4) (wt0 rfl) rfl rfl (x_move rfl rfl) ?_)
  refine l_of (s_val (v := .int .i64 3) (wt0 rfl) rfl rfl (x_bin rfl rfl rfl (b_sub (r := 3) (by decide))) ?_)
  refine l_of (s_val (v := .func (.func 66) #[] #[]) (wt0 rfl) rfl rfl (x_indexW 3 rfl rfl rfl Tryz.underlying59 sz58 Tryz.underlying58 rfl ⟨by decide, by decide⟩ rfl) ?_)
  refine l_of (s_val (v := .int .i64 round) (wt0 rfl) rfl rfl (x_move rfl rfl) ?_)
  refine l_of (s_val (v := .int .i64 slots) (wt0 rfl) rfl rfl (x_move rfl rfl) ?_)
  refine l_of (s_val (v := .string seed) (wt0 rfl) rfl rfl (x_move rfl rfl) ?_)
  refine l_of (s_val (v := .slice p n c) (wt0 rfl) rfl rfl (x_move rfl rfl) ?_)
  refine l_of (s_val (v := .agg #[.int .i64 round, .int .i64 slots, .string seed, .slice p n c]) (wt0 rfl) rfl rfl (x_build (vs := [.int .i64 round, .int .i64 slots, .string seed, .slice p n c]) rfl rfl (cells := #[.int .i64 round, .int .i64 slots, .string seed, .slice p n c]) (by kernel_rfl)) ?_)
  refine l_of (s_call (wt0 rfl) (x_call rfl rfl rfl cl66) (way4_s round slots seed l p n c hn2 hval hsd hrd hsl _ (H2.exReads (k := 0) rfl hr (fun _ _ _ h => h)) (H2.tab (k := 0) rfl ht)) ?_)
  rintro _ wq3 ⟨pY, cY, IY, rfl, hY, H4⟩
  replace H4 : S wq3 [IY, Old w no] := H2.absorb (new := [IY]) H4
  refine b_ret rfl rfl ?_
  refine l_of (s_call (wt0 rfl) (x_call' rfl rfl cl31) (ids_s (ratedL round slots seed c4 l) pY ((ratedL round slots seed c4 l).length) cY (by omega) _ ((hY _ (H4.takes [0] (by decide))))) ?_)
  rintro _ wq7 ⟨p5, c6, rfl, H8⟩
  replace H8 : S wq7 [Rw 3 1 p5 ((sortI ((ratedL round slots seed c4 l).map Rv.id)).length) c6 (fl intL (sortI ((ratedL round slots seed c4 l).map Rv.id))), IY, Old w no] := H4.absorb (new := [Rw 3 1 p5 ((sortI ((ratedL round slots seed c4 l).map Rv.id)).length) c6 (fl intL (sortI ((ratedL round slots seed c4 l).map Rv.id)))]) H8
  refine b_ret rfl rfl ?_
  refine l_of (s_val (v := .slice p5 ((sortI ((ratedL round slots seed c4 l).map Rv.id)).length) c6) (wt0 rfl) rfl rfl (x_assign rfl rfl) ?_)
  refine g_nil ?_
  refine g_then ?_
  refine g_weak [(10, .slice p5 ((sortI ((ratedL round slots seed c4 l).map Rv.id)).length) c6)] ⟨rfl, trivial⟩ ?_
  refine g_ret ?_
  refine fin_ret [.tmp 10] [.slice p5 ((sortI ((ratedL round slots seed c4 l).map Rv.id)).length) c6] rfl ⟨rfl, trivial⟩ ?_
  exact ⟨_, _, rfl, H8.takes [0, 2] (by decide)⟩
end Go.Proofs.YthfglkkjkpdkpaaGreatDoor
namespace Go.Proofs.YthfglkkjkpdkpaaGreatDoor
open Go.RowKit

noncomputable def idsW (way round slots : Int) (seed : ByteArray) (l : List Rv) : List Int := if way = 1 then ids1 round slots seed l else if way = 2 then sortI ((ratedL round slots seed c2 l).map Rv.id) else if way = 3 then ids3 l slots else sortI ((ratedL round slots seed c4 l).map Rv.id)
noncomputable def rndW (way round slots : Int) (seed : ByteArray) (l : List Rv) : Int := if ¬ askE seed l = 0 then askE seed l else if way < 1 ∨ 4 < way ∨ round < 0 ∨ slots < 0 ∨ 100 < slots then 7 else 0
noncomputable def gotW (way round slots : Int) (seed : ByteArray) (l : List Rv) : List Int := if rndW way round slots seed l = 0 then idsW way round slots seed l else []
theorem rndW_a {way round slots : Int} {seed : ByteArray} {l : List Rv} (h : ¬ askE seed l = 0) : rndW way round slots seed l = askE seed l := by unfold rndW; rw [if_pos h]
theorem rndW_7 {way round slots : Int} {seed : ByteArray} {l : List Rv} (h : askE seed l = 0) (h1 : way < 1 ∨ 4 < way ∨ round < 0 ∨ slots < 0 ∨ 100 < slots) : rndW way round slots seed l = 7 := by unfold rndW; rw [if_neg (not_not_intro h), if_pos h1]
theorem rndW_0 {way round slots : Int} {seed : ByteArray} {l : List Rv} (h : askE seed l = 0) (h1 : ¬ (way < 1 ∨ 4 < way ∨ round < 0 ∨ slots < 0 ∨ 100 < slots)) : rndW way round slots seed l = 0 := by unfold rndW; rw [if_neg (not_not_intro h), if_neg h1]
theorem decided_s (way : Int) (hw : 1 ≤ way ∧ way ≤ 4) (round slots : Int) (seed : ByteArray) (l : List Rv) (p : Option Addr) (n c : Nat) (hn2 : n ≤ 200) (hval : ∀ x ∈ l, validR x = true) (hsd : seed.size ≤ 200) (hrd : 0 ≤ round ∧ round ≤ 9223372036854775807) (hsl : 0 ≤ slots ∧ slots ≤ 100) (w : World) (hr : Reads w p n c 10 (fl rvL l)) (ht : PowTab w) : Calls Tryz.prog 19 #[.int .i64 way, .int .i64 round, .int .i64 slots, .string seed, .slice p n c] w fun e w' => ∃ p' c', e = .returned (.slice p' (idsW way round slots seed l).length c') ∧ S w' ([Rw 3 1 p' (idsW way round slots seed l).length c' (fl intL (idsW way round slots seed l))] ++ [Old w no]) := by
  have h4 : way = 1 ∨ way = 2 ∨ way = 3 ∨ way = 4 := by omega
  rcases h4 with rfl | rfl | rfl | rfl
  · exact decided1_s round slots seed l p n c hn2 hval hsd hrd hsl w hr ht
  · exact decided2_s round slots seed l p n c hn2 hval hsd hrd hsl w hr ht
  · exact decided3_s round slots seed l p n c (by omega) hval w hr
  · exact decided4_s round slots seed l p n c hn2 hval hsd hrd hsl w hr ht
set_option maxRecDepth 20000 in
set_option maxHeartbeats 4000000 in
set_option maxRecDepth 20000 in
set_option maxHeartbeats 4000000 in
theorem roundW_s (way round slots : Int) (seed : ByteArray) (l : List Rv) (p : Option Addr) (n c : Nat) (hn2 : n ≤ 200) (hro : okI round)  (w : World) (hr : Reads w p n c 10 (fl rvL l)) (ht : PowTab w) : Calls Tryz.prog 7 #[.int .i64 way, .int .i64 round, .int .i64 slots, .string seed, .slice p n c] w fun e w' => ∃ p' c', e = .returned (.tuple #[.slice p' (gotW way round slots seed l).length c', .int .i64 (rndW way round slots seed l)]) ∧ S w' ([Rw 3 1 p' (gotW way round slots seed l).length c' (fl intL (gotW way round slots seed l))] ++ [Old w no]) := by
  have H0 := S.old w
  have hnl := hr.lenL rvE
  refine enter 43 Tryz.func7 rfl rfl rfl ?_
  refine g_weak [(0, .int .i64 way), (1, .int .i64 round), (2, .int .i64 slots), (3, .string seed), (4, .slice p n c)] ⟨rfl, rfl, rfl, rfl, rfl, trivial⟩ ?_
  refine g_seq ?_
  refine g_region ?_
  refine l_of (s_val (v := .slice none 0 0) (wt0 rfl) rfl rfl (x_assign rfl rfl) ?_)
  refine l_of (s_val (v := .int .i64 0) (wt0 rfl) rfl rfl (x_assign rfl rfl) ?_)
  refine g_nil ?_
  refine g_then ?_
  refine g_seq ?_
  refine g_seq ?_
  refine g_region ?_
  refine l_of (s_val (v := .slice p n c) (wt0 rfl) rfl rfl (x_move rfl rfl) ?_)
  refine l_of (s_val (v := .string seed) (wt0 rfl) rfl rfl (x_move rfl rfl) ?_)
  refine l_of (s_call (wt0 rfl) (x_call' rfl rfl cl18) (rivals_s seed l p n c (by omega) _ (H0.exReads (k := 0) rfl hr (fun _ _ _ h => h))) ?_)
  rintro _ wq1 ⟨rfl, H2⟩
  replace H2 : S wq1 [Old w no] := H0.absorb (new := []) H2
  refine b_ret rfl rfl ?_
  refine l_of (s_val (v := .int .i64 ((askE seed l))) (wt0 rfl) rfl rfl (x_assign rfl rfl) ?_)
  refine g_nil ?_
  refine g_then ?_
  refine g_seq ?_
  refine g_region ?_
  refine l_of (s_val (v := .int .i64 ((askE seed l))) (wt0 rfl) rfl rfl (x_move rfl rfl) ?_)
  refine l_of (s_val (v := .bool (!decide (((askE seed l) : Int) = 0))) (wt0 rfl) rfl rfl (x_bin rfl rfl rfl b_neq) ?_)
  refine g_nil ?_
  refine g_then ?_
  by_cases hb3 : ((askE seed l) : Int) = 0
  · skip
    refine g_cond_f rfl (nf hb3) ?_
    refine g_skip ?_
    refine g_then ?_
    refine g_seq ?_
    refine g_seq ?_
    refine g_region ?_
    refine l_of (s_val (v := .int .i64 way) (wt0 rfl) rfl rfl (x_move rfl rfl) ?_)
    refine l_of (s_val (v := .bool (decide ((way : Int) < 1))) (wt0 rfl) rfl rfl (x_bin rfl rfl rfl b_lss) ?_)
    refine l_of (s_val (v := .bool (decide ((way : Int) < 1))) (wt0 rfl) rfl rfl (x_move rfl rfl) ?_)
    by_cases hb4 : (way : Int) < 1
    · skip
      refine l_of (s_not (wn1 rfl rfl rfl rfl (decide_eq_true hb4)) rfl rfl ?_)
      refine l_of (s_not (wn1 rfl rfl rfl rfl (decide_eq_true hb4)) rfl rfl ?_)
      refine l_of (s_val (v := .bool true) (wt0 rfl) rfl rfl (x_pick_t rfl rfl (decide_eq_true hb4) rfl) ?_)
      refine l_of (s_val (v := .bool true) (wt0 rfl) rfl rfl (x_move rfl rfl) ?_)
      refine l_of (s_not (wn1 rfl rfl rfl rfl rfl) rfl rfl ?_)
      refine l_of (s_not (wn1 rfl rfl rfl rfl rfl) rfl rfl ?_)
      refine l_of (s_val (v := .bool true) (wt0 rfl) rfl rfl (x_pick_t rfl rfl rfl rfl) ?_)
      refine l_of (s_val (v := .bool true) (wt0 rfl) rfl rfl (x_move rfl rfl) ?_)
      refine l_of (s_not (wn1 rfl rfl rfl rfl rfl) rfl rfl ?_)
      refine l_of (s_not (wn1 rfl rfl rfl rfl rfl) rfl rfl ?_)
      refine l_of (s_val (v := .bool true) (wt0 rfl) rfl rfl (x_pick_t rfl rfl rfl rfl) ?_)
      refine l_of (s_val (v := .bool true) (wt0 rfl) rfl rfl (x_move rfl rfl) ?_)
      refine l_of (s_not (wn1 rfl rfl rfl rfl rfl) rfl rfl ?_)
      refine l_of (s_not (wn1 rfl rfl rfl rfl rfl) rfl rfl ?_)
      refine l_of (s_val (v := .bool true) (wt0 rfl) rfl rfl (x_pick_t rfl rfl rfl rfl) ?_)
      refine g_nil ?_
      refine g_then ?_
      refine g_weak [(0, .int .i64 way), (1, .int .i64 round), (2, .int .i64 slots), (3, .string seed), (4, .slice p n c), (36, .bool true)] ⟨rfl, rfl, rfl, rfl, rfl, rfl, trivial⟩ ?_
      refine g_cond_t rfl rfl ?_
      refine g_seq ?_
      refine g_region ?_
      refine l_of (s_val (v := .slice none 0 0) (wt0 rfl) rfl rfl (x_assign rfl rfl) ?_)
      refine l_of (s_val (v := .int .i64 7) (wt0 rfl) rfl rfl (x_assign rfl rfl) ?_)
      refine g_nil ?_
      refine g_then ?_
      refine g_ret ?_
      refine g_then_ret ?_
      refine fin_ret [.tmp 10, .tmp 11] [.slice none 0 0, .int .i64 7] rfl ⟨rfl, rfl, trivial⟩ ?_
      have hv : (rndW way round slots seed l) = 7 := rndW_7 (by omega) (by omega)
      have hg : (gotW way round slots seed l) = [] := by unfold gotW; rw [hv, if_neg (by decide)]
      rw [hg, hv]
      exact ⟨none, 0, rfl, (H2.takes [0] (by decide)).nilFl 3 1 intL⟩
    · skip
      refine l_of (s_val (v := .int .i64 way) (wt1 rfl rfl rfl rfl (decide_eq_false hb4)) rfl rfl (x_move rfl rfl) ?_)
      refine l_of (s_val (v := .bool (decide ((4 : Int) < way))) (wt1 rfl rfl rfl rfl (decide_eq_false hb4)) rfl rfl (x_bin rfl rfl rfl b_gtr) ?_)
      refine l_of (s_val (v := .bool (decide ((4 : Int) < way))) (wt0 rfl) rfl rfl (x_pick_f rfl rfl (decide_eq_false hb4) rfl) ?_)
      refine l_of (s_val (v := .bool (decide ((4 : Int) < way))) (wt0 rfl) rfl rfl (x_move rfl rfl) ?_)
      by_cases hb5 : (4 : Int) < way
      · skip
        refine l_of (s_not (wn1 rfl rfl rfl rfl (decide_eq_true hb5)) rfl rfl ?_)
        refine l_of (s_not (wn1 rfl rfl rfl rfl (decide_eq_true hb5)) rfl rfl ?_)
        refine l_of (s_val (v := .bool true) (wt0 rfl) rfl rfl (x_pick_t rfl rfl (decide_eq_true hb5) rfl) ?_)
        refine l_of (s_val (v := .bool true) (wt0 rfl) rfl rfl (x_move rfl rfl) ?_)
        refine l_of (s_not (wn1 rfl rfl rfl rfl rfl) rfl rfl ?_)
        refine l_of (s_not (wn1 rfl rfl rfl rfl rfl) rfl rfl ?_)
        refine l_of (s_val (v := .bool true) (wt0 rfl) rfl rfl (x_pick_t rfl rfl rfl rfl) ?_)
        refine l_of (s_val (v := .bool true) (wt0 rfl) rfl rfl (x_move rfl rfl) ?_)
        refine l_of (s_not (wn1 rfl rfl rfl rfl rfl) rfl rfl ?_)
        refine l_of (s_not (wn1 rfl rfl rfl rfl rfl) rfl rfl ?_)
        refine l_of (s_val (v := .bool true) (wt0 rfl) rfl rfl (x_pick_t rfl rfl rfl rfl) ?_)
        refine g_nil ?_
        refine g_then ?_
        refine g_weak [(0, .int .i64 way), (1, .int .i64 round), (2, .int .i64 slots), (3, .string seed), (4, .slice p n c), (36, .bool true)] ⟨rfl, rfl, rfl, rfl, rfl, rfl, trivial⟩ ?_
        refine g_cond_t rfl rfl ?_
        refine g_seq ?_
        refine g_region ?_
        refine l_of (s_val (v := .slice none 0 0) (wt0 rfl) rfl rfl (x_assign rfl rfl) ?_)
        refine l_of (s_val (v := .int .i64 7) (wt0 rfl) rfl rfl (x_assign rfl rfl) ?_)
        refine g_nil ?_
        refine g_then ?_
        refine g_ret ?_
        refine g_then_ret ?_
        refine fin_ret [.tmp 10, .tmp 11] [.slice none 0 0, .int .i64 7] rfl ⟨rfl, rfl, trivial⟩ ?_
        have hv : (rndW way round slots seed l) = 7 := rndW_7 (by omega) (by omega)
        have hg : (gotW way round slots seed l) = [] := by unfold gotW; rw [hv, if_neg (by decide)]
        rw [hg, hv]
        exact ⟨none, 0, rfl, (H2.takes [0] (by decide)).nilFl 3 1 intL⟩
      · skip
        refine l_of (s_val (v := .int .i64 round) (wt1 rfl rfl rfl rfl (decide_eq_false hb5)) rfl rfl (x_move rfl rfl) ?_)
        refine l_of (s_val (v := .bool (decide ((round : Int) < 0))) (wt1 rfl rfl rfl rfl (decide_eq_false hb5)) rfl rfl (x_bin rfl rfl rfl b_lss) ?_)
        refine l_of (s_val (v := .bool (decide ((round : Int) < 0))) (wt0 rfl) rfl rfl (x_pick_f rfl rfl (decide_eq_false hb5) rfl) ?_)
        refine l_of (s_val (v := .bool (decide ((round : Int) < 0))) (wt0 rfl) rfl rfl (x_move rfl rfl) ?_)
        by_cases hb6 : (round : Int) < 0
        · skip
          refine l_of (s_not (wn1 rfl rfl rfl rfl (decide_eq_true hb6)) rfl rfl ?_)
          refine l_of (s_not (wn1 rfl rfl rfl rfl (decide_eq_true hb6)) rfl rfl ?_)
          refine l_of (s_val (v := .bool true) (wt0 rfl) rfl rfl (x_pick_t rfl rfl (decide_eq_true hb6) rfl) ?_)
          refine l_of (s_val (v := .bool true) (wt0 rfl) rfl rfl (x_move rfl rfl) ?_)
          refine l_of (s_not (wn1 rfl rfl rfl rfl rfl) rfl rfl ?_)
          refine l_of (s_not (wn1 rfl rfl rfl rfl rfl) rfl rfl ?_)
          refine l_of (s_val (v := .bool true) (wt0 rfl) rfl rfl (x_pick_t rfl rfl rfl rfl) ?_)
          refine g_nil ?_
          refine g_then ?_
          refine g_weak [(0, .int .i64 way), (1, .int .i64 round), (2, .int .i64 slots), (3, .string seed), (4, .slice p n c), (36, .bool true)] ⟨rfl, rfl, rfl, rfl, rfl, rfl, trivial⟩ ?_
          refine g_cond_t rfl rfl ?_
          refine g_seq ?_
          refine g_region ?_
          refine l_of (s_val (v := .slice none 0 0) (wt0 rfl) rfl rfl (x_assign rfl rfl) ?_)
          refine l_of (s_val (v := .int .i64 7) (wt0 rfl) rfl rfl (x_assign rfl rfl) ?_)
          refine g_nil ?_
          refine g_then ?_
          refine g_ret ?_
          refine g_then_ret ?_
          refine fin_ret [.tmp 10, .tmp 11] [.slice none 0 0, .int .i64 7] rfl ⟨rfl, rfl, trivial⟩ ?_
          have hv : (rndW way round slots seed l) = 7 := rndW_7 (by omega) (by omega)
          have hg : (gotW way round slots seed l) = [] := by unfold gotW; rw [hv, if_neg (by decide)]
          rw [hg, hv]
          exact ⟨none, 0, rfl, (H2.takes [0] (by decide)).nilFl 3 1 intL⟩
        · skip
          refine l_of (s_val (v := .int .i64 slots) (wt1 rfl rfl rfl rfl (decide_eq_false hb6)) rfl rfl (x_move rfl rfl) ?_)
          refine l_of (s_val (v := .bool (decide ((slots : Int) < 0))) (wt1 rfl rfl rfl rfl (decide_eq_false hb6)) rfl rfl (x_bin rfl rfl rfl b_lss) ?_)
          refine l_of (s_val (v := .bool (decide ((slots : Int) < 0))) (wt0 rfl) rfl rfl (x_pick_f rfl rfl (decide_eq_false hb6) rfl) ?_)
          refine l_of (s_val (v := .bool (decide ((slots : Int) < 0))) (wt0 rfl) rfl rfl (x_move rfl rfl) ?_)
          by_cases hb7 : (slots : Int) < 0
          · skip
            refine l_of (s_not (wn1 rfl rfl rfl rfl (decide_eq_true hb7)) rfl rfl ?_)
            refine l_of (s_not (wn1 rfl rfl rfl rfl (decide_eq_true hb7)) rfl rfl ?_)
            refine l_of (s_val (v := .bool true) (wt0 rfl) rfl rfl (x_pick_t rfl rfl (decide_eq_true hb7) rfl) ?_)
            refine g_nil ?_
            refine g_then ?_
            refine g_weak [(0, .int .i64 way), (1, .int .i64 round), (2, .int .i64 slots), (3, .string seed), (4, .slice p n c), (36, .bool true)] ⟨rfl, rfl, rfl, rfl, rfl, rfl, trivial⟩ ?_
            refine g_cond_t rfl rfl ?_
            refine g_seq ?_
            refine g_region ?_
            refine l_of (s_val (v := .slice none 0 0) (wt0 rfl) rfl rfl (x_assign rfl rfl) ?_)
            refine l_of (s_val (v := .int .i64 7) (wt0 rfl) rfl rfl (x_assign rfl rfl) ?_)
            refine g_nil ?_
            refine g_then ?_
            refine g_ret ?_
            refine g_then_ret ?_
            refine fin_ret [.tmp 10, .tmp 11] [.slice none 0 0, .int .i64 7] rfl ⟨rfl, rfl, trivial⟩ ?_
            have hv : (rndW way round slots seed l) = 7 := rndW_7 (by omega) (by omega)
            have hg : (gotW way round slots seed l) = [] := by unfold gotW; rw [hv, if_neg (by decide)]
            rw [hg, hv]
            exact ⟨none, 0, rfl, (H2.takes [0] (by decide)).nilFl 3 1 intL⟩
          · skip
            refine l_of (s_val (v := .int .i64 slots) (wt1 rfl rfl rfl rfl (decide_eq_false hb7)) rfl rfl (x_move rfl rfl) ?_)
            refine l_of (s_val (v := .bool (decide ((100 : Int) < slots))) (wt1 rfl rfl rfl rfl (decide_eq_false hb7)) rfl rfl (x_bin rfl rfl rfl b_gtr) ?_)
            refine l_of (s_val (v := .bool (decide ((100 : Int) < slots))) (wt0 rfl) rfl rfl (x_pick_f rfl rfl (decide_eq_false hb7) rfl) ?_)
            refine g_nil ?_
            refine g_then ?_
            refine g_weak [(0, .int .i64 way), (1, .int .i64 round), (2, .int .i64 slots), (3, .string seed), (4, .slice p n c), (36, .bool (decide ((100 : Int) < slots)))] ⟨rfl, rfl, rfl, rfl, rfl, rfl, trivial⟩ ?_
            by_cases hb8 : (100 : Int) < slots
            · skip
              refine g_cond_t rfl (decide_eq_true hb8) ?_
              refine g_seq ?_
              refine g_region ?_
              refine l_of (s_val (v := .slice none 0 0) (wt0 rfl) rfl rfl (x_assign rfl rfl) ?_)
              refine l_of (s_val (v := .int .i64 7) (wt0 rfl) rfl rfl (x_assign rfl rfl) ?_)
              refine g_nil ?_
              refine g_then ?_
              refine g_ret ?_
              refine g_then_ret ?_
              refine fin_ret [.tmp 10, .tmp 11] [.slice none 0 0, .int .i64 7] rfl ⟨rfl, rfl, trivial⟩ ?_
              have hv : (rndW way round slots seed l) = 7 := rndW_7 (by omega) (by omega)
              have hg : (gotW way round slots seed l) = [] := by unfold gotW; rw [hv, if_neg (by decide)]
              rw [hg, hv]
              exact ⟨none, 0, rfl, (H2.takes [0] (by decide)).nilFl 3 1 intL⟩
            · skip
              refine g_cond_f rfl (decide_eq_false hb8) ?_
              refine g_skip ?_
              refine g_then ?_
              refine g_seq ?_
              refine g_region ?_
              refine l_of (s_val (v := .int .i64 way) (wt0 rfl) rfl rfl (x_move rfl rfl) ?_)
              refine l_of (s_val (v := .int .i64 round) (wt0 rfl) rfl rfl (x_move rfl rfl) ?_)
              refine l_of (s_val (v := .int .i64 slots) (wt0 rfl) rfl rfl (x_move rfl rfl) ?_)
              refine l_of (s_val (v := .string seed) (wt0 rfl) rfl rfl (x_move rfl rfl) ?_)
              refine l_of (s_val (v := .slice p n c) (wt0 rfl) rfl rfl (x_move rfl rfl) ?_)
              have hask : askE seed l = 0 := by omega
              have hval := (askE_ok hask).2.1
              have hs100 := askE_size hask
              refine l_of (s_call (wt0 rfl) (x_call' rfl rfl cl19) (decided_s way (by omega) round slots seed l p n c hn2 hval (by omega) ⟨by omega, hro.2⟩ (by omega) _ (H2.exReads (k := 0) rfl hr (fun _ _ _ h => h)) (H2.tab (k := 0) rfl ht)) ?_)
              rintro _ wq9 ⟨pd, cd, rfl, H10⟩
              replace H10 : S wq9 [Rw 3 1 pd ((idsW way round slots seed l).length) cd (fl intL (idsW way round slots seed l)), Old w no] := H2.absorb (new := [Rw 3 1 pd ((idsW way round slots seed l).length) cd (fl intL (idsW way round slots seed l))]) H10
              refine b_ret rfl rfl ?_
              refine l_of (s_val (v := .slice pd ((idsW way round slots seed l).length) cd) (wt0 rfl) rfl rfl (x_assign rfl rfl) ?_)
              refine l_of (s_val (v := .int .i64 0) (wt0 rfl) rfl rfl (x_assign rfl rfl) ?_)
              refine g_nil ?_
              refine g_then ?_
              refine g_weak [(10, .slice pd ((idsW way round slots seed l).length) cd), (11, .int .i64 0)] ⟨rfl, rfl, trivial⟩ ?_
              refine g_ret ?_
              refine fin_ret [.tmp 10, .tmp 11] [.slice pd ((idsW way round slots seed l).length) cd, .int .i64 0] rfl ⟨rfl, rfl, trivial⟩ ?_
              have hv : (rndW way round slots seed l) = 0 := rndW_0 (by omega) (by omega)
              have hg : (gotW way round slots seed l) = (idsW way round slots seed l) := by unfold gotW; rw [hv, if_pos rfl]
              rw [hg, hv]
              exact ⟨_, _, rfl, H10.takes [0, 1] (by decide)⟩
  · skip
    refine g_cond_t rfl (nt hb3) ?_
    refine g_seq ?_
    refine g_region ?_
    refine l_of (s_val (v := .int .i64 ((askE seed l))) (wt0 rfl) rfl rfl (x_move rfl rfl) ?_)
    refine l_of (s_val (v := .slice none 0 0) (wt0 rfl) rfl rfl (x_assign rfl rfl) ?_)
    refine l_of (s_val (v := .int .i64 ((askE seed l))) (wt0 rfl) rfl rfl (x_assign rfl rfl) ?_)
    refine g_nil ?_
    refine g_then ?_
    refine g_weak [(10, .slice none 0 0), (11, .int .i64 ((askE seed l)))] ⟨rfl, rfl, trivial⟩ ?_
    refine g_ret ?_
    refine g_then_ret ?_
    refine fin_ret [.tmp 10, .tmp 11] [.slice none 0 0, .int .i64 ((askE seed l))] rfl ⟨rfl, rfl, trivial⟩ ?_
    have hv : (rndW way round slots seed l) = (askE seed l) := rndW_a hb3
    have hg : (gotW way round slots seed l) = [] := by unfold gotW; rw [hv, if_neg hb3]
    rw [hg, hv]
    exact ⟨none, 0, rfl, (H2.takes [0] (by decide)).nilFl 3 1 intL⟩
end Go.Proofs.YthfglkkjkpdkpaaGreatDoor
