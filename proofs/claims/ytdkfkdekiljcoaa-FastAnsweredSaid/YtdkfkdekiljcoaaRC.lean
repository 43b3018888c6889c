import Derived.Test.YtdkfkdekiljcoaaRB
set_option linter.unusedSimpArgs false
set_option linter.unusedVariables false
namespace Go.Proofs.Ytdkfkdekiljcoaa
open Go.RowKit

theorem sz55 : szO Try.prog 55 = some 14 := by kernel_rfl
theorem sz57 : szO Try.prog 57 = some 19 := by kernel_rfl
theorem ze54 : zeO Try.prog 54 = some (.agg #[.bool false, .bool false, .bool false, .string (⟨#[]⟩), .slice none 0 0, .slice none 0 0, .map none]) := by kernel_rfl
theorem ze57 : zeO Try.prog 57 = some (.agg #[.int .i64 0, .int .i64 0, .int .i64 0, .int .i64 0, .bool false, .bool false, .bool false, .bool false, .string (⟨#[]⟩), .slice none 0 0, .slice none 0 0, .map none, .bool false, .bool false, .bool false, .string (⟨#[]⟩), .slice none 0 0, .slice none 0 0, .map none]) := by kernel_rfl
def Gok (a : Wy) : Prop := ∀ x, a.go x ≠ some false
theorem copy_next {go M1 : Ch → Option Bool} {rem rem2 : List (Ch × Bool)} {p : Ch × Bool} (hg : ∀ x, go x ≠ some false) (hN : go p.1 = some p.2) (hM : ∀ x, chOk x → (x, true) ∉ rem → M1 x = go x) (hmem : ∀ q, q ∈ rem2 ↔ q ∈ rem ∧ q ≠ p) : ∀ x, chOk x → (x, true) ∉ rem2 → upM M1 p.1 true x = go x := fun x hx hno => by
  unfold upM
  by_cases hxp : x = p.1
  · rw [if_pos hxp, hxp, hN]
    cases hq : p.2 with
    | true => rfl
    | false => exact absurd (by rw [hN, hq]) (hg p.1)
  · rw [if_neg hxp]; exact hM x hx (fun ha => hno ((hmem _).2 ⟨ha, fun e => hxp (by rw [← e])⟩))
theorem copy_init {go : Ch → Option Bool} {rem : List (Ch × Bool)} (hg : ∀ x, go x ≠ some false) (h : ∀ p, p ∈ rem ↔ chOk p.1 ∧ go p.1 = some p.2) : ∀ x, chOk x → (x, true) ∉ rem → (none : Option Bool) = go x := fun x hx hno => by
  cases hq : go x with
  | none => rfl
  | some b =>
    cases b with
    | true => exact absurd ((h (x, true)).2 ⟨hx, hq⟩) hno
    | false => exact absurd hq (hg x)
set_option maxRecDepth 20000 in
set_option maxHeartbeats 4000000 in
theorem copy_s (sg : Nat) (c : Co) (A0 A1 : Ad) (a0 a1 : Wy) (hg0 : Gok a0) (hg1 : Gok a1) (hal0 : a0.al.length ≤ 1099511627776) (hwl0 : a0.wa.length ≤ 1099511627776) (hal1 : a1.al.length ≤ 1099511627776) (hwl1 : a1.wa.length ≤ 1099511627776) (w : World) (HS : S w [Ob sg (.cells #[.int .i64 (c.n), .int .i64 (c.pi), .int .i64 (c.la), .int .i64 (c.qu), .bool c.ft, .bool a0.bg, .bool a0.ck, .bool a0.wt, .string (a0.fd), .slice A0.pa a0.al.length A0.ca, .slice A0.pw a0.wa.length A0.cw, .map (some A0.mg), .bool a1.bg, .bool a1.ck, .bool a1.wt, .string (a1.fd), .slice A1.pa a1.al.length A1.ca, .slice A1.pw a1.wa.length A1.cw, .map (some A1.mg)] 57 (0, 0)), alI A0 a0, waI A0 a0, goI A0 a0, alI A1 a1, waI A1 a1, goI A1 a1]) : Calls Try.prog 29 #[.pointer (some ⟨sg, 0, none⟩)] w fun e w' => ∃ (gq : Nat) (B0 B1 : Ad), e = .returned (.pointer (some ⟨gq, 0, none⟩)) ∧ S w' ([Ob gq (.cells #[.int .i64 (c.n), .int .i64 (c.pi), .int .i64 (c.la), .int .i64 (c.qu), .bool c.ft, .bool a0.bg, .bool a0.ck, .bool a0.wt, .string (a0.fd), .slice B0.pa a0.al.length B0.ca, .slice B0.pw a0.wa.length B0.cw, .map (some B0.mg), .bool a1.bg, .bool a1.ck, .bool a1.wt, .string (a1.fd), .slice B1.pa a1.al.length B1.ca, .slice B1.pw a1.wa.length B1.cw, .map (some B1.mg)] 57 (0, 0)), alI B0 a0, waI B0 a0, goI B0 a0, alI B1 a1, waI B1 a1, goI B1 a1, Ob sg (.cells #[.int .i64 (c.n), .int .i64 (c.pi), .int .i64 (c.la), .int .i64 (c.qu), .bool c.ft, .bool a0.bg, .bool a0.ck, .bool a0.wt, .string (a0.fd), .slice A0.pa a0.al.length A0.ca, .slice A0.pw a0.wa.length A0.cw, .map (some A0.mg), .bool a1.bg, .bool a1.ck, .bool a1.wt, .string (a1.fd), .slice A1.pa a1.al.length A1.ca, .slice A1.pw a1.wa.length A1.cw, .map (some A1.mg)] 57 (0, 0)), alI A0 a0, waI A0 a0, goI A0 a0, alI A1 a1, waI A1 a1, goI A1 a1] ++ [Old w (fps [Ob sg (.cells #[.int .i64 (c.n), .int .i64 (c.pi), .int .i64 (c.la), .int .i64 (c.qu), .bool c.ft, .bool a0.bg, .bool a0.ck, .bool a0.wt, .string (a0.fd), .slice A0.pa a0.al.length A0.ca, .slice A0.pw a0.wa.length A0.cw, .map (some A0.mg), .bool a1.bg, .bool a1.ck, .bool a1.wt, .string (a1.fd), .slice A1.pa a1.al.length A1.ca, .slice A1.pw a1.wa.length A1.cw, .map (some A1.mg)] 57 (0, 0)), alI A0 a0, waI A0 a0, goI A0 a0, alI A1 a1, waI A1 a1, goI A1 a1])]) := by
 have H0 := HS.beginI
 refine enter 44 Try.func29 rfl rfl rfl ?_
 refine g_weak [(0, .pointer (some ⟨sg, 0, none⟩))] ⟨rfl, trivial⟩ ?_
 refine w_s ?_
 refine w_a ?_
 refine w_e ?_
 refine g_seq ?_
 refine w_s ?_
 refine w_m ?_
 refine w_b (v := .bool false) (hb := (b_eqN (r := false) Try.underlying27 rfl)) ?_
 refine w_e ?_
 refine g_cond_f rfl rfl ?_
 refine g_skip ?_
 refine g_then ?_
 refine w_s ?_
 refine w_r2 ?_
 refine w_v (v := .agg #[.int .i64 (c.n), .int .i64 (c.pi), .int .i64 (c.la), .int .i64 (c.qu), .bool c.ft, .bool a0.bg, .bool a0.ck, .bool a0.wt, .string (a0.fd), .slice A0.pa a0.al.length A0.ca, .slice A0.pw a0.wa.length A0.cw, .map (some A0.mg), .bool a1.bg, .bool a1.ck, .bool a1.wt, .string (a1.fd), .slice A1.pa a1.al.length A1.ca, .slice A1.pw a1.wa.length A1.cw, .map (some A1.mg)]) (x_loadA H0 0 rfl rfl Try.underlying57 rfl sz57 rfl rfl rfl) ?_
 refine l_of (s_alloc H0 (wt0 rfl) rfl rfl rfl ze57 ?_)
 intro g1 wq2 H3
 refine l_of (w_st #[.int .i64 (c.n), .int .i64 (c.pi), .int .i64 (c.la), .int .i64 (c.qu), .bool c.ft, .bool a0.bg, .bool a0.ck, .bool a0.wt, .string (a0.fd), .slice A0.pa a0.al.length A0.ca, .slice A0.pw a0.wa.length A0.cw, .map (some A0.mg), .bool a1.bg, .bool a1.ck, .bool a1.wt, .string (a1.fd), .slice A1.pa a1.al.length A1.ca, .slice A1.pw a1.wa.length A1.cw, .map (some A1.mg)] H3 0 ?_)
 intro wq4 H5
 refine w_e ?_
 refine g_seq ?_
 refine w_s ?_
 refine w_f 5 ?_
 refine w_v (v := .agg #[.bool a0.bg, .bool a0.ck, .bool a0.wt, .string (a0.fd), .slice A0.pa a0.al.length A0.ca, .slice A0.pw a0.wa.length A0.cw, .map (some A0.mg), .bool a1.bg, .bool a1.ck, .bool a1.wt, .string (a1.fd), .slice A1.pa a1.al.length A1.ca, .slice A1.pw a1.wa.length A1.cw, .map (some A1.mg)]) (x_loadA H5 0 rfl rfl Try.underlying55 rfl sz55 rfl rfl rfl) ?_
 refine w_m ?_
 refine w_e ?_
 refine g_block ?_
 refine g_rounds 3 ?_
 refine g_roundU ?_
 refine w_s ?_
 refine w_b ?_
 refine w_e ?_
 refine g_seq ?_
 refine g_cond_t rfl (by decide) ?_
 refine g_skip ?_
 refine g_then ?_
 refine g_seq ?_
 refine g_block ?_
 refine w_s ?_
 refine w_m ?_
 refine w_v (v := .agg #[.bool a0.bg, .bool a0.ck, .bool a0.wt, .string (a0.fd), .slice A0.pa a0.al.length A0.ca, .slice A0.pw a0.wa.length A0.cw, .map (some A0.mg)]) (x_indexAgg 0 rfl rfl rfl Try.underlying55 sz54 Try.underlying54 rfl ⟨by decide, by decide⟩ rfl) ?_
 refine l_of (s_alloc H5 (wt0 rfl) rfl rfl rfl ze54 ?_)
 intro g6 wq7 H8
 refine w_a ?_
 refine l_of (w_st #[.bool a0.bg, .bool a0.ck, .bool a0.wt, .string (a0.fd), .slice A0.pa a0.al.length A0.ca, .slice A0.pw a0.wa.length A0.cw, .map (some A0.mg)] H8 0 ?_)
 intro wq9 H10
 refine w_e ?_
 refine g_seq ?_
 refine g_any [(0, .pointer (some ⟨sg, 0, none⟩)), (2, .pointer none), (3, .pointer (some ⟨g1, 0, none⟩)), (4, .int .i64 0), (5, .pointer (some ⟨g6, 0, none⟩)), (8, .pointer (some ⟨sg, 0, none⟩)), (9, .bool false), (10, .pointer (some ⟨sg, 0, none⟩)), (11, .pointer (some ⟨sg, 0, none⟩)), (12, .agg #[.int .i64 (c.n), .int .i64 (c.pi), .int .i64 (c.la), .int .i64 (c.qu), .bool c.ft, .bool a0.bg, .bool a0.ck, .bool a0.wt, .string (a0.fd), .slice A0.pa a0.al.length A0.ca, .slice A0.pw a0.wa.length A0.cw, .map (some A0.mg), .bool a1.bg, .bool a1.ck, .bool a1.wt, .string (a1.fd), .slice A1.pa a1.al.length A1.ca, .slice A1.pw a1.wa.length A1.cw, .map (some A1.mg)]), (13, .pointer (some ⟨g1, 5, none⟩)), (14, .agg #[.bool a0.bg, .bool a0.ck, .bool a0.wt, .string (a0.fd), .slice A0.pa a0.al.length A0.ca, .slice A0.pw a0.wa.length A0.cw, .map (some A0.mg), .bool a1.bg, .bool a1.ck, .bool a1.wt, .string (a1.fd), .slice A1.pa a1.al.length A1.ca, .slice A1.pw a1.wa.length A1.cw, .map (some A1.mg)]), (15, .int .i64 0), (16, .bool (decide ((0 : Int) < 2))), (17, .int .i64 0), (18, .agg #[.bool a0.bg, .bool a0.ck, .bool a0.wt, .string (a0.fd), .slice A0.pa a0.al.length A0.ca, .slice A0.pw a0.wa.length A0.cw, .map (some A0.mg)])] (fun wx => S wx [Ob g6 (.cells #[.bool a0.bg, .bool a0.ck, .bool a0.wt, .string (a0.fd), .slice A0.pa a0.al.length A0.ca, .slice A0.pw a0.wa.length A0.cw, .map (some A0.mg)] 54 (0, 0))]) [7, 8, 9] (by kernel_rfl) H10 (fun wq11 H12 => ?_)
 have cm1 := H12.mask [true, false, false, false, false, false, false, false, false, false]
 refine w_t 0 rfl cm1 (fun _ _ => xf 4) ?_
 refine w_t 1 rfl cm1 (fun _ H => xl H 0) ?_
 refine w_t 3 rfl cm1 (fun _ _ => xf 5) ?_
 refine w_t 4 rfl cm1 (fun _ H => xl H 0) ?_
 refine a_one (i := 2) (by kernel_rfl) rfl ?_
 refine s_call (wt0 rfl) (x_call' rfl rfl cl25) (clone_i a0.al A0.pa A0.ca (by omega) _ (H12.rwReads (k := 3) rfl)) ?_
 rintro _ wq15 ⟨p13, c14, rfl, H16⟩
 replace H16 : S wq15 [Rw 3 1 p13 a0.al.length c14 (zV a0.al), Ob g6 (.cells #[.bool a0.bg, .bool a0.ck, .bool a0.wt, .string (a0.fd), .slice A0.pa a0.al.length A0.ca, .slice A0.pw a0.wa.length A0.cw, .map (some A0.mg)] 54 (0, 0)), Ob g1 (.cells #[.int .i64 (c.n), .int .i64 (c.pi), .int .i64 (c.la), .int .i64 (c.qu), .bool c.ft, .bool a0.bg, .bool a0.ck, .bool a0.wt, .string (a0.fd), .slice A0.pa a0.al.length A0.ca, .slice A0.pw a0.wa.length A0.cw, .map (some A0.mg), .bool a1.bg, .bool a1.ck, .bool a1.wt, .string (a1.fd), .slice A1.pa a1.al.length A1.ca, .slice A1.pw a1.wa.length A1.cw, .map (some A1.mg)] 57 (0, 0)), Ob sg (.cells #[.int .i64 (c.n), .int .i64 (c.pi), .int .i64 (c.la), .int .i64 (c.qu), .bool c.ft, .bool a0.bg, .bool a0.ck, .bool a0.wt, .string (a0.fd), .slice A0.pa a0.al.length A0.ca, .slice A0.pw a0.wa.length A0.cw, .map (some A0.mg), .bool a1.bg, .bool a1.ck, .bool a1.wt, .string (a1.fd), .slice A1.pa a1.al.length A1.ca, .slice A1.pw a1.wa.length A1.cw, .map (some A1.mg)] 57 (0, 0)), alI A0 a0, waI A0 a0, goI A0 a0, alI A1 a1, waI A1 a1, goI A1 a1, Old w (fps [Ob sg (.cells #[.int .i64 (c.n), .int .i64 (c.pi), .int .i64 (c.la), .int .i64 (c.qu), .bool c.ft, .bool a0.bg, .bool a0.ck, .bool a0.wt, .string (a0.fd), .slice A0.pa a0.al.length A0.ca, .slice A0.pw a0.wa.length A0.cw, .map (some A0.mg), .bool a1.bg, .bool a1.ck, .bool a1.wt, .string (a1.fd), .slice A1.pa a1.al.length A1.ca, .slice A1.pw a1.wa.length A1.cw, .map (some A1.mg)] 57 (0, 0)), alI A0 a0, waI A0 a0, goI A0 a0, alI A1 a1, waI A1 a1, goI A1 a1])] := H12.absorb (new := [Rw 3 1 p13 a0.al.length c14 (zV a0.al)]) H16
 refine b_ret rfl rfl ?_
 have cm2 := H16.mask [false, true, false, false, false, false, false, false, false, false, false]
 refine a_k cm2 ?_
 refine w_t 6 rfl cm2 (fun _ _ => xf 4) ?_
 refine a_one (i := 5) (by kernel_rfl) rfl ?_
 refine s_call (wt0 rfl) (x_call' rfl rfl cl22) (clone_c a0.wa A0.pw A0.cw (by omega) _ (H16.rwReads (k := 5) rfl)) ?_
 rintro _ wq19 ⟨p17, c18, rfl, H20⟩
 replace H20 : S wq19 [Rw 49 3 p17 a0.wa.length c18 (chV a0.wa), Rw 3 1 p13 a0.al.length c14 (zV a0.al), Ob g6 (.cells #[.bool a0.bg, .bool a0.ck, .bool a0.wt, .string (a0.fd), .slice A0.pa a0.al.length A0.ca, .slice A0.pw a0.wa.length A0.cw, .map (some A0.mg)] 54 (0, 0)), Ob g1 (.cells #[.int .i64 (c.n), .int .i64 (c.pi), .int .i64 (c.la), .int .i64 (c.qu), .bool c.ft, .bool a0.bg, .bool a0.ck, .bool a0.wt, .string (a0.fd), .slice A0.pa a0.al.length A0.ca, .slice A0.pw a0.wa.length A0.cw, .map (some A0.mg), .bool a1.bg, .bool a1.ck, .bool a1.wt, .string (a1.fd), .slice A1.pa a1.al.length A1.ca, .slice A1.pw a1.wa.length A1.cw, .map (some A1.mg)] 57 (0, 0)), Ob sg (.cells #[.int .i64 (c.n), .int .i64 (c.pi), .int .i64 (c.la), .int .i64 (c.qu), .bool c.ft, .bool a0.bg, .bool a0.ck, .bool a0.wt, .string (a0.fd), .slice A0.pa a0.al.length A0.ca, .slice A0.pw a0.wa.length A0.cw, .map (some A0.mg), .bool a1.bg, .bool a1.ck, .bool a1.wt, .string (a1.fd), .slice A1.pa a1.al.length A1.ca, .slice A1.pw a1.wa.length A1.cw, .map (some A1.mg)] 57 (0, 0)), alI A0 a0, waI A0 a0, goI A0 a0, alI A1 a1, waI A1 a1, goI A1 a1, Old w (fps [Ob sg (.cells #[.int .i64 (c.n), .int .i64 (c.pi), .int .i64 (c.la), .int .i64 (c.qu), .bool c.ft, .bool a0.bg, .bool a0.ck, .bool a0.wt, .string (a0.fd), .slice A0.pa a0.al.length A0.ca, .slice A0.pw a0.wa.length A0.cw, .map (some A0.mg), .bool a1.bg, .bool a1.ck, .bool a1.wt, .string (a1.fd), .slice A1.pa a1.al.length A1.ca, .slice A1.pw a1.wa.length A1.cw, .map (some A1.mg)] 57 (0, 0)), alI A0 a0, waI A0 a0, goI A0 a0, alI A1 a1, waI A1 a1, goI A1 a1])] := H16.absorb (new := [Rw 49 3 p17 a0.wa.length c18 (chV a0.wa)]) H20
 refine b_ret rfl rfl ?_
 refine a_k (H20.mask [false, false, true, false, false, false, false, false, false, false, false, false]) ?_
 refine a_one (i := 7) (by kernel_rfl) rfl ?_
 refine w_st #[.bool a0.bg, .bool a0.ck, .bool a0.wt, .string (a0.fd), .slice p13 a0.al.length c14, .slice A0.pw a0.wa.length A0.cw, .map (some A0.mg)] H20 2 ?_
 intro wq21 H22
 refine a_kt rfl ?_
 refine a_pure (v := .pointer (some ⟨g6, 5, none⟩)) 8 rfl (wt0 rfl) rfl rfl rfl (by kernel_rfl) (by kernel_rfl) (by kernel_rfl) (.inl rfl) (fun wx => x_fieldAddr rfl rfl fo54_5 rfl) ?_
 refine a_one (i := 9) (by kernel_rfl) rfl ?_
 refine w_st #[.bool a0.bg, .bool a0.ck, .bool a0.wt, .string (a0.fd), .slice p13 a0.al.length c14, .slice p17 a0.wa.length c18, .map (some A0.mg)] H22 2 ?_
 intro wq23 H24
 refine a_kt rfl ?_
 refine a_done (by kernel_rfl) ?_
 refine g_then ?_
 refine g_weak [(3, .pointer (some ⟨g1, 0, none⟩)), (4, .int .i64 0), (5, .pointer (some ⟨g6, 0, none⟩)), (14, .agg #[.bool a0.bg, .bool a0.ck, .bool a0.wt, .string (a0.fd), .slice A0.pa a0.al.length A0.ca, .slice A0.pw a0.wa.length A0.cw, .map (some A0.mg), .bool a1.bg, .bool a1.ck, .bool a1.wt, .string (a1.fd), .slice A1.pa a1.al.length A1.ca, .slice A1.pw a1.wa.length A1.cw, .map (some A1.mg)]), (15, .int .i64 0)] ⟨rfl, rfl, rfl, rfl, rfl, trivial⟩ ?_
 refine w_s ?_
 refine l_of (s_makeMap (α := Bool) chK Value.bool chOk H24 (wt0 rfl) rfl rfl rfl ?_)
 intro mg25 wq26 H27
 refine w_a ?_
 refine w_e ?_
 refine g_seq ?_
 refine w_s ?_
 refine w_f 6 ?_
 refine w_1 H27 3 ?_
 refine l_of (s_range goneT H27 8 (wt0 rfl) rfl rfl rfl rfl rfl ?_)
 intro rr30 rem31 wq28 hrem32 H29
 refine w_e ?_
 refine g_block ?_
 refine g_loop (ι := List (Ch × Bool) × (Ch → Option Bool) × Option (Ch × Bool)) (fun (rem33, M34, cur35) => [(3, .pointer (some ⟨g1, 0, none⟩)), (4, .int .i64 0), (5, .pointer (some ⟨g6, 0, none⟩)), (6, .map (some mg25)), (14, .agg #[.bool a0.bg, .bool a0.ck, .bool a0.wt, .string (a0.fd), .slice A0.pa a0.al.length A0.ca, .slice A0.pw a0.wa.length A0.cw, .map (some A0.mg), .bool a1.bg, .bool a1.ck, .bool a1.wt, .string (a1.fd), .slice A1.pa a1.al.length A1.ca, .slice A1.pw a1.wa.length A1.cw, .map (some A1.mg)]), (15, .int .i64 0), (30, .pointer (some ⟨rr30, 0, none⟩))]) (fun (rem33, M34, cur35) wx => (∀ x, chOk x → (x, true) ∉ rem33 → M34 x = a0.go x) ∧ S wx [Mp chK Value.bool chOk mg25 M34, Rw 49 3 p17 a0.wa.length c18 (chV a0.wa), Rw 3 1 p13 a0.al.length c14 (zV a0.al), Ob g6 (.cells #[.bool a0.bg, .bool a0.ck, .bool a0.wt, .string (a0.fd), .slice p13 a0.al.length c14, .slice p17 a0.wa.length c18, .map (some A0.mg)] 54 (0, 0)), Ob g1 (.cells #[.int .i64 (c.n), .int .i64 (c.pi), .int .i64 (c.la), .int .i64 (c.qu), .bool c.ft, .bool a0.bg, .bool a0.ck, .bool a0.wt, .string (a0.fd), .slice A0.pa a0.al.length A0.ca, .slice A0.pw a0.wa.length A0.cw, .map (some A0.mg), .bool a1.bg, .bool a1.ck, .bool a1.wt, .string (a1.fd), .slice A1.pa a1.al.length A1.ca, .slice A1.pw a1.wa.length A1.cw, .map (some A1.mg)] 57 (0, 0)), Ob sg (.cells #[.int .i64 (c.n), .int .i64 (c.pi), .int .i64 (c.la), .int .i64 (c.qu), .bool c.ft, .bool a0.bg, .bool a0.ck, .bool a0.wt, .string (a0.fd), .slice A0.pa a0.al.length A0.ca, .slice A0.pw a0.wa.length A0.cw, .map (some A0.mg), .bool a1.bg, .bool a1.ck, .bool a1.wt, .string (a1.fd), .slice A1.pa a1.al.length A1.ca, .slice A1.pw a1.wa.length A1.cw, .map (some A1.mg)] 57 (0, 0)), alI A0 a0, waI A0 a0, MpR chK Value.bool chOk A0.mg rr30 (a0.go) (rem33) (cur35), alI A1 a1, waI A1 a1, goI A1 a1, Old w (fps [Ob sg (.cells #[.int .i64 (c.n), .int .i64 (c.pi), .int .i64 (c.la), .int .i64 (c.qu), .bool c.ft, .bool a0.bg, .bool a0.ck, .bool a0.wt, .string (a0.fd), .slice A0.pa a0.al.length A0.ca, .slice A0.pw a0.wa.length A0.cw, .map (some A0.mg), .bool a1.bg, .bool a1.ck, .bool a1.wt, .string (a1.fd), .slice A1.pa a1.al.length A1.ca, .slice A1.pw a1.wa.length A1.cw, .map (some A1.mg)] 57 (0, 0)), alI A0 a0, waI A0 a0, goI A0 a0, alI A1 a1, waI A1 a1, goI A1 a1])]) (fun (rem33, M34, cur35) => rem33.length) (rem31, (fun _ => none), none) ⟨rfl, rfl, rfl, rfl, rfl, rfl, rfl, trivial⟩ ⟨copy_init hg0 hrem32, (H29.takes [0, 1, 2, 3, 4, 5, 6, 7, 8, 9, 10, 11, 12] (by decide))⟩ ?_
 rintro ⟨rem33, M34, cur35⟩ wq37 ⟨hM36, H38⟩
 refine g_weak [(3, .pointer (some ⟨g1, 0, none⟩)), (4, .int .i64 0), (5, .pointer (some ⟨g6, 0, none⟩)), (6, .map (some mg25)), (14, .agg #[.bool a0.bg, .bool a0.ck, .bool a0.wt, .string (a0.fd), .slice A0.pa a0.al.length A0.ca, .slice A0.pw a0.wa.length A0.cw, .map (some A0.mg), .bool a1.bg, .bool a1.ck, .bool a1.wt, .string (a1.fd), .slice A1.pa a1.al.length A1.ca, .slice A1.pw a1.wa.length A1.cw, .map (some A1.mg)]), (15, .int .i64 0), (30, .pointer (some ⟨rr30, 0, none⟩))] ⟨rfl, rfl, rfl, rfl, rfl, rfl, rfl, trivial⟩ ?_
 refine w_s ?_
 refine l_of (s_next H38 8 (wt0 rfl) rfl rfl rfl rfl rfl (fun hnil48 => ?_) (fun p39 remx40 wx41 hp42 hok43 hN44 hmem45 hlen46 Hx47 => ?_))
 ·
  subst hnil48
  have H50 := Mp_congr (k0 := 0) ((H38.unR (k0 := 8) rfl).takes [0, 8, 1, 2, 3, 4, 5, 6, 7, 9, 10, 11, 12] (by decide)) rfl (fun x hx => hM36 x hx (fun ha => by cases ha))
  have H49 : S wq37 [Mp chK Value.bool chOk mg25 a0.go, goI A0 a0, Rw 49 3 p17 a0.wa.length c18 (chV a0.wa), Rw 3 1 p13 a0.al.length c14 (zV a0.al), Ob g6 (.cells #[.bool a0.bg, .bool a0.ck, .bool a0.wt, .string (a0.fd), .slice p13 a0.al.length c14, .slice p17 a0.wa.length c18, .map (some A0.mg)] 54 (0, 0)), Ob g1 (.cells #[.int .i64 (c.n), .int .i64 (c.pi), .int .i64 (c.la), .int .i64 (c.qu), .bool c.ft, .bool a0.bg, .bool a0.ck, .bool a0.wt, .string (a0.fd), .slice A0.pa a0.al.length A0.ca, .slice A0.pw a0.wa.length A0.cw, .map (some A0.mg), .bool a1.bg, .bool a1.ck, .bool a1.wt, .string (a1.fd), .slice A1.pa a1.al.length A1.ca, .slice A1.pw a1.wa.length A1.cw, .map (some A1.mg)] 57 (0, 0)), Ob sg (.cells #[.int .i64 (c.n), .int .i64 (c.pi), .int .i64 (c.la), .int .i64 (c.qu), .bool c.ft, .bool a0.bg, .bool a0.ck, .bool a0.wt, .string (a0.fd), .slice A0.pa a0.al.length A0.ca, .slice A0.pw a0.wa.length A0.cw, .map (some A0.mg), .bool a1.bg, .bool a1.ck, .bool a1.wt, .string (a1.fd), .slice A1.pa a1.al.length A1.ca, .slice A1.pw a1.wa.length A1.cw, .map (some A1.mg)] 57 (0, 0)), alI A0 a0, waI A0 a0, alI A1 a1, waI A1 a1, goI A1 a1, Old w (fps [Ob sg (.cells #[.int .i64 (c.n), .int .i64 (c.pi), .int .i64 (c.la), .int .i64 (c.qu), .bool c.ft, .bool a0.bg, .bool a0.ck, .bool a0.wt, .string (a0.fd), .slice A0.pa a0.al.length A0.ca, .slice A0.pw a0.wa.length A0.cw, .map (some A0.mg), .bool a1.bg, .bool a1.ck, .bool a1.wt, .string (a1.fd), .slice A1.pa a1.al.length A1.ca, .slice A1.pw a1.wa.length A1.cw, .map (some A1.mg)] 57 (0, 0)), alI A0 a0, waI A0 a0, goI A0 a0, alI A1 a1, waI A1 a1, goI A1 a1])] := H50
  refine w_v xe ?_
  refine w_e ?_
  refine g_seq ?_
  refine g_cond_f rfl rfl ?_
  refine g_exit ?_
  refine g_then_exit ?_
  refine g_then_exit ?_
  refine g_in_hit ?_
  refine g_then ?_
  refine w_s ?_
  refine w_r2 ?_
  refine l_of (w_st #[.bool a0.bg, .bool a0.ck, .bool a0.wt, .string (a0.fd), .slice p13 a0.al.length c14, .slice p17 a0.wa.length c18, .map (some mg25)] H49 4 ?_)
  intro wq51 H52
  refine w_e ?_
  refine g_region ?_
  refine w_m ?_
  refine w_v (v := .agg #[.bool a0.bg, .bool a0.ck, .bool a0.wt, .string (a0.fd), .slice p13 a0.al.length c14, .slice p17 a0.wa.length c18, .map (some mg25)]) (x_loadA H52 4 rfl rfl Try.underlying54 rfl sz54 rfl rfl rfl) ?_
  refine w_f 5 ?_
  refine w_v (v := .pointer (some ⟨g1, 5, none⟩)) (x_indexAddrA 0 rfl rfl rfl Try.underlying55 sz54 (by omega) (off' := 5) rfl) ?_
  refine l_of (w_st #[.int .i64 (c.n), .int .i64 (c.pi), .int .i64 (c.la), .int .i64 (c.qu), .bool c.ft, .bool a0.bg, .bool a0.ck, .bool a0.wt, .string (a0.fd), .slice p13 a0.al.length c14, .slice p17 a0.wa.length c18, .map (some mg25), .bool a1.bg, .bool a1.ck, .bool a1.wt, .string (a1.fd), .slice A1.pa a1.al.length A1.ca, .slice A1.pw a1.wa.length A1.cw, .map (some A1.mg)] H52 5 ?_)
  intro wq53 H54
  refine g_nil ?_
  refine g_in ?_
  refine g_then ?_
  refine g_weak [(3, .pointer (some ⟨g1, 0, none⟩)), (14, .agg #[.bool a0.bg, .bool a0.ck, .bool a0.wt, .string (a0.fd), .slice A0.pa a0.al.length A0.ca, .slice A0.pw a0.wa.length A0.cw, .map (some A0.mg), .bool a1.bg, .bool a1.ck, .bool a1.wt, .string (a1.fd), .slice A1.pa a1.al.length A1.ca, .slice A1.pw a1.wa.length A1.cw, .map (some A1.mg)]), (15, .int .i64 0)] ⟨rfl, rfl, rfl, trivial⟩ ?_
  refine g_region ?_
  refine w_b (v := .int .i64 1) (hb := (b_add (r := 1) (by decide))) ?_
  refine w_m ?_
  refine w_e ?_
  refine g_roundU ?_
  refine w_s ?_
  refine w_b ?_
  refine w_e ?_
  refine g_seq ?_
  refine g_cond_t rfl (by decide) ?_
  refine g_skip ?_
  refine g_then ?_
  refine g_seq ?_
  refine g_block ?_
  refine w_s ?_
  refine w_m ?_
  refine w_v (v := .agg #[.bool a1.bg, .bool a1.ck, .bool a1.wt, .string (a1.fd), .slice A1.pa a1.al.length A1.ca, .slice A1.pw a1.wa.length A1.cw, .map (some A1.mg)]) (x_indexAgg 1 rfl rfl rfl Try.underlying55 sz54 Try.underlying54 rfl ⟨by decide, by decide⟩ rfl) ?_
  refine l_of (s_alloc H54 (wt0 rfl) rfl rfl rfl ze54 ?_)
  intro g55 wq56 H57
  refine w_a ?_
  refine l_of (w_st #[.bool a1.bg, .bool a1.ck, .bool a1.wt, .string (a1.fd), .slice A1.pa a1.al.length A1.ca, .slice A1.pw a1.wa.length A1.cw, .map (some A1.mg)] H57 0 ?_)
  intro wq58 H59
  refine w_e ?_
  refine g_seq ?_
  refine g_any [(3, .pointer (some ⟨g1, 0, none⟩)), (4, .int .i64 1), (5, .pointer (some ⟨g55, 0, none⟩)), (14, .agg #[.bool a0.bg, .bool a0.ck, .bool a0.wt, .string (a0.fd), .slice A0.pa a0.al.length A0.ca, .slice A0.pw a0.wa.length A0.cw, .map (some A0.mg), .bool a1.bg, .bool a1.ck, .bool a1.wt, .string (a1.fd), .slice A1.pa a1.al.length A1.ca, .slice A1.pw a1.wa.length A1.cw, .map (some A1.mg)]), (15, .int .i64 1), (16, .bool (decide ((1 : Int) < 2))), (17, .int .i64 1), (18, .agg #[.bool a1.bg, .bool a1.ck, .bool a1.wt, .string (a1.fd), .slice A1.pa a1.al.length A1.ca, .slice A1.pw a1.wa.length A1.cw, .map (some A1.mg)]), (43, .int .i64 1)] (fun wx => S wx [Ob g55 (.cells #[.bool a1.bg, .bool a1.ck, .bool a1.wt, .string (a1.fd), .slice A1.pa a1.al.length A1.ca, .slice A1.pw a1.wa.length A1.cw, .map (some A1.mg)] 54 (0, 0))]) [7, 8, 9] (by kernel_rfl) H59 (fun wq60 H61 => ?_)
  have cm3 := H61.mask [true, false, false, false, false, false, false, false, false, false, false, false, false, false]
  refine w_t 0 rfl cm3 (fun _ _ => xf 4) ?_
  refine w_t 1 rfl cm3 (fun _ H => xl H 0) ?_
  refine w_t 3 rfl cm3 (fun _ _ => xf 5) ?_
  refine w_t 4 rfl cm3 (fun _ H => xl H 0) ?_
  refine a_one (i := 2) (by kernel_rfl) rfl ?_
  refine s_call (wt0 rfl) (x_call' rfl rfl cl25) (clone_i a1.al A1.pa A1.ca (by omega) _ (H61.rwReads (k := 10) rfl)) ?_
  rintro _ wq64 ⟨p62, c63, rfl, H65⟩
  replace H65 : S wq64 [Rw 3 1 p62 a1.al.length c63 (zV a1.al), Ob g55 (.cells #[.bool a1.bg, .bool a1.ck, .bool a1.wt, .string (a1.fd), .slice A1.pa a1.al.length A1.ca, .slice A1.pw a1.wa.length A1.cw, .map (some A1.mg)] 54 (0, 0)), Mp chK Value.bool chOk mg25 a0.go, goI A0 a0, Rw 49 3 p17 a0.wa.length c18 (chV a0.wa), Rw 3 1 p13 a0.al.length c14 (zV a0.al), Ob g6 (.cells #[.bool a0.bg, .bool a0.ck, .bool a0.wt, .string (a0.fd), .slice p13 a0.al.length c14, .slice p17 a0.wa.length c18, .map (some mg25)] 54 (0, 0)), Ob g1 (.cells #[.int .i64 (c.n), .int .i64 (c.pi), .int .i64 (c.la), .int .i64 (c.qu), .bool c.ft, .bool a0.bg, .bool a0.ck, .bool a0.wt, .string (a0.fd), .slice p13 a0.al.length c14, .slice p17 a0.wa.length c18, .map (some mg25), .bool a1.bg, .bool a1.ck, .bool a1.wt, .string (a1.fd), .slice A1.pa a1.al.length A1.ca, .slice A1.pw a1.wa.length A1.cw, .map (some A1.mg)] 57 (0, 0)), Ob sg (.cells #[.int .i64 (c.n), .int .i64 (c.pi), .int .i64 (c.la), .int .i64 (c.qu), .bool c.ft, .bool a0.bg, .bool a0.ck, .bool a0.wt, .string (a0.fd), .slice A0.pa a0.al.length A0.ca, .slice A0.pw a0.wa.length A0.cw, .map (some A0.mg), .bool a1.bg, .bool a1.ck, .bool a1.wt, .string (a1.fd), .slice A1.pa a1.al.length A1.ca, .slice A1.pw a1.wa.length A1.cw, .map (some A1.mg)] 57 (0, 0)), alI A0 a0, waI A0 a0, alI A1 a1, waI A1 a1, goI A1 a1, Old w (fps [Ob sg (.cells #[.int .i64 (c.n), .int .i64 (c.pi), .int .i64 (c.la), .int .i64 (c.qu), .bool c.ft, .bool a0.bg, .bool a0.ck, .bool a0.wt, .string (a0.fd), .slice A0.pa a0.al.length A0.ca, .slice A0.pw a0.wa.length A0.cw, .map (some A0.mg), .bool a1.bg, .bool a1.ck, .bool a1.wt, .string (a1.fd), .slice A1.pa a1.al.length A1.ca, .slice A1.pw a1.wa.length A1.cw, .map (some A1.mg)] 57 (0, 0)), alI A0 a0, waI A0 a0, goI A0 a0, alI A1 a1, waI A1 a1, goI A1 a1])] := H61.absorb (new := [Rw 3 1 p62 a1.al.length c63 (zV a1.al)]) H65
  refine b_ret rfl rfl ?_
  have cm4 := H65.mask [false, true, false, false, false, false, false, false, false, false, false, false, false, false, false]
  refine a_k cm4 ?_
  refine w_t 6 rfl cm4 (fun _ _ => xf 4) ?_
  refine a_one (i := 5) (by kernel_rfl) rfl ?_
  refine s_call (wt0 rfl) (x_call' rfl rfl cl22) (clone_c a1.wa A1.pw A1.cw (by omega) _ (H65.rwReads (k := 12) rfl)) ?_
  rintro _ wq68 ⟨p66, c67, rfl, H69⟩
  replace H69 : S wq68 [Rw 49 3 p66 a1.wa.length c67 (chV a1.wa), Rw 3 1 p62 a1.al.length c63 (zV a1.al), Ob g55 (.cells #[.bool a1.bg, .bool a1.ck, .bool a1.wt, .string (a1.fd), .slice A1.pa a1.al.length A1.ca, .slice A1.pw a1.wa.length A1.cw, .map (some A1.mg)] 54 (0, 0)), Mp chK Value.bool chOk mg25 a0.go, goI A0 a0, Rw 49 3 p17 a0.wa.length c18 (chV a0.wa), Rw 3 1 p13 a0.al.length c14 (zV a0.al), Ob g6 (.cells #[.bool a0.bg, .bool a0.ck, .bool a0.wt, .string (a0.fd), .slice p13 a0.al.length c14, .slice p17 a0.wa.length c18, .map (some mg25)] 54 (0, 0)), Ob g1 (.cells #[.int .i64 (c.n), .int .i64 (c.pi), .int .i64 (c.la), .int .i64 (c.qu), .bool c.ft, .bool a0.bg, .bool a0.ck, .bool a0.wt, .string (a0.fd), .slice p13 a0.al.length c14, .slice p17 a0.wa.length c18, .map (some mg25), .bool a1.bg, .bool a1.ck, .bool a1.wt, .string (a1.fd), .slice A1.pa a1.al.length A1.ca, .slice A1.pw a1.wa.length A1.cw, .map (some A1.mg)] 57 (0, 0)), Ob sg (.cells #[.int .i64 (c.n), .int .i64 (c.pi), .int .i64 (c.la), .int .i64 (c.qu), .bool c.ft, .bool a0.bg, .bool a0.ck, .bool a0.wt, .string (a0.fd), .slice A0.pa a0.al.length A0.ca, .slice A0.pw a0.wa.length A0.cw, .map (some A0.mg), .bool a1.bg, .bool a1.ck, .bool a1.wt, .string (a1.fd), .slice A1.pa a1.al.length A1.ca, .slice A1.pw a1.wa.length A1.cw, .map (some A1.mg)] 57 (0, 0)), alI A0 a0, waI A0 a0, alI A1 a1, waI A1 a1, goI A1 a1, Old w (fps [Ob sg (.cells #[.int .i64 (c.n), .int .i64 (c.pi), .int .i64 (c.la), .int .i64 (c.qu), .bool c.ft, .bool a0.bg, .bool a0.ck, .bool a0.wt, .string (a0.fd), .slice A0.pa a0.al.length A0.ca, .slice A0.pw a0.wa.length A0.cw, .map (some A0.mg), .bool a1.bg, .bool a1.ck, .bool a1.wt, .string (a1.fd), .slice A1.pa a1.al.length A1.ca, .slice A1.pw a1.wa.length A1.cw, .map (some A1.mg)] 57 (0, 0)), alI A0 a0, waI A0 a0, goI A0 a0, alI A1 a1, waI A1 a1, goI A1 a1])] := H65.absorb (new := [Rw 49 3 p66 a1.wa.length c67 (chV a1.wa)]) H69
  refine b_ret rfl rfl ?_
  refine a_k (H69.mask [false, false, true, false, false, false, false, false, false, false, false, false, false, false, false, false]) ?_
  refine a_one (i := 7) (by kernel_rfl) rfl ?_
  refine w_st #[.bool a1.bg, .bool a1.ck, .bool a1.wt, .string (a1.fd), .slice p62 a1.al.length c63, .slice A1.pw a1.wa.length A1.cw, .map (some A1.mg)] H69 2 ?_
  intro wq70 H71
  refine a_kt rfl ?_
  refine a_pure (v := .pointer (some ⟨g55, 5, none⟩)) 8 rfl (wt0 rfl) rfl rfl rfl (by kernel_rfl) (by kernel_rfl) (by kernel_rfl) (.inl rfl) (fun wx => x_fieldAddr rfl rfl fo54_5 rfl) ?_
  refine a_one (i := 9) (by kernel_rfl) rfl ?_
  refine w_st #[.bool a1.bg, .bool a1.ck, .bool a1.wt, .string (a1.fd), .slice p62 a1.al.length c63, .slice p66 a1.wa.length c67, .map (some A1.mg)] H71 2 ?_
  intro wq72 H73
  refine a_kt rfl ?_
  refine a_done (by kernel_rfl) ?_
  refine g_then ?_
  refine g_weak [(3, .pointer (some ⟨g1, 0, none⟩)), (4, .int .i64 1), (5, .pointer (some ⟨g55, 0, none⟩)), (14, .agg #[.bool a0.bg, .bool a0.ck, .bool a0.wt, .string (a0.fd), .slice A0.pa a0.al.length A0.ca, .slice A0.pw a0.wa.length A0.cw, .map (some A0.mg), .bool a1.bg, .bool a1.ck, .bool a1.wt, .string (a1.fd), .slice A1.pa a1.al.length A1.ca, .slice A1.pw a1.wa.length A1.cw, .map (some A1.mg)]), (15, .int .i64 1)] ⟨rfl, rfl, rfl, rfl, rfl, trivial⟩ ?_
  refine w_s ?_
  refine l_of (s_makeMap (α := Bool) chK Value.bool chOk H73 (wt0 rfl) rfl rfl rfl ?_)
  intro mg74 wq75 H76
  refine w_a ?_
  refine w_e ?_
  refine g_seq ?_
  refine w_s ?_
  refine w_f 6 ?_
  refine w_1 H76 3 ?_
  refine l_of (s_range goneT H76 15 (wt0 rfl) rfl rfl rfl rfl rfl ?_)
  intro rr79 rem80 wq77 hrem81 H78
  refine w_e ?_
  refine g_block ?_
  refine g_loop (ι := List (Ch × Bool) × (Ch → Option Bool) × Option (Ch × Bool)) (fun (rem82, M83, cur84) => [(3, .pointer (some ⟨g1, 0, none⟩)), (4, .int .i64 1), (5, .pointer (some ⟨g55, 0, none⟩)), (6, .map (some mg74)), (14, .agg #[.bool a0.bg, .bool a0.ck, .bool a0.wt, .string (a0.fd), .slice A0.pa a0.al.length A0.ca, .slice A0.pw a0.wa.length A0.cw, .map (some A0.mg), .bool a1.bg, .bool a1.ck, .bool a1.wt, .string (a1.fd), .slice A1.pa a1.al.length A1.ca, .slice A1.pw a1.wa.length A1.cw, .map (some A1.mg)]), (15, .int .i64 1), (30, .pointer (some ⟨rr79, 0, none⟩))]) (fun (rem82, M83, cur84) wx => (∀ x, chOk x → (x, true) ∉ rem82 → M83 x = a1.go x) ∧ S wx [Mp chK Value.bool chOk mg74 M83, Rw 49 3 p66 a1.wa.length c67 (chV a1.wa), Rw 3 1 p62 a1.al.length c63 (zV a1.al), Ob g55 (.cells #[.bool a1.bg, .bool a1.ck, .bool a1.wt, .string (a1.fd), .slice p62 a1.al.length c63, .slice p66 a1.wa.length c67, .map (some A1.mg)] 54 (0, 0)), Mp chK Value.bool chOk mg25 a0.go, goI A0 a0, Rw 49 3 p17 a0.wa.length c18 (chV a0.wa), Rw 3 1 p13 a0.al.length c14 (zV a0.al), Ob g6 (.cells #[.bool a0.bg, .bool a0.ck, .bool a0.wt, .string (a0.fd), .slice p13 a0.al.length c14, .slice p17 a0.wa.length c18, .map (some mg25)] 54 (0, 0)), Ob g1 (.cells #[.int .i64 (c.n), .int .i64 (c.pi), .int .i64 (c.la), .int .i64 (c.qu), .bool c.ft, .bool a0.bg, .bool a0.ck, .bool a0.wt, .string (a0.fd), .slice p13 a0.al.length c14, .slice p17 a0.wa.length c18, .map (some mg25), .bool a1.bg, .bool a1.ck, .bool a1.wt, .string (a1.fd), .slice A1.pa a1.al.length A1.ca, .slice A1.pw a1.wa.length A1.cw, .map (some A1.mg)] 57 (0, 0)), Ob sg (.cells #[.int .i64 (c.n), .int .i64 (c.pi), .int .i64 (c.la), .int .i64 (c.qu), .bool c.ft, .bool a0.bg, .bool a0.ck, .bool a0.wt, .string (a0.fd), .slice A0.pa a0.al.length A0.ca, .slice A0.pw a0.wa.length A0.cw, .map (some A0.mg), .bool a1.bg, .bool a1.ck, .bool a1.wt, .string (a1.fd), .slice A1.pa a1.al.length A1.ca, .slice A1.pw a1.wa.length A1.cw, .map (some A1.mg)] 57 (0, 0)), alI A0 a0, waI A0 a0, alI A1 a1, waI A1 a1, MpR chK Value.bool chOk A1.mg rr79 (a1.go) (rem82) (cur84), Old w (fps [Ob sg (.cells #[.int .i64 (c.n), .int .i64 (c.pi), .int .i64 (c.la), .int .i64 (c.qu), .bool c.ft, .bool a0.bg, .bool a0.ck, .bool a0.wt, .string (a0.fd), .slice A0.pa a0.al.length A0.ca, .slice A0.pw a0.wa.length A0.cw, .map (some A0.mg), .bool a1.bg, .bool a1.ck, .bool a1.wt, .string (a1.fd), .slice A1.pa a1.al.length A1.ca, .slice A1.pw a1.wa.length A1.cw, .map (some A1.mg)] 57 (0, 0)), alI A0 a0, waI A0 a0, goI A0 a0, alI A1 a1, waI A1 a1, goI A1 a1])]) (fun (rem82, M83, cur84) => rem82.length) (rem80, (fun _ => none), none) ⟨rfl, rfl, rfl, rfl, rfl, rfl, rfl, trivial⟩ ⟨copy_init hg1 hrem81, (H78.takes [0, 1, 2, 3, 4, 5, 6, 7, 8, 9, 10, 11, 12, 13, 14, 15, 16] (by decide))⟩ ?_
  rintro ⟨rem82, M83, cur84⟩ wq86 ⟨hM85, H87⟩
  refine g_weak [(3, .pointer (some ⟨g1, 0, none⟩)), (4, .int .i64 1), (5, .pointer (some ⟨g55, 0, none⟩)), (6, .map (some mg74)), (14, .agg #[.bool a0.bg, .bool a0.ck, .bool a0.wt, .string (a0.fd), .slice A0.pa a0.al.length A0.ca, .slice A0.pw a0.wa.length A0.cw, .map (some A0.mg), .bool a1.bg, .bool a1.ck, .bool a1.wt, .string (a1.fd), .slice A1.pa a1.al.length A1.ca, .slice A1.pw a1.wa.length A1.cw, .map (some A1.mg)]), (15, .int .i64 1), (30, .pointer (some ⟨rr79, 0, none⟩))] ⟨rfl, rfl, rfl, rfl, rfl, rfl, rfl, trivial⟩ ?_
  refine w_s ?_
  refine l_of (s_next H87 15 (wt0 rfl) rfl rfl rfl rfl rfl (fun hnil97 => ?_) (fun p88 remx89 wx90 hp91 hok92 hN93 hmem94 hlen95 Hx96 => ?_))
  ·
   subst hnil97
   have H99 := Mp_congr (k0 := 0) ((H87.unR (k0 := 15) rfl).takes [0, 15, 1, 2, 3, 4, 5, 6, 7, 8, 9, 10, 11, 12, 13, 14, 16] (by decide)) rfl (fun x hx => hM85 x hx (fun ha => by cases ha))
   have H98 : S wq86 [Mp chK Value.bool chOk mg74 a1.go, goI A1 a1, Rw 49 3 p66 a1.wa.length c67 (chV a1.wa), Rw 3 1 p62 a1.al.length c63 (zV a1.al), Ob g55 (.cells #[.bool a1.bg, .bool a1.ck, .bool a1.wt, .string (a1.fd), .slice p62 a1.al.length c63, .slice p66 a1.wa.length c67, .map (some A1.mg)] 54 (0, 0)), Mp chK Value.bool chOk mg25 a0.go, goI A0 a0, Rw 49 3 p17 a0.wa.length c18 (chV a0.wa), Rw 3 1 p13 a0.al.length c14 (zV a0.al), Ob g6 (.cells #[.bool a0.bg, .bool a0.ck, .bool a0.wt, .string (a0.fd), .slice p13 a0.al.length c14, .slice p17 a0.wa.length c18, .map (some mg25)] 54 (0, 0)), Ob g1 (.cells #[.int .i64 (c.n), .int .i64 (c.pi), .int .i64 (c.la), .int .i64 (c.qu), .bool c.ft, .bool a0.bg, .bool a0.ck, .bool a0.wt, .string (a0.fd), .slice p13 a0.al.length c14, .slice p17 a0.wa.length c18, .map (some mg25), .bool a1.bg, .bool a1.ck, .bool a1.wt, .string (a1.fd), .slice A1.pa a1.al.length A1.ca, .slice A1.pw a1.wa.length A1.cw, .map (some A1.mg)] 57 (0, 0)), Ob sg (.cells #[.int .i64 (c.n), .int .i64 (c.pi), .int .i64 (c.la), .int .i64 (c.qu), .bool c.ft, .bool a0.bg, .bool a0.ck, .bool a0.wt, .string (a0.fd), .slice A0.pa a0.al.length A0.ca, .slice A0.pw a0.wa.length A0.cw, .map (some A0.mg), .bool a1.bg, .bool a1.ck, .bool a1.wt, .string (a1.fd), .slice A1.pa a1.al.length A1.ca, .slice A1.pw a1.wa.length A1.cw, .map (some A1.mg)] 57 (0, 0)), alI A0 a0, waI A0 a0, alI A1 a1, waI A1 a1, Old w (fps [Ob sg (.cells #[.int .i64 (c.n), .int .i64 (c.pi), .int .i64 (c.la), .int .i64 (c.qu), .bool c.ft, .bool a0.bg, .bool a0.ck, .bool a0.wt, .string (a0.fd), .slice A0.pa a0.al.length A0.ca, .slice A0.pw a0.wa.length A0.cw, .map (some A0.mg), .bool a1.bg, .bool a1.ck, .bool a1.wt, .string (a1.fd), .slice A1.pa a1.al.length A1.ca, .slice A1.pw a1.wa.length A1.cw, .map (some A1.mg)] 57 (0, 0)), alI A0 a0, waI A0 a0, goI A0 a0, alI A1 a1, waI A1 a1, goI A1 a1])] := H99
   refine w_v xe ?_
   refine w_e ?_
   refine g_seq ?_
   refine g_cond_f rfl rfl ?_
   refine g_exit ?_
   refine g_then_exit ?_
   refine g_then_exit ?_
   refine g_in_hit ?_
   refine g_then ?_
   refine w_s ?_
   refine w_r2 ?_
   refine l_of (w_st #[.bool a1.bg, .bool a1.ck, .bool a1.wt, .string (a1.fd), .slice p62 a1.al.length c63, .slice p66 a1.wa.length c67, .map (some mg74)] H98 4 ?_)
   intro wq100 H101
   refine w_e ?_
   refine g_region ?_
   refine w_m ?_
   refine w_v (v := .agg #[.bool a1.bg, .bool a1.ck, .bool a1.wt, .string (a1.fd), .slice p62 a1.al.length c63, .slice p66 a1.wa.length c67, .map (some mg74)]) (x_loadA H101 4 rfl rfl Try.underlying54 rfl sz54 rfl rfl rfl) ?_
   refine w_f 5 ?_
   refine w_v (v := .pointer (some ⟨g1, 12, none⟩)) (x_indexAddrA 1 rfl rfl rfl Try.underlying55 sz54 (by omega) (off' := 12) rfl) ?_
   refine l_of (w_st #[.int .i64 (c.n), .int .i64 (c.pi), .int .i64 (c.la), .int .i64 (c.qu), .bool c.ft, .bool a0.bg, .bool a0.ck, .bool a0.wt, .string (a0.fd), .slice p13 a0.al.length c14, .slice p17 a0.wa.length c18, .map (some mg25), .bool a1.bg, .bool a1.ck, .bool a1.wt, .string (a1.fd), .slice p62 a1.al.length c63, .slice p66 a1.wa.length c67, .map (some mg74)] H101 10 ?_)
   intro wq102 H103
   refine g_nil ?_
   refine g_in ?_
   refine g_then ?_
   refine g_weak [(3, .pointer (some ⟨g1, 0, none⟩)), (14, .agg #[.bool a0.bg, .bool a0.ck, .bool a0.wt, .string (a0.fd), .slice A0.pa a0.al.length A0.ca, .slice A0.pw a0.wa.length A0.cw, .map (some A0.mg), .bool a1.bg, .bool a1.ck, .bool a1.wt, .string (a1.fd), .slice A1.pa a1.al.length A1.ca, .slice A1.pw a1.wa.length A1.cw, .map (some A1.mg)]), (15, .int .i64 1)] ⟨rfl, rfl, rfl, trivial⟩ ?_
   refine g_region ?_
   refine w_b (v := .int .i64 2) (hb := (b_add (r := 2) (by decide))) ?_
   refine w_m ?_
   refine w_e ?_
   refine g_roundU ?_
   refine w_s ?_
   refine w_b ?_
   refine w_e ?_
   refine g_seq ?_
   refine g_cond_f rfl (by decide) ?_
   refine g_exit ?_
   refine g_then_exit ?_
   refine g_then_exit ?_
   refine g_in_hit ?_
   refine g_then ?_
   refine w_s ?_
   refine w_a ?_
   refine w_e ?_
   refine g_ret ?_
   refine fin_ret [.tmp 2] [.pointer (some ⟨g1, 0, none⟩)] rfl ⟨rfl, trivial⟩ ?_
   exact ⟨g1, ⟨p13, c14, p17, c18, mg25⟩, ⟨p62, c63, p66, c67, mg74⟩, rfl, (H103.takes [10, 8, 7, 5, 3, 2, 0, 11, 12, 13, 6, 14, 15, 1, 16] (by decide))⟩
  ·
   have H104 : S wx90 [Mp chK Value.bool chOk mg74 M83, Rw 49 3 p66 a1.wa.length c67 (chV a1.wa), Rw 3 1 p62 a1.al.length c63 (zV a1.al), Ob g55 (.cells #[.bool a1.bg, .bool a1.ck, .bool a1.wt, .string (a1.fd), .slice p62 a1.al.length c63, .slice p66 a1.wa.length c67, .map (some A1.mg)] 54 (0, 0)), Mp chK Value.bool chOk mg25 a0.go, goI A0 a0, Rw 49 3 p17 a0.wa.length c18 (chV a0.wa), Rw 3 1 p13 a0.al.length c14 (zV a0.al), Ob g6 (.cells #[.bool a0.bg, .bool a0.ck, .bool a0.wt, .string (a0.fd), .slice p13 a0.al.length c14, .slice p17 a0.wa.length c18, .map (some mg25)] 54 (0, 0)), Ob g1 (.cells #[.int .i64 (c.n), .int .i64 (c.pi), .int .i64 (c.la), .int .i64 (c.qu), .bool c.ft, .bool a0.bg, .bool a0.ck, .bool a0.wt, .string (a0.fd), .slice p13 a0.al.length c14, .slice p17 a0.wa.length c18, .map (some mg25), .bool a1.bg, .bool a1.ck, .bool a1.wt, .string (a1.fd), .slice A1.pa a1.al.length A1.ca, .slice A1.pw a1.wa.length A1.cw, .map (some A1.mg)] 57 (0, 0)), Ob sg (.cells #[.int .i64 (c.n), .int .i64 (c.pi), .int .i64 (c.la), .int .i64 (c.qu), .bool c.ft, .bool a0.bg, .bool a0.ck, .bool a0.wt, .string (a0.fd), .slice A0.pa a0.al.length A0.ca, .slice A0.pw a0.wa.length A0.cw, .map (some A0.mg), .bool a1.bg, .bool a1.ck, .bool a1.wt, .string (a1.fd), .slice A1.pa a1.al.length A1.ca, .slice A1.pw a1.wa.length A1.cw, .map (some A1.mg)] 57 (0, 0)), alI A0 a0, waI A0 a0, alI A1 a1, waI A1 a1, MpR chK Value.bool chOk A1.mg rr79 (a1.go) (remx89) (some p88), Old w (fps [Ob sg (.cells #[.int .i64 (c.n), .int .i64 (c.pi), .int .i64 (c.la), .int .i64 (c.qu), .bool c.ft, .bool a0.bg, .bool a0.ck, .bool a0.wt, .string (a0.fd), .slice A0.pa a0.al.length A0.ca, .slice A0.pw a0.wa.length A0.cw, .map (some A0.mg), .bool a1.bg, .bool a1.ck, .bool a1.wt, .string (a1.fd), .slice A1.pa a1.al.length A1.ca, .slice A1.pw a1.wa.length A1.cw, .map (some A1.mg)] 57 (0, 0)), alI A0 a0, waI A0 a0, goI A0 a0, alI A1 a1, waI A1 a1, goI A1 a1])] := Hx96
   refine w_v xe ?_
   refine w_e ?_
   refine g_seq ?_
   refine g_cond_t rfl rfl ?_
   refine g_skip ?_
   refine g_then ?_
   refine g_block ?_
   refine w_s ?_
   refine w_v (v := .tuple #[.agg #[.int .i64 (p88.1.p), .int .i64 (p88.1.b), .int .i64 (p88.1.n)], .bool p88.2]) (x_entry (k := 0) (t := 0) (e0 := 0) H104 15 rfl rfl rfl) ?_
   refine w_v xe ?_
   refine l_of (s_alloc H104 (wt0 rfl) rfl rfl rfl ze49 ?_)
   intro g105 wq106 H107
   refine l_of (w_st #[.int .i64 (p88.1.p), .int .i64 (p88.1.b), .int .i64 (p88.1.n)] H107 0 ?_)
   intro wq108 H109
   refine w_e ?_
   refine g_region ?_
   refine w_m ?_
   refine w_v (v := .agg #[.int .i64 (p88.1.p), .int .i64 (p88.1.b), .int .i64 (p88.1.n)]) (x_loadA H109 0 rfl rfl Try.underlying49 rfl sz49 rfl rfl rfl) ?_
   refine l_of (s_mapUpdate (x := p88.1) (a := true) goneT H109 1 (wt0 rfl) rfl rfl rfl rfl rfl rfl hok92 ?_)
   intro wq110 H111
   refine g_nil ?_
   refine g_in ?_
   refine g_then ?_
   refine g_round (i := (rem82, M83, cur84)) (remx89, (upM M83 p88.1 true), (some p88)) ?_ ?_ ?_
   · exact ⟨rfl, rfl, rfl, rfl, rfl, rfl, rfl, trivial⟩
   · exact ⟨(copy_next hg1 hN93 hM85 hmem94), (H111.takes [1, 2, 3, 4, 5, 6, 7, 8, 9, 10, 11, 12, 13, 14, 15, 16, 17] (by decide))⟩
   · exact hlen95
 ·
  have H112 : S wx41 [Mp chK Value.bool chOk mg25 M34, Rw 49 3 p17 a0.wa.length c18 (chV a0.wa), Rw 3 1 p13 a0.al.length c14 (zV a0.al), Ob g6 (.cells #[.bool a0.bg, .bool a0.ck, .bool a0.wt, .string (a0.fd), .slice p13 a0.al.length c14, .slice p17 a0.wa.length c18, .map (some A0.mg)] 54 (0, 0)), Ob g1 (.cells #[.int .i64 (c.n), .int .i64 (c.pi), .int .i64 (c.la), .int .i64 (c.qu), .bool c.ft, .bool a0.bg, .bool a0.ck, .bool a0.wt, .string (a0.fd), .slice A0.pa a0.al.length A0.ca, .slice A0.pw a0.wa.length A0.cw, .map (some A0.mg), .bool a1.bg, .bool a1.ck, .bool a1.wt, .string (a1.fd), .slice A1.pa a1.al.length A1.ca, .slice A1.pw a1.wa.length A1.cw, .map (some A1.mg)] 57 (0, 0)), Ob sg (.cells #[.int .i64 (c.n), .int .i64 (c.pi), .int .i64 (c.la), .int .i64 (c.qu), .bool c.ft, .bool a0.bg, .bool a0.ck, .bool a0.wt, .string (a0.fd), .slice A0.pa a0.al.length A0.ca, .slice A0.pw a0.wa.length A0.cw, .map (some A0.mg), .bool a1.bg, .bool a1.ck, .bool a1.wt, .string (a1.fd), .slice A1.pa a1.al.length A1.ca, .slice A1.pw a1.wa.length A1.cw, .map (some A1.mg)] 57 (0, 0)), alI A0 a0, waI A0 a0, MpR chK Value.bool chOk A0.mg rr30 (a0.go) (remx40) (some p39), alI A1 a1, waI A1 a1, goI A1 a1, Old w (fps [Ob sg (.cells #[.int .i64 (c.n), .int .i64 (c.pi), .int .i64 (c.la), .int .i64 (c.qu), .bool c.ft, .bool a0.bg, .bool a0.ck, .bool a0.wt, .string (a0.fd), .slice A0.pa a0.al.length A0.ca, .slice A0.pw a0.wa.length A0.cw, .map (some A0.mg), .bool a1.bg, .bool a1.ck, .bool a1.wt, .string (a1.fd), .slice A1.pa a1.al.length A1.ca, .slice A1.pw a1.wa.length A1.cw, .map (some A1.mg)] 57 (0, 0)), alI A0 a0, waI A0 a0, goI A0 a0, alI A1 a1, waI A1 a1, goI A1 a1])] := Hx47
  refine w_v xe ?_
  refine w_e ?_
  refine g_seq ?_
  refine g_cond_t rfl rfl ?_
  refine g_skip ?_
  refine g_then ?_
  refine g_block ?_
  refine w_s ?_
  refine w_v (v := .tuple #[.agg #[.int .i64 (p39.1.p), .int .i64 (p39.1.b), .int .i64 (p39.1.n)], .bool p39.2]) (x_entry (k := 0) (t := 0) (e0 := 0) H112 8 rfl rfl rfl) ?_
  refine w_v xe ?_
  refine l_of (s_alloc H112 (wt0 rfl) rfl rfl rfl ze49 ?_)
  intro g113 wq114 H115
  refine l_of (w_st #[.int .i64 (p39.1.p), .int .i64 (p39.1.b), .int .i64 (p39.1.n)] H115 0 ?_)
  intro wq116 H117
  refine w_e ?_
  refine g_region ?_
  refine w_m ?_
  refine w_v (v := .agg #[.int .i64 (p39.1.p), .int .i64 (p39.1.b), .int .i64 (p39.1.n)]) (x_loadA H117 0 rfl rfl Try.underlying49 rfl sz49 rfl rfl rfl) ?_
  refine l_of (s_mapUpdate (x := p39.1) (a := true) goneT H117 1 (wt0 rfl) rfl rfl rfl rfl rfl rfl hok43 ?_)
  intro wq118 H119
  refine g_nil ?_
  refine g_in ?_
  refine g_then ?_
  refine g_round (i := (rem33, M34, cur35)) (remx40, (upM M34 p39.1 true), (some p39)) ?_ ?_ ?_
  · exact ⟨rfl, rfl, rfl, rfl, rfl, rfl, rfl, trivial⟩
  · exact ⟨(copy_next hg0 hN44 hM36 hmem45), (H119.takes [1, 2, 3, 4, 5, 6, 7, 8, 9, 10, 11, 12, 13] (by decide))⟩
  · exact hlen46
theorem fps_perm {L1 L2 : List Item} (h : L1.Perm L2) : fps L1 = fps L2 := by
  funext g
  exact propext ⟨fun ⟨it, h1, h2⟩ => ⟨it, h.mem_iff.1 h1, h2⟩, fun ⟨it, h1, h2⟩ => ⟨it, h.mem_iff.2 h1, h2⟩⟩
theorem copy_o (sg : Nat) (c : Co) (o : Bool) (A B : Ad) (a b : Wy) (hga : Gok a) (hgb : Gok b) (hala : a.al.length ≤ 1099511627776) (hwla : a.wa.length ≤ 1099511627776) (halb : b.al.length ≤ 1099511627776) (hwlb : b.wa.length ≤ 1099511627776) (w : World) (HS : S w [sgI sg c o A B a b, alI A a, waI A a, goI A a, alI B b, waI B b, goI B b]) : Calls Try.prog 29 #[.pointer (some ⟨sg, 0, none⟩)] w fun e w' =>
    ∃ (gq : Nat) (Aq Bq : Ad), e = .returned (.pointer (some ⟨gq, 0, none⟩)) ∧ S w' ([sgI gq c o Aq Bq a b, alI Aq a, waI Aq a, goI Aq a, alI Bq b, waI Bq b, goI Bq b, sgI sg c o A B a b, alI A a, waI A a, goI A a, alI B b, waI B b, goI B b] ++ [olS w sg c o A B a b]) := by
  cases o
  · exact copy_s sg c A B a b hga hgb hala hwla halb hwlb w HS
  · refine (copy_s sg c B A b a hgb hga halb hwlb hala hwla w (HS.takes [0, 4, 5, 6, 1, 2, 3] (by decide))).mono ?_
    rintro e w' ⟨gq, B0, B1, rfl, H⟩
    refine ⟨gq, B1, B0, rfl, ?_⟩
    have hp : ([Ob sg (.cells #[.int .i64 (c.n), .int .i64 (c.pi), .int .i64 (c.la), .int .i64 (c.qu), .bool c.ft, .bool b.bg, .bool b.ck, .bool b.wt, .string (b.fd), .slice B.pa b.al.length B.ca, .slice B.pw b.wa.length B.cw, .map (some B.mg), .bool a.bg, .bool a.ck, .bool a.wt, .string (a.fd), .slice A.pa a.al.length A.ca, .slice A.pw a.wa.length A.cw, .map (some A.mg)] 57 (0, 0)), alI B b, waI B b, goI B b, alI A a, waI A a, goI A a] : List Item).Perm ([sgI sg c true A B a b, alI A a, waI A a, goI A a, alI B b, waI B b, goI B b]) := (List.Perm.append_left [_] (List.perm_append_comm (l₁ := [_, _, _]) (l₂ := [_, _, _])))
    rw [olS, ← fps_perm hp]
    exact H.takes [0, 4, 5, 6, 1, 2, 3, 7, 11, 12, 13, 8, 9, 10, 14] (by decide)
end Go.Proofs.Ytdkfkdekiljcoaa
