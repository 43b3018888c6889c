import Derived.Test.YthfglkkjkpdkpaaGreatDoorLg
set_option linter.unusedSimpArgs false
set_option linter.unusedVariables false
namespace Go.Proofs.YthfglkkjkpdkpaaGreatDoor
open Go.RowKit

theorem cl24 : callable Tryz.prog 24 = true := by kernel_rfl
theorem fo62_0 : foO Tryz.prog 62 0 = some 0 := by kernel_rfl
theorem fo62_2 : foO Tryz.prog 62 2 = some 2 := by kernel_rfl
theorem sz22 : szO Tryz.prog 22 = some 1 := by kernel_rfl
def fillT (slots : Int) (L : List Rv) (x : Rv) : List Rv := if ((L.length : Int) < slots ∧ x.id ∉ L.map Rv.id) then L ++ [x] else L
/-- Those who have places, with such of a list in those that are left. -/
def fillL (slots : Int) (lt : List Rv) (l : List Rv) : List Rv := l.foldl (fillT slots) lt
theorem fill_snoc (slots : Int) (lt l : List Rv) (x : Rv) : fillL slots lt (l ++ [x]) = fillT slots (fillL slots lt l) x := by unfold fillL; rw [List.foldl_append]; rfl
theorem fill_len (slots : Int) (lt : List Rv) : ∀ l : List Rv, (fillL slots lt l).length ≤ lt.length + l.length := fun l => by
  induction l generalizing lt with
  | nil => exact Nat.le_refl _
  | cons x l ih =>
    have h := ih (fillT slots lt x)
    have h2 : (fillT slots lt x).length ≤ lt.length + 1 := by unfold fillT; split <;> simp
    have e : fillL slots lt (x :: l) = fillL slots (fillT slots lt x) l := rfl
    rw [e, List.length_cons]; omega
def TabA (w : World) (X : Item) : Prop := ∀ w', S w' [X, Old w (fps [X])] → PowTab w'
theorem S.tabA {w w0 : World} {L : List Item} {i k : Nat} {X : Item} (h : S w L) (hi : L[i]? = some (Old w0 no)) (hk : L[k]? = some X) (hne : i ≠ k) (ht : PowTab w0) : TabA w X := fun w' h' => by
  have ht2 : PowTab w := h.tab hi ht
  unfold PowTab Lib.TabIs World.var? at *
  cases hg : Tryz.prog.globalNamed "internal/strconv.uint64pow10" with
  | none => simp [hg] at ht
  | some g =>
    simp only [hg, Option.bind_some] at ht ht2 ⊢
    cases ho : w0.heap[g]? with
    | none => rw [ho] at ht; cases ht
    | some ob =>
      have hlt := (Array.getElem?_eq_some_iff.1 ho).1
      have hX : ¬ X.fp g := fun hf => pair_of h.2 hi hk hne g ⟨hlt, fun h => h⟩ hf
      cases ho2 : w.heap[g]? with
      | none => rw [ho2] at ht2; cases ht2
      | some ob2 =>
        have hlt2 := (Array.getElem?_eq_some_iff.1 ho2).1
        have := h'.oldBlock (k := 1) rfl hlt2 (fun hf => hX (fps_one.1 hf))
        rw [this]; exact ht2
set_option maxRecDepth 20000 in
set_option maxHeartbeats 4000000 in
set_option maxRecDepth 20000 in
set_option maxHeartbeats 4000000 in
theorem filled_s (round slots : Int) (seed : ByteArray) (hsd : seed.size ≤ 200) (hrd : 0 ≤ round ∧ round ≤ 9223372036854775807) (l : List Rv) (p : Option Addr) (n c : Nat) (hn2 : n ≤ 1000) (hval : ∀ x ∈ l, validR x = true) (lt : List Rv) (p0 : Option Addr) (c0 : Nat) (hlt : lt.length ≤ 1000)  (w : World) (HS : S w [Rw 30 10 p0 lt.length c0 (fl rvL lt)]) (hap : Apart w (Rw 30 10 p0 lt.length c0 (fl rvL lt)) p n c 10 (fl rvL l)) (hta : TabA w (Rw 30 10 p0 lt.length c0 (fl rvL lt))) : Calls Tryz.prog 56 #[.agg #[.int .i64 round, .int .i64 slots, .string seed, .slice p n c], .slice p0 lt.length c0] w fun e w' => ∃ p' c', e = .returned (.slice p' (fillL slots lt (optL round seed l)).length c') ∧ S w' ([Rw 30 10 p' (fillL slots lt (optL round seed l)).length c' (fl rvL (fillL slots lt (optL round seed l)))] ++ [Old w (fps [Rw 30 10 p0 lt.length c0 (fl rvL lt)])]) := by
  have H00 := HS.beginI
  have H0 : S w ([Rw 30 10 p0 lt.length c0 (fl rvL lt), Old w (fps [Rw 30 10 p0 lt.length c0 (fl rvL lt)])]) := H00
  have hnl := (hap _ H0).lenL rvE
  have hol := optL_len round seed l
  refine enter_m 30 Tryz.func56 rfl rfl rfl ?_
  have hL : ¬ LetsOut (bodyPostM (WF none) 9 Tryz.prog Tryz.f56 fun e w' => ∃ p' c', e = .returned (.slice p' (fillL slots lt (optL round seed l)).length c') ∧ S w' ([Rw 30 10 p' (fillL slots lt (optL round seed l)).length c' (fl rvL (fillL slots lt (optL round seed l)))] ++ [Old w (fps [Rw 30 10 p0 lt.length c0 (fl rvL lt)])])) := by
    rintro ⟨_, _, h⟩
    simp only [bodyPostM, reduceCtorEq, false_and, and_false, exists_false, or_false, or_self, exists_const] at h
  refine g_weak [(0, .agg #[.int .i64 round, .int .i64 slots, .string seed, .slice p n c]), (1, .slice p0 lt.length c0)] ⟨rfl, rfl, trivial⟩ ?_
  refine R.g_seq ?_
  refine R.g_region ?_
  refine R.l_of rfl (fun h => hL h) (s_box H0 (wt0 rfl) rfl rfl rfl rfl ?_)
  intro g1 wq2 H3
  refine R.l_of rfl (fun h => hL h) (s_box H3 (wt0 rfl) rfl rfl rfl rfl ?_)
  intro g4 wq5 H6
  refine R.l_of rfl (fun h => hL h) (s_val (v := .slice none 0 0) (wt0 rfl) rfl rfl (x_assign rfl rfl) ?_)
  refine R.g_nil ?_
  refine g_then ?_
  refine R.g_seq ?_
  refine R.g_seq ?_
  refine R.g_region ?_
  refine R.l_of rfl (fun h => hL h) (s_val (v := .pointer (some ⟨g1, 0, none⟩)) (wt0 rfl) rfl rfl (x_fieldAddr rfl rfl fo62_0 rfl) ?_)
  refine R.l_of rfl (fun h => hL h) (s_val (v := .int .i64 round) (wt0 rfl) rfl rfl (x_load1 H6 1 rfl rfl Tryz.underlying3 rfl rfl rfl) ?_)
  refine R.l_of rfl (fun h => hL h) (s_val (v := .pointer (some ⟨g1, 2, none⟩)) (wt0 rfl) rfl rfl (x_fieldAddr rfl rfl fo62_2 rfl) ?_)
  refine R.l_of rfl (fun h => hL h) (s_val (v := .string seed) (wt0 rfl) rfl rfl (x_load1 H6 1 rfl rfl Tryz.underlying9 rfl rfl rfl) ?_)
  refine R.l_of rfl (fun h => hL h) (s_val (v := .pointer (some ⟨g1, 3, none⟩)) (wt0 rfl) rfl rfl (x_fieldAddr rfl rfl fo62_3 rfl) ?_)
  refine R.l_of rfl (fun h => hL h) (s_val (v := .slice p n c) (wt0 rfl) rfl rfl (x_load1 H6 1 rfl rfl Tryz.underlying22 rfl rfl rfl) ?_)
  refine R.l_of rfl (fun h => hL h) (s_call (wt0 rfl) (x_call' rfl rfl cl24) (optimistic_s seed round hsd hrd l p n c (by omega) hval _ ((hap _ (H6.takes [2, 3] (by decide)))) (hta _ (H6.takes [2, 3] (by decide)))) ?_)
  rintro _ wq10 ⟨bo7, po8, co9, rfl, H11⟩
  replace H11 : S wq10 [Ob bo7 (.cells #[.slice po8 ((optL round seed l).length) co9] 22 (0, 0)), Rw 30 10 po8 ((optL round seed l).length) co9 (fl rvL (optL round seed l)), Ob g4 (.cells #[.slice p0 lt.length c0] 22 (0, 0)), Ob g1 (.cells #[.int .i64 round, .int .i64 slots, .string seed, .slice p n c] 62 (0, 0)), Rw 30 10 p0 lt.length c0 (fl rvL lt), Old w (fps [Rw 30 10 p0 lt.length c0 (fl rvL lt)])] := H6.absorb (new := [Ob bo7 (.cells #[.slice po8 ((optL round seed l).length) co9] 22 (0, 0)), Rw 30 10 po8 ((optL round seed l).length) co9 (fl rvL (optL round seed l))]) H11
  refine b_ret rfl rfl ?_
  refine R.g_nil ?_
  refine g_then ?_
  refine R.g_block ?_
  have H12 : S wq10 [(Big [Ob bo7 (.cells #[.slice po8 ((optL round seed l).length) co9] 22 (0, 0)), Rw 30 10 po8 ((optL round seed l).length) co9 (fl rvL (optL round seed l))]), Ob g4 (.cells #[.slice p0 lt.length c0] 22 (0, 0)), Ob g1 (.cells #[.int .i64 round, .int .i64 slots, .string seed, .slice p n c] 62 (0, 0)), Rw 30 10 p0 lt.length c0 (fl rvL lt), Old w (fps [Rw 30 10 p0 lt.length c0 (fl rvL lt)])] := S.big (L := [Ob bo7 (.cells #[.slice po8 ((optL round seed l).length) co9] 22 (0, 0)), Rw 30 10 po8 ((optL round seed l).length) co9 (fl rvL (optL round seed l))]) (H11.takes [0, 1, 2, 3, 4, 5] (by decide))
  have H13 : S wq10 [(Big [Ob bo7 (.cells #[.slice po8 ((optL round seed l).length) co9] 22 (0, 0)), Rw 30 10 po8 ((optL round seed l).length) co9 (fl rvL (optL round seed l))]), Ob g4 (.cells #[.slice p0 ((fillL slots lt []).length) c0] 22 (0, 0)), Rw 30 10 p0 ((fillL slots lt []).length) c0 (fl rvL (fillL slots lt [])), Ob g1 (.cells #[.int .i64 round, .int .i64 slots, .string seed, .slice p n c] 62 (0, 0)), Old w (fps [Rw 30 10 p0 lt.length c0 (fl rvL lt)])] := H12.takes [0, 1, 3, 2, 4] (by decide)
  have H14 := S.noI (H13.takes [0, 1, 2, 3, 4] (by decide))
  refine g_rangeW (α := Rv) (ι := Nat) (encs := encR) (base := (Big [Ob bo7 (.cells #[.slice po8 ((optL round seed l).length) co9] 22 (0, 0)), Rw 30 10 po8 ((optL round seed l).length) co9 (fl rvL (optL round seed l))])) (by omega) rfl (by kernel_rfl) (values_it (b := bo7) (l := (optL round seed l)) (p := po8) (n := (optL round seed l).length) (c := co9) (Y := Rw 30 10 po8 ((optL round seed l).length) co9 (fl rvL (optL round seed l))) (by omega) (fun w9 h9 => h9.rwReads (k := 0) rfl)) (fun _ => rfl) rfl (fun pre Lx => ∃ (pj : Option Addr), ∃ (cj : Nat), (True) ∧ Lx = [Ob g4 (.cells #[.slice pj ((fillL slots lt pre).length) cj] 22 (0, 0)), Rw 30 10 pj ((fillL slots lt pre).length) cj (fl rvL (fillL slots lt pre)), Ob g1 (.cells #[.int .i64 round, .int .i64 slots, .string seed, .slice p n c] 62 (0, 0)), Old w (fps [Rw 30 10 p0 lt.length c0 (fl rvL lt)])]) (fun pre Lx => False) (fun p ia => [(2, .pointer (some ⟨g1, 0, none⟩)), (3, .pointer (some ⟨g4, 0, none⟩)), (5, .pointer (some ⟨ia, 0, none⟩))]) (fun p ia => [Ob ia (.cells #[.int .i64 (p.id), .bool p.intr, .bool p.chk, .int .i64 (p.frm), .int .i64 (p.to), .int .i64 (p.lt), .int .i64 (p.since), .bool p.snb, .bool p.now, .bool p.seed] 30 (0, 0))]) (fun _ _ _ _ _ => trivial) ⟨p0, c0, trivial, rfl⟩ H14 ?_ ?_ ?_ ?_
  · rintro l1 p Ly W15 H16
    have hL : ¬ LetsOut (fun (_ : Exit) (_ : Act) (_ : World) => False) := fun ⟨_, _, h⟩ => h
    refine g_weak [(2, .pointer (some ⟨g1, 0, none⟩)), (3, .pointer (some ⟨g4, 0, none⟩)), (13, .agg #[.int .i64 (p.id), .bool p.intr, .bool p.chk, .int .i64 (p.frm), .int .i64 (p.to), .int .i64 (p.lt), .int .i64 (p.since), .bool p.snb, .bool p.now, .bool p.seed])] ⟨rfl, rfl, rfl, trivial⟩ ?_
    refine R.g_region ?_
    refine R.l_of rfl (fun h => hL h) (s_alloc H16 (wt0 rfl) rfl rfl rfl ze30 ?_)
    intro g17 wq18 H19
    refine R.l_of rfl (fun h => hL h) (s_store H19 0 (wt0 rfl) rfl rfl rfl rfl rfl sz30 rfl rfl (cs' := #[.int .i64 (p.id), .bool p.intr, .bool p.chk, .int .i64 (p.frm), .int .i64 (p.to), .int .i64 (p.lt), .int .i64 (p.since), .bool p.snb, .bool p.now, .bool p.seed]) rfl ?_)
    intro wq20 H21
    refine R.g_nil ?_
    refine g_then ?_
    exact rw_assign g17 ⟨rfl, rfl, rfl, trivial⟩ H21
  · rintro l1 pr x ia II Kx _ W22 ⟨pj, cj, hJ, rfl⟩ hphi H23
    have H24 := S.unbig (H23.takes [3, 0, 1, 2, 4, 5, 6, 7] (by decide))
    replace H24 : S W22 [Ob ia (.cells #[.int .i64 (x.id), .bool x.intr, .bool x.chk, .int .i64 (x.frm), .int .i64 (x.to), .int .i64 (x.lt), .int .i64 (x.since), .bool x.snb, .bool x.now, .bool x.seed] 30 (0, 0)), (Big [Ob bo7 (.cells #[.slice po8 ((optL round seed l).length) co9] 22 (0, 0)), Rw 30 10 po8 ((optL round seed l).length) co9 (fl rvL (optL round seed l))]), II, Kx, Ob g4 (.cells #[.slice pj ((fillL slots lt pr).length) cj] 22 (0, 0)), Rw 30 10 pj ((fillL slots lt pr).length) cj (fl rvL (fillL slots lt pr)), Ob g1 (.cells #[.int .i64 round, .int .i64 slots, .string seed, .slice p n c] 62 (0, 0)), Old w (fps [Rw 30 10 p0 lt.length c0 (fl rvL lt)])] := H24
    refine g_weak [(2, .pointer (some ⟨g1, 0, none⟩)), (3, .pointer (some ⟨g4, 0, none⟩)), (5, .pointer (some ⟨ia, 0, none⟩))] ⟨rfl, rfl, rfl, trivial⟩ ?_
    have hfl := fill_len slots lt pr
    have hpl := (List.getElem?_eq_some_iff.1 hphi).1
    refine R.g_block ?_
    refine R.g_seq ?_
    refine R.g_region ?_
    refine R.l_of rfl (fun ⟨_, _, h⟩ => h) (s_val (v := .slice pj ((fillL slots lt pr).length) cj) (wt0 rfl) rfl rfl (x_load1 H24 4 rfl rfl Tryz.underlying22 rfl rfl rfl) ?_)
    refine R.l_of rfl (fun ⟨_, _, h⟩ => h) (s_val (v := .int .i64 (((fillL slots lt pr).length : Int))) (wt0 rfl) rfl rfl (x_lenl rfl rfl Tryz.underlying22) ?_)
    refine R.l_of rfl (fun ⟨_, _, h⟩ => h) (s_val (v := .pointer (some ⟨g1, 1, none⟩)) (wt0 rfl) rfl rfl (x_fieldAddr rfl rfl fo62_1 rfl) ?_)
    refine R.l_of rfl (fun ⟨_, _, h⟩ => h) (s_val (v := .int .i64 slots) (wt0 rfl) rfl rfl (x_load1 H24 6 rfl rfl Tryz.underlying3 rfl rfl rfl) ?_)
    refine R.l_of rfl (fun ⟨_, _, h⟩ => h) (s_val (v := .bool (decide ((((fillL slots lt pr).length : Int) : Int) < slots))) (wt0 rfl) rfl rfl (x_bin rfl rfl rfl b_lss) ?_)
    refine R.l_of rfl (fun ⟨_, _, h⟩ => h) (s_val (v := .bool (decide ((((fillL slots lt pr).length : Int) : Int) < slots))) (wt0 rfl) rfl rfl (x_move rfl rfl) ?_)
    by_cases hb25 : (((fillL slots lt pr).length : Int) : Int) < slots
    · skip
      refine R.l_of rfl (fun ⟨_, _, h⟩ => h) (s_val (v := .slice pj ((fillL slots lt pr).length) cj) (wt1 rfl rfl rfl rfl (decide_eq_true hb25)) rfl rfl (x_load1 H24 4 rfl rfl Tryz.underlying22 rfl rfl rfl) ?_)
      refine R.l_of rfl (fun ⟨_, _, h⟩ => h) (s_val (v := .agg #[.int .i64 (x.id), .bool x.intr, .bool x.chk, .int .i64 (x.frm), .int .i64 (x.to), .int .i64 (x.lt), .int .i64 (x.since), .bool x.snb, .bool x.now, .bool x.seed]) (wt1 rfl rfl rfl rfl (decide_eq_true hb25)) rfl rfl (x_loadA H24 0 rfl rfl Tryz.underlying30 rfl sz30 rfl rfl rfl) ?_)
      refine R.l_of rfl (fun ⟨_, _, h⟩ => h) (s_call (wt1 rfl rfl rfl rfl (decide_eq_true hb25)) (x_call' rfl rfl cl30) (has_s (fillL slots lt pr) pj ((fillL slots lt pr).length) cj (by omega) x _ (H24.rwReads (k := 5) rfl)) ?_)
      rintro _ wq26 ⟨rfl, H27⟩
      replace H27 : S wq26 [Ob ia (.cells #[.int .i64 (x.id), .bool x.intr, .bool x.chk, .int .i64 (x.frm), .int .i64 (x.to), .int .i64 (x.lt), .int .i64 (x.since), .bool x.snb, .bool x.now, .bool x.seed] 30 (0, 0)), (Big [Ob bo7 (.cells #[.slice po8 ((optL round seed l).length) co9] 22 (0, 0)), Rw 30 10 po8 ((optL round seed l).length) co9 (fl rvL (optL round seed l))]), II, Kx, Ob g4 (.cells #[.slice pj ((fillL slots lt pr).length) cj] 22 (0, 0)), Rw 30 10 pj ((fillL slots lt pr).length) cj (fl rvL (fillL slots lt pr)), Ob g1 (.cells #[.int .i64 round, .int .i64 slots, .string seed, .slice p n c] 62 (0, 0)), Old w (fps [Rw 30 10 p0 lt.length c0 (fl rvL lt)])] := H24.absorb (new := []) H27
      refine b_ret rfl rfl ?_
      refine R.l_of rfl (fun ⟨_, _, h⟩ => h) (s_val (v := .bool (!((decide (x.id ∈ (fillL slots lt pr).map Rv.id))))) (wt1 rfl rfl rfl rfl (decide_eq_true hb25)) rfl rfl (x_not (b := (decide (x.id ∈ (fillL slots lt pr).map Rv.id))) rfl rfl) ?_)
      refine R.l_of rfl (fun ⟨_, _, h⟩ => h) (s_val (v := .bool (!((decide (x.id ∈ (fillL slots lt pr).map Rv.id))))) (wt0 rfl) rfl rfl (x_pick_t rfl rfl (decide_eq_true hb25) rfl) ?_)
      refine R.g_nil ?_
      refine g_then ?_
      rcases Bool.eq_false_or_eq_true ((decide (x.id ∈ (fillL slots lt pr).map Rv.id))) with hb28 | hb28
      · skip
        refine R.g_cond_f rfl (neg_of hb28) ?_
        refine R.g_skip ?_
        refine g_in ?_
        have hfs : fillL slots lt (pr ++ [x]) = (fillL slots lt pr) := (by rw [fill_snoc]; unfold fillT; rw [if_neg (fun h => h.2 (of_decide_eq_true hb28))])
        have H29 : S wq26 [(Big [Ob bo7 (.cells #[.slice po8 ((optL round seed l).length) co9] 22 (0, 0)), Rw 30 10 po8 ((optL round seed l).length) co9 (fl rvL (optL round seed l))]), II, Kx, Ob g4 (.cells #[.slice pj ((fillL slots lt (pr ++ [x])).length) cj] 22 (0, 0)), Rw 30 10 pj ((fillL slots lt (pr ++ [x])).length) cj (fl rvL (fillL slots lt (pr ++ [x]))), Ob g1 (.cells #[.int .i64 round, .int .i64 slots, .string seed, .slice p n c] 62 (0, 0)), Old w (fps [Rw 30 10 p0 lt.length c0 (fl rvL lt)])] := by rw [hfs]; exact H27.takes [1, 2, 3, 4, 5, 6, 7] (by decide)
        exact rs_next ⟨pj, cj, trivial, rfl⟩ H29
      · skip
        refine R.g_cond_t rfl (neg_of hb28) ?_
        refine R.g_region ?_
        refine R.l_of rfl (fun ⟨_, _, h⟩ => h) (s_val (v := .slice pj ((fillL slots lt pr).length) cj) (wt0 rfl) rfl rfl (x_load1 H27 4 rfl rfl Tryz.underlying22 rfl rfl rfl) ?_)
        refine R.l_of rfl (fun ⟨_, _, h⟩ => h) (s_val (v := .agg #[.int .i64 (x.id), .bool x.intr, .bool x.chk, .int .i64 (x.frm), .int .i64 (x.to), .int .i64 (x.lt), .int .i64 (x.since), .bool x.snb, .bool x.now, .bool x.seed]) (wt0 rfl) rfl rfl (x_loadA H27 0 rfl rfl Tryz.underlying30 rfl sz30 rfl rfl rfl) ?_)
        refine R.l_of rfl (fun ⟨_, _, h⟩ => h) (s_buildSlice H27 (wt0 rfl) rfl rfl rfl (vs := [.agg #[.int .i64 (x.id), .bool x.intr, .bool x.chk, .int .i64 (x.frm), .int .i64 (x.to), .int .i64 (x.lt), .int .i64 (x.since), .bool x.snb, .bool x.now, .bool x.seed]]) rfl Tryz.underlying22 sz30 ze30 rfl rfl (cells := #[.int .i64 (x.id), .bool x.intr, .bool x.chk, .int .i64 (x.frm), .int .i64 (x.to), .int .i64 (x.lt), .int .i64 (x.since), .bool x.snb, .bool x.now, .bool x.seed]) (by kernel_rfl) ?_)
        intro g30 wq31 H32
        have hln37a := (H32.rwReads (k := 6) rfl).lenL rvE
        have hln37 : ((fillL slots lt pr) ++ [x]).length = ((fillL slots lt pr).length) + 1 := by simp only [List.length_append, List.length_cons, List.length_nil] <;> omega
        refine R.l_of rfl (fun ⟨_, _, h⟩ => h) (s_appBn (m := 1) (l := (fillL slots lt pr)) (l2 := [x]) rvE H32 6 (j0 := 0) rfl rfl ⟨rfl, Nat.le_refl _⟩ (wt0 rfl) rfl rfl rfl rfl rfl rfl Tryz.underlying22 inf30 rfl (by decide) (by omega) ?_)
        intro p33 c34 wq35 H36
        replace H36 : S wq35 [Ob g30 (.cells #[.int .i64 (x.id), .bool x.intr, .bool x.chk, .int .i64 (x.frm), .int .i64 (x.to), .int .i64 (x.lt), .int .i64 (x.since), .bool x.snb, .bool x.now, .bool x.seed] 30 (0, 0)), Ob ia (.cells #[.int .i64 (x.id), .bool x.intr, .bool x.chk, .int .i64 (x.frm), .int .i64 (x.to), .int .i64 (x.lt), .int .i64 (x.since), .bool x.snb, .bool x.now, .bool x.seed] 30 (0, 0)), (Big [Ob bo7 (.cells #[.slice po8 ((optL round seed l).length) co9] 22 (0, 0)), Rw 30 10 po8 ((optL round seed l).length) co9 (fl rvL (optL round seed l))]), II, Kx, Ob g4 (.cells #[.slice pj ((fillL slots lt pr).length) cj] 22 (0, 0)), Rw 30 10 p33 (((fillL slots lt pr) ++ [x]).length) c34 (fl rvL ((fillL slots lt pr) ++ [x])), Ob g1 (.cells #[.int .i64 round, .int .i64 slots, .string seed, .slice p n c] 62 (0, 0)), Old w (fps [Rw 30 10 p0 lt.length c0 (fl rvL lt)])] := H36
        refine R.l_of rfl (fun ⟨_, _, h⟩ => h) (s_store H36 5 (wt0 rfl) rfl rfl rfl rfl rfl sz22 rfl rfl (cs' := #[.slice p33 (((fillL slots lt pr) ++ [x]).length) c34]) rfl ?_)
        intro wq38 H39
        refine R.g_nil ?_
        refine g_in ?_
        have hfs : fillL slots lt (pr ++ [x]) = ((fillL slots lt pr) ++ [x]) := (by rw [fill_snoc]; unfold fillT; rw [if_pos ⟨hb25, of_decide_eq_false hb28⟩])
        have H40 : S wq38 [(Big [Ob bo7 (.cells #[.slice po8 ((optL round seed l).length) co9] 22 (0, 0)), Rw 30 10 po8 ((optL round seed l).length) co9 (fl rvL (optL round seed l))]), II, Kx, Ob g4 (.cells #[.slice p33 ((fillL slots lt (pr ++ [x])).length) c34] 22 (0, 0)), Rw 30 10 p33 ((fillL slots lt (pr ++ [x])).length) c34 (fl rvL (fillL slots lt (pr ++ [x]))), Ob g1 (.cells #[.int .i64 round, .int .i64 slots, .string seed, .slice p n c] 62 (0, 0)), Old w (fps [Rw 30 10 p0 lt.length c0 (fl rvL lt)])] := by rw [hfs]; exact H39.takes [2, 3, 4, 5, 6, 7, 8] (by decide)
        exact rs_next ⟨p33, c34, trivial, rfl⟩ H40
    · skip
      refine R.l_of rfl (fun ⟨_, _, h⟩ => h) (s_not (wn1 rfl rfl rfl rfl (decide_eq_false hb25)) rfl rfl ?_)
      refine R.l_of rfl (fun ⟨_, _, h⟩ => h) (s_not (wn1 rfl rfl rfl rfl (decide_eq_false hb25)) rfl rfl ?_)
      refine R.l_of rfl (fun ⟨_, _, h⟩ => h) (s_not (wn1 rfl rfl rfl rfl (decide_eq_false hb25)) rfl rfl ?_)
      refine R.l_of rfl (fun ⟨_, _, h⟩ => h) (s_not (wn1 rfl rfl rfl rfl (decide_eq_false hb25)) rfl rfl ?_)
      refine R.l_of rfl (fun ⟨_, _, h⟩ => h) (s_val (v := .bool false) (wt0 rfl) rfl rfl (x_pick_f rfl rfl (decide_eq_false hb25) rfl) ?_)
      refine R.g_nil ?_
      refine g_then ?_
      refine R.g_cond_f rfl rfl ?_
      refine R.g_skip ?_
      refine g_in ?_
      have hfs : fillL slots lt (pr ++ [x]) = (fillL slots lt pr) := (by rw [fill_snoc]; unfold fillT; rw [if_neg (fun h => hb25 h.1)])
      have H41 : S W22 [(Big [Ob bo7 (.cells #[.slice po8 ((optL round seed l).length) co9] 22 (0, 0)), Rw 30 10 po8 ((optL round seed l).length) co9 (fl rvL (optL round seed l))]), II, Kx, Ob g4 (.cells #[.slice pj ((fillL slots lt (pr ++ [x])).length) cj] 22 (0, 0)), Rw 30 10 pj ((fillL slots lt (pr ++ [x])).length) cj (fl rvL (fillL slots lt (pr ++ [x]))), Ob g1 (.cells #[.int .i64 round, .int .i64 slots, .string seed, .slice p n c] 62 (0, 0)), Old w (fps [Rw 30 10 p0 lt.length c0 (fl rvL lt)])] := by rw [hfs]; exact H24.takes [1, 2, 3, 4, 5, 6, 7] (by decide)
      exact rs_next ⟨pj, cj, trivial, rfl⟩ H41
  · rintro D xs _ W42 rfl ⟨pj, cj, hJ, rfl⟩ H43
    replace H43 : S W42 [Ob D (.deferred (some [])), (Big [Ob bo7 (.cells #[.slice po8 ((optL round seed l).length) co9] 22 (0, 0)), Rw 30 10 po8 ((optL round seed l).length) co9 (fl rvL (optL round seed l))]), Ob g4 (.cells #[.slice pj ((fillL slots lt (optL round seed l)).length) cj] 22 (0, 0)), Rw 30 10 pj ((fillL slots lt (optL round seed l)).length) cj (fl rvL (fillL slots lt (optL round seed l))), Ob g1 (.cells #[.int .i64 round, .int .i64 slots, .string seed, .slice p n c] 62 (0, 0)), Old w (fps [Rw 30 10 p0 lt.length c0 (fl rvL lt)])] := H43
    refine g_in ?_
    refine g_then ?_
    refine R.g_seq ?_
    refine R.g_region ?_
    refine R.l_of rfl (fun h => hL h) (s_val (v := .slice pj ((fillL slots lt (optL round seed l)).length) cj) (wt0 rfl) rfl rfl (x_load1 H43 2 rfl rfl Tryz.underlying22 rfl rfl rfl) ?_)
    refine R.l_of rfl (fun h => hL h) (s_val (v := .slice pj ((fillL slots lt (optL round seed l)).length) cj) (wt0 rfl) rfl rfl (x_assign rfl rfl) ?_)
    refine R.g_nil ?_
    refine g_then ?_
    refine g_weak [(4, .slice pj ((fillL slots lt (optL round seed l)).length) cj)] ⟨rfl, trivial⟩ ?_
    refine R.g_ret ?_
    refine fin_mark H43 0 rfl [.tmp 4] [.slice pj ((fillL slots lt (optL round seed l)).length) cj] rfl (fun wq44 H45 => ⟨⟨rfl, trivial⟩, ?_⟩)
    replace H45 : S wq44 [Ob D (.deferred none), (Big [Ob bo7 (.cells #[.slice po8 ((optL round seed l).length) co9] 22 (0, 0)), Rw 30 10 po8 ((optL round seed l).length) co9 (fl rvL (optL round seed l))]), Ob g4 (.cells #[.slice pj ((fillL slots lt (optL round seed l)).length) cj] 22 (0, 0)), Rw 30 10 pj ((fillL slots lt (optL round seed l)).length) cj (fl rvL (fillL slots lt (optL round seed l))), Ob g1 (.cells #[.int .i64 round, .int .i64 slots, .string seed, .slice p n c] 62 (0, 0)), Old w (fps [Rw 30 10 p0 lt.length c0 (fl rvL lt)])] := H45
    exact ⟨_, _, rfl, H45.takes [3, 5] (by decide)⟩
  · rintro D pr _ W _ h; exact h.elim
end Go.Proofs.YthfglkkjkpdkpaaGreatDoor
