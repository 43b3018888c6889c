import Derived.Test.YthfglkkjkpdkpaaGreatDoorLr
import Derived.Test.YthfglkkjkpdkpaaGreatDoorLj
set_option linter.unusedSimpArgs false
set_option linter.unusedVariables false
namespace Go.Proofs.YthfglkkjkpdkpaaGreatDoor
open Go.RowKit

theorem sz24 : szO Tryz.prog 24 = some 1 := by kernel_rfl
theorem ze24 : zeO Tryz.prog 24 = some (.slice none 0 0) := by kernel_rfl
noncomputable def optE (round : Int) (seed : ByteArray) (l : List Rv) : Int := if ¬ askE seed l = 0 then askE seed l else if round < 0 then 7 else 0
noncomputable def optV (round : Int) (seed : ByteArray) (l : List Rv) : List Int := if optE round seed l = 0 then (optL round seed l).map Rv.id else []
theorem opt_a {round : Int} {seed : ByteArray} {l : List Rv} (h : ¬ askE seed l = 0) : optE round seed l = askE seed l := by unfold optE; rw [if_pos h]
theorem opt_7 {round : Int} {seed : ByteArray} {l : List Rv} (h : askE seed l = 0) (h1 : round < 0) : optE round seed l = 7 := by unfold optE; rw [if_neg (not_not_intro h), if_pos h1]
theorem opt_0 {round : Int} {seed : ByteArray} {l : List Rv} (h : askE seed l = 0) (h1 : ¬ round < 0) : optE round seed l = 0 := by unfold optE; rw [if_neg (not_not_intro h), if_neg h1]
set_option maxRecDepth 20000 in
set_option maxHeartbeats 4000000 in
set_option maxRecDepth 20000 in
set_option maxHeartbeats 4000000 in
theorem Optimistic_s (round : Int) (hro : okI round) (seed : ByteArray) (l : List Rv) (p : Option Addr) (n c : Nat) (hn2 : n ≤ 200)  (w : World) (hr : Reads w p n c 10 (fl rvL l)) (ht : PowTab w) : Calls Tryz.prog 12 #[.int .i64 round, .string seed, .slice p n c] w fun e w' => ∃ p' c', e = .returned (.tuple #[.slice p' (optV round seed l).length c', .int .i64 (optE round seed l)]) ∧ S w' ([Rw 3 1 p' (optV round seed l).length c' (fl intL (optV round seed l))] ++ [Old w no]) := by
  have H0 := S.old w
  have hnl := hr.lenL rvE
  have hol := optL_len round seed l
  refine enter_m 30 Tryz.func12 rfl rfl rfl ?_
  have hL : ¬ LetsOut (bodyPostM (WF none) 9 Tryz.prog Tryz.f12 fun e w' => ∃ p' c', e = .returned (.tuple #[.slice p' (optV round seed l).length c', .int .i64 (optE round seed l)]) ∧ S w' ([Rw 3 1 p' (optV round seed l).length c' (fl intL (optV round seed l))] ++ [Old w no])) := by
    rintro ⟨_, _, h⟩
    simp only [bodyPostM, reduceCtorEq, false_and, and_false, exists_false, or_false, or_self, exists_const] at h
  refine g_weak [(0, .int .i64 round), (1, .string seed), (2, .slice p n c)] ⟨rfl, rfl, rfl, trivial⟩ ?_
  refine R.g_seq ?_
  refine R.g_region ?_
  refine R.l_of rfl (fun h => hL h) (s_val (v := .slice none 0 0) (wt0 rfl) rfl rfl (x_assign rfl rfl) ?_)
  refine R.l_of rfl (fun h => hL h) (s_val (v := .int .i64 0) (wt0 rfl) rfl rfl (x_assign rfl rfl) ?_)
  refine R.g_nil ?_
  refine g_then ?_
  refine R.g_seq ?_
  refine R.g_seq ?_
  refine R.g_region ?_
  refine R.l_of rfl (fun h => hL h) (s_val (v := .slice p n c) (wt0 rfl) rfl rfl (x_move rfl rfl) ?_)
  refine R.l_of rfl (fun h => hL h) (s_val (v := .string seed) (wt0 rfl) rfl rfl (x_move rfl rfl) ?_)
  refine R.l_of rfl (fun h => hL h) (s_call (wt0 rfl) (x_call' rfl rfl cl18) (rivals_s seed l p n c (by omega) _ (H0.exReads (k := 0) rfl hr (fun _ _ _ h => h))) ?_)
  rintro _ wq1 ⟨rfl, H2⟩
  replace H2 : S wq1 [Old w no] := H0.absorb (new := []) H2
  refine b_ret rfl rfl ?_
  refine R.l_of rfl (fun h => hL h) (s_val (v := .int .i64 ((askE seed l))) (wt0 rfl) rfl rfl (x_assign rfl rfl) ?_)
  refine R.g_nil ?_
  refine g_then ?_
  refine R.g_seq ?_
  refine R.g_region ?_
  refine R.l_of rfl (fun h => hL h) (s_val (v := .int .i64 ((askE seed l))) (wt0 rfl) rfl rfl (x_move rfl rfl) ?_)
  refine R.l_of rfl (fun h => hL h) (s_val (v := .bool (!decide (((askE seed l) : Int) = 0))) (wt0 rfl) rfl rfl (x_bin rfl rfl rfl b_neq) ?_)
  refine R.g_nil ?_
  refine g_then ?_
  by_cases hb3 : ((askE seed l) : Int) = 0
  · skip
    refine R.g_cond_f rfl (nf hb3) ?_
    refine R.g_skip ?_
    refine g_then ?_
    refine R.g_seq ?_
    refine R.g_seq ?_
    refine R.g_region ?_
    refine R.l_of rfl (fun h => hL h) (s_val (v := .int .i64 round) (wt0 rfl) rfl rfl (x_move rfl rfl) ?_)
    refine R.l_of rfl (fun h => hL h) (s_val (v := .bool (decide ((round : Int) < 0))) (wt0 rfl) rfl rfl (x_bin rfl rfl rfl b_lss) ?_)
    refine R.g_nil ?_
    refine g_then ?_
    by_cases hb4 : (round : Int) < 0
    · skip
      refine R.g_cond_t rfl (decide_eq_true hb4) ?_
      refine R.g_seq ?_
      refine R.g_region ?_
      refine R.l_of rfl (fun h => hL h) (s_val (v := .slice none 0 0) (wt0 rfl) rfl rfl (x_assign rfl rfl) ?_)
      refine R.l_of rfl (fun h => hL h) (s_val (v := .int .i64 7) (wt0 rfl) rfl rfl (x_assign rfl rfl) ?_)
      refine R.g_nil ?_
      refine g_then ?_
      refine R.g_ret ?_
      refine g_then_ret ?_
      refine fin_plain [.tmp 6, .tmp 7] [.slice none 0 0, .int .i64 7] rfl ⟨rfl, rfl, trivial⟩ ?_
      have hv : (optE round seed l) = 7 := opt_7 (by omega) (by omega)
      have hg : (optV round seed l) = [] := by unfold optV; rw [hv, if_neg (by decide)]
      rw [hg, hv]
      exact ⟨none, 0, rfl, (H2.takes [0] (by decide)).nilFl 3 1 intL⟩
    · skip
      refine R.g_cond_f rfl (decide_eq_false hb4) ?_
      refine R.g_skip ?_
      refine g_then ?_
      refine R.g_seq ?_
      refine R.g_region ?_
      refine R.l_of rfl (fun h => hL h) (s_alloc H2 (wt0 rfl) rfl rfl rfl ze24 ?_)
      intro g5 wq6 H7
      refine R.g_nil ?_
      refine g_then ?_
      refine R.g_seq ?_
      refine R.g_seq ?_
      refine R.g_region ?_
      refine R.l_of rfl (fun h => hL h) (s_val (v := .int .i64 round) (wt0 rfl) rfl rfl (x_move rfl rfl) ?_)
      refine R.l_of rfl (fun h => hL h) (s_val (v := .string seed) (wt0 rfl) rfl rfl (x_move rfl rfl) ?_)
      refine R.l_of rfl (fun h => hL h) (s_val (v := .slice p n c) (wt0 rfl) rfl rfl (x_move rfl rfl) ?_)
      have hask : askE seed l = 0 := by omega
      have hval := (askE_ok hask).2.1
      have hs100 := askE_size hask
      refine R.l_of rfl (fun h => hL h) (s_call (wt0 rfl) (x_call' rfl rfl cl24) (optimistic_s seed round (by omega) ⟨by omega, hro.2⟩ l p n c (by omega) hval _ (H7.exReads (k := 1) rfl hr (fun _ _ _ h => h)) (H7.tab (k := 1) rfl ht)) ?_)
      rintro _ wq11 ⟨bo8, po9, co10, rfl, H12⟩
      replace H12 : S wq11 [Ob bo8 (.cells #[.slice po9 ((optL round seed l).length) co10] 22 (0, 0)), Rw 30 10 po9 ((optL round seed l).length) co10 (fl rvL (optL round seed l)), Ob g5 (.cells #[.slice none 0 0] 24 (0, 0)), Old w no] := H7.absorb (new := [Ob bo8 (.cells #[.slice po9 ((optL round seed l).length) co10] 22 (0, 0)), Rw 30 10 po9 ((optL round seed l).length) co10 (fl rvL (optL round seed l))]) H12
      refine b_ret rfl rfl ?_
      refine R.g_nil ?_
      refine g_then ?_
      refine g_weak [(6, .slice none 0 0), (7, .int .i64 0), (9, .pointer (some ⟨g5, 0, none⟩)), (22, .func (.func 74) #[] #[.pointer (some ⟨bo8, 0, none⟩)])] ⟨rfl, rfl, rfl, rfl, trivial⟩ ?_
      refine R.g_block ?_
      have H13 : S wq11 [(Big [Ob bo8 (.cells #[.slice po9 ((optL round seed l).length) co10] 22 (0, 0)), Rw 30 10 po9 ((optL round seed l).length) co10 (fl rvL (optL round seed l))]), Ob g5 (.cells #[.slice none 0 0] 24 (0, 0)), Old w no] := S.big (L := [Ob bo8 (.cells #[.slice po9 ((optL round seed l).length) co10] 22 (0, 0)), Rw 30 10 po9 ((optL round seed l).length) co10 (fl rvL (optL round seed l))]) (H12.takes [0, 1, 2, 3] (by decide))
      have H14 : S wq11 [(Big [Ob bo8 (.cells #[.slice po9 ((optL round seed l).length) co10] 22 (0, 0)), Rw 30 10 po9 ((optL round seed l).length) co10 (fl rvL (optL round seed l))]), Ob g5 (.cells #[.slice none ((([] : List Rv).map Rv.id).length) 0] 24 (0, 0)), Rw 3 1 none ((([] : List Rv).map Rv.id).length) 0 (fl intL (([] : List Rv).map Rv.id)), Old w no] := ((H13.takes [0, 1, 2] (by decide)).nilFl 3 1 intL).takes [1, 2, 0, 3] (by decide)
      have H15 := S.noI (H14.takes [0, 1, 2, 3] (by decide))
      refine g_rangeW (α := Rv) (ι := Nat) (encs := encR) (base := (Big [Ob bo8 (.cells #[.slice po9 ((optL round seed l).length) co10] 22 (0, 0)), Rw 30 10 po9 ((optL round seed l).length) co10 (fl rvL (optL round seed l))])) (by omega) rfl (by kernel_rfl) (values_it (b := bo8) (l := (optL round seed l)) (p := po9) (n := (optL round seed l).length) (c := co10) (Y := Rw 30 10 po9 ((optL round seed l).length) co10 (fl rvL (optL round seed l))) (by omega) (fun w9 h9 => h9.rwReads (k := 0) rfl)) (fun _ => rfl) rfl (fun pre Lx => ∃ (pj : Option Addr), ∃ (cj : Nat), (True) ∧ Lx = [Ob g5 (.cells #[.slice pj ((pre.map Rv.id).length) cj] 24 (0, 0)), Rw 3 1 pj ((pre.map Rv.id).length) cj (fl intL (pre.map Rv.id)), Old w no]) (fun pre Lx => False) (fun p ia => [(9, .pointer (some ⟨g5, 0, none⟩)), (10, .pointer (some ⟨ia, 0, none⟩))]) (fun p ia => [Ob ia (.cells #[.int .i64 (p.id), .bool p.intr, .bool p.chk, .int .i64 (p.frm), .int .i64 (p.to), .int .i64 (p.lt), .int .i64 (p.since), .bool p.snb, .bool p.now, .bool p.seed] 30 (0, 0))]) (fun _ _ _ _ _ => trivial) ⟨none, 0, trivial, rfl⟩ H15 ?_ ?_ ?_ ?_
      · rintro l1 p Ly W16 H17
        have hL : ¬ LetsOut (fun (_ : Exit) (_ : Act) (_ : World) => False) := fun ⟨_, _, h⟩ => h
        refine g_weak [(9, .pointer (some ⟨g5, 0, none⟩)), (23, .agg #[.int .i64 (p.id), .bool p.intr, .bool p.chk, .int .i64 (p.frm), .int .i64 (p.to), .int .i64 (p.lt), .int .i64 (p.since), .bool p.snb, .bool p.now, .bool p.seed])] ⟨rfl, rfl, trivial⟩ ?_
        refine R.g_region ?_
        refine R.l_of rfl (fun h => hL h) (s_alloc H17 (wt0 rfl) rfl rfl rfl ze30 ?_)
        intro g18 wq19 H20
        refine R.l_of rfl (fun h => hL h) (s_store H20 0 (wt0 rfl) rfl rfl rfl rfl rfl sz30 rfl rfl (cs' := #[.int .i64 (p.id), .bool p.intr, .bool p.chk, .int .i64 (p.frm), .int .i64 (p.to), .int .i64 (p.lt), .int .i64 (p.since), .bool p.snb, .bool p.now, .bool p.seed]) rfl ?_)
        intro wq21 H22
        refine R.g_nil ?_
        refine g_then ?_
        exact rw_assign g18 ⟨rfl, rfl, trivial⟩ H22
      · rintro l1 pr x ia II Kx _ W23 ⟨pj, cj, hJ, rfl⟩ hphi H24
        have H25 := S.unbig (H24.takes [3, 0, 1, 2, 4, 5, 6] (by decide))
        replace H25 : S W23 [Ob ia (.cells #[.int .i64 (x.id), .bool x.intr, .bool x.chk, .int .i64 (x.frm), .int .i64 (x.to), .int .i64 (x.lt), .int .i64 (x.since), .bool x.snb, .bool x.now, .bool x.seed] 30 (0, 0)), (Big [Ob bo8 (.cells #[.slice po9 ((optL round seed l).length) co10] 22 (0, 0)), Rw 30 10 po9 ((optL round seed l).length) co10 (fl rvL (optL round seed l))]), II, Kx, Ob g5 (.cells #[.slice pj ((pr.map Rv.id).length) cj] 24 (0, 0)), Rw 3 1 pj ((pr.map Rv.id).length) cj (fl intL (pr.map Rv.id)), Old w no] := H25
        refine g_weak [(9, .pointer (some ⟨g5, 0, none⟩)), (10, .pointer (some ⟨ia, 0, none⟩))] ⟨rfl, rfl, trivial⟩ ?_
        have hpl := (List.getElem?_eq_some_iff.1 hphi).1
        have hml : (pr.map Rv.id).length = pr.length := List.length_map _
        refine R.g_block ?_
        refine R.g_region ?_
        refine R.l_of rfl (fun ⟨_, _, h⟩ => h) (s_val (v := .slice pj ((pr.map Rv.id).length) cj) (wt0 rfl) rfl rfl (x_load1 H25 4 rfl rfl Tryz.underlying24 rfl rfl rfl) ?_)
        refine R.l_of rfl (fun ⟨_, _, h⟩ => h) (s_val (v := .pointer (some ⟨ia, 0, none⟩)) (wt0 rfl) rfl rfl (x_fieldAddr rfl rfl fo30_0 rfl) ?_)
        refine R.l_of rfl (fun ⟨_, _, h⟩ => h) (s_val (v := .int .i64 (x.id)) (wt0 rfl) rfl rfl (x_load1 H25 0 rfl rfl Tryz.underlying3 rfl rfl rfl) ?_)
        refine R.l_of rfl (fun ⟨_, _, h⟩ => h) (s_buildSlice H25 (wt0 rfl) rfl rfl rfl (vs := [.int .i64 (x.id)]) rfl Tryz.underlying24 sz3 ze3 rfl rfl (cells := #[.int .i64 (x.id)]) (by kernel_rfl) ?_)
        intro g26 wq27 H28
        have hln33a := (H28.rwReads (k := 6) rfl).lenL intE
        have hln33 : ((pr.map Rv.id) ++ [x.id]).length = ((pr.map Rv.id).length) + 1 := by simp only [List.length_append, List.length_cons, List.length_nil] <;> omega
        refine R.l_of rfl (fun ⟨_, _, h⟩ => h) (s_appBn (m := 1) (l := (pr.map Rv.id)) (l2 := [x.id]) intE H28 6 (j0 := 0) rfl rfl ⟨rfl, Nat.le_refl _⟩ (wt0 rfl) rfl rfl rfl rfl rfl rfl Tryz.underlying24 inf3 rfl (by decide) (by omega) ?_)
        intro p29 c30 wq31 H32
        replace H32 : S wq31 [Ob g26 (.cells #[.int .i64 (x.id)] 3 (0, 0)), Ob ia (.cells #[.int .i64 (x.id), .bool x.intr, .bool x.chk, .int .i64 (x.frm), .int .i64 (x.to), .int .i64 (x.lt), .int .i64 (x.since), .bool x.snb, .bool x.now, .bool x.seed] 30 (0, 0)), (Big [Ob bo8 (.cells #[.slice po9 ((optL round seed l).length) co10] 22 (0, 0)), Rw 30 10 po9 ((optL round seed l).length) co10 (fl rvL (optL round seed l))]), II, Kx, Ob g5 (.cells #[.slice pj ((pr.map Rv.id).length) cj] 24 (0, 0)), Rw 3 1 p29 (((pr.map Rv.id) ++ [x.id]).length) c30 (fl intL ((pr.map Rv.id) ++ [x.id])), Old w no] := H32
        refine R.l_of rfl (fun ⟨_, _, h⟩ => h) (s_store H32 5 (wt0 rfl) rfl rfl rfl rfl rfl sz24 rfl rfl (cs' := #[.slice p29 (((pr.map Rv.id) ++ [x.id]).length) c30]) rfl ?_)
        intro wq34 H35
        refine R.g_nil ?_
        refine g_in ?_
        have H36 : S wq34 [(Big [Ob bo8 (.cells #[.slice po9 ((optL round seed l).length) co10] 22 (0, 0)), Rw 30 10 po9 ((optL round seed l).length) co10 (fl rvL (optL round seed l))]), II, Kx, Ob g5 (.cells #[.slice p29 (((pr ++ [x]).map Rv.id).length) c30] 24 (0, 0)), Rw 3 1 p29 (((pr ++ [x]).map Rv.id).length) c30 (fl intL ((pr ++ [x]).map Rv.id)), Old w no] := by rw [List.map_append]; exact H35.takes [2, 3, 4, 5, 6, 7] (by decide)
        exact rs_next ⟨p29, c30, trivial, rfl⟩ H36
      · rintro D xs _ W37 rfl ⟨pj, cj, hJ, rfl⟩ H38
        replace H38 : S W37 [Ob D (.deferred (some [])), (Big [Ob bo8 (.cells #[.slice po9 ((optL round seed l).length) co10] 22 (0, 0)), Rw 30 10 po9 ((optL round seed l).length) co10 (fl rvL (optL round seed l))]), Ob g5 (.cells #[.slice pj (((optL round seed l).map Rv.id).length) cj] 24 (0, 0)), Rw 3 1 pj (((optL round seed l).map Rv.id).length) cj (fl intL ((optL round seed l).map Rv.id)), Old w no] := H38
        refine g_in ?_
        refine g_then ?_
        refine R.g_seq ?_
        refine R.g_region ?_
        refine R.l_of rfl (fun h => hL h) (s_val (v := .slice pj (((optL round seed l).map Rv.id).length) cj) (wt0 rfl) rfl rfl (x_load1 H38 2 rfl rfl Tryz.underlying24 rfl rfl rfl) ?_)
        refine R.l_of rfl (fun h => hL h) (s_val (v := .slice pj (((optL round seed l).map Rv.id).length) cj) (wt0 rfl) rfl rfl (x_assign rfl rfl) ?_)
        refine R.l_of rfl (fun h => hL h) (s_val (v := .int .i64 0) (wt0 rfl) rfl rfl (x_assign rfl rfl) ?_)
        refine R.g_nil ?_
        refine g_then ?_
        refine R.g_ret ?_
        refine fin_mark H38 0 rfl [.tmp 6, .tmp 7] [.slice pj (((optL round seed l).map Rv.id).length) cj, .int .i64 0] rfl (fun wq39 H40 => ⟨⟨rfl, rfl, trivial⟩, ?_⟩)
        replace H40 : S wq39 [Ob D (.deferred none), (Big [Ob bo8 (.cells #[.slice po9 ((optL round seed l).length) co10] 22 (0, 0)), Rw 30 10 po9 ((optL round seed l).length) co10 (fl rvL (optL round seed l))]), Ob g5 (.cells #[.slice pj (((optL round seed l).map Rv.id).length) cj] 24 (0, 0)), Rw 3 1 pj (((optL round seed l).map Rv.id).length) cj (fl intL ((optL round seed l).map Rv.id)), Old w no] := H40
        have hv : (optE round seed l) = 0 := opt_0 (by omega) (by omega)
        have hg : (optV round seed l) = (optL round seed l).map Rv.id := by unfold optV; rw [hv, if_pos rfl]
        rw [hg, hv]
        exact ⟨_, _, rfl, H40.takes [3, 4] (by decide)⟩
      · rintro D pr _ W _ h; exact h.elim
  · skip
    refine R.g_cond_t rfl (nt hb3) ?_
    refine R.g_seq ?_
    refine R.g_region ?_
    refine R.l_of rfl (fun h => hL h) (s_val (v := .int .i64 ((askE seed l))) (wt0 rfl) rfl rfl (x_move rfl rfl) ?_)
    refine R.l_of rfl (fun h => hL h) (s_val (v := .slice none 0 0) (wt0 rfl) rfl rfl (x_assign rfl rfl) ?_)
    refine R.l_of rfl (fun h => hL h) (s_val (v := .int .i64 ((askE seed l))) (wt0 rfl) rfl rfl (x_assign rfl rfl) ?_)
    refine R.g_nil ?_
    refine g_then ?_
    refine R.g_ret ?_
    refine g_then_ret ?_
    refine fin_plain [.tmp 6, .tmp 7] [.slice none 0 0, .int .i64 ((askE seed l))] rfl ⟨rfl, rfl, trivial⟩ ?_
    have hv : (optE round seed l) = (askE seed l) := opt_a hb3
    have hg : (optV round seed l) = [] := by unfold optV; rw [hv, if_neg hb3]
    rw [hg, hv]
    exact ⟨none, 0, rfl, (H2.takes [0] (by decide)).nilFl 3 1 intL⟩
end Go.Proofs.YthfglkkjkpdkpaaGreatDoor
