import Derived.Test.YtcjmdkklbbollaaCI
set_option linter.unusedSimpArgs false
set_option linter.unusedVariables false
namespace Go.Proofs.Ytcjmdkklbbollaa
open Go.RowKit

theorem cl72 : callable Try.prog 72 = true := by kernel_rfl
theorem cl93 : callable Try.prog 93 = true := by kernel_rfl
theorem sz41 : szO Try.prog 41 = some 1 := by kernel_rfl
theorem ze41 : zeO Try.prog 41 = some (.slice none 0 0) := by kernel_rfl
theorem same_ck2 {W w : World} {LW L : List Item} {k j1 j2 k1 k2 g1 g2 B : Nat} {o1 o2 : Obj} (HW : S W LW) (H : S w L) (hk : L[k]? = some (NC B W)) (h1 : LW[j1]? = some (Ob g1 o1)) (h2 : LW[j2]? = some (Ob g2 o2)) (h3 : L[k1]? = some (Ob g1 o1)) (h4 : L[k2]? = some (Ob g2 o2)) : Same (fun g => g = g1 ∨ g = g2) W w := by
  have h' : Same _ W w := H.at hk
  exact ⟨h'.os, h'.tape, h'.output, h'.size, fun g hg => by
    rcases hg with rfl | rfl
    · rw [H.ob h3, HW.ob h1]
    · rw [H.ob h4, HW.ob h2]⟩
theorem okB_obx (g : Nat) (cs : Array Value) (e : TypeId) (fr : Nat × Nat) (B : Nat) : (Ob g (.cells cs e fr)).okB B := okB_ob g cs e fr B
set_option maxRecDepth 20000 in
set_option maxHeartbeats 4000000 in
set_option maxRecDepth 20000 in
set_option maxHeartbeats 4000000 in
theorem digests_w (m : M) (w : World) : Calls Try.prog 26 #[.agg m.cells] w fun e w' => ∃ p c, e = .returned (.tuple #[.slice p (digS m).1.length c, .int .i64 (digS m).2]) ∧ S w' ([Rw 9 1 p (digS m).1.length c (stV (digS m).1)] ++ [Old w no]) := by
  have H0 := S.old w
  refine enter_m 25 Try.func26 rfl rfl rfl ?_
  have hL : ¬ LetsOut (bodyPostM (WF none) 9 Try.prog Try.f26 fun e w' => ∃ p c, e = .returned (.tuple #[.slice p (digS m).1.length c, .int .i64 (digS m).2]) ∧ S w' ([Rw 9 1 p (digS m).1.length c (stV (digS m).1)] ++ [Old w no])) := by
    rintro ⟨_, _, ⟨_, _, h, _⟩⟩
    cases h
  refine g_weak [(0, .agg m.cells)] ⟨rfl, trivial⟩ ?_
  refine R.g_seq ?_
  refine R.g_region ?_
  refine R.l_of rfl (fun h => hL h) (s_box H0 (wt0 rfl) rfl rfl rfl rfl ?_)
  intro g1 wq2 H3
  refine R.l_of rfl (fun h => hL h) (s_val (v := .slice none 0 0) (wt0 rfl) rfl rfl (x_assign rfl rfl) ?_)
  refine R.l_of rfl (fun h => hL h) (s_val (v := .int .i64 0) (wt0 rfl) rfl rfl (x_assign rfl rfl) ?_)
  refine R.g_nil ?_
  refine g_then ?_
  refine R.g_seq ?_
  refine R.g_block ?_
  refine R.g_seq ?_
  refine R.g_region ?_
  refine R.l_of rfl (fun h => hL h) (s_val (v := .agg m.cells) (wt0 rfl) rfl rfl (x_loadA H3 0 rfl rfl Try.underlying33 rfl sz33 rfl rfl rfl) ?_)
  refine R.l_of rfl (fun h => hL h) (s_call (wt0 rfl) (x_call' rfl rfl cl22) (valid_p _ _) ?_)
  rintro _ wq4 ⟨rfl, H5⟩
  replace H5 : S wq4 [Ob g1 (.cells m.cells 33 (0, 0)), Old w no] := H3.absorb (new := []) (S.of_below H5)
  refine b_ret rfl rfl ?_
  refine R.l_of rfl (fun h => hL h) (s_val (v := .bool (!(validP m))) (wt0 rfl) rfl rfl (x_not (b := validP m) rfl rfl) ?_)
  refine R.l_of rfl (fun h => hL h) (s_val (v := .bool (!(validP m))) (wt0 rfl) rfl rfl (x_assign rfl rfl) ?_)
  refine R.g_nil ?_
  refine g_then ?_
  rcases Bool.eq_false_or_eq_true (validP m) with hb6 | hb6
  · skip
    refine R.g_cond_f rfl (neg_of hb6) ?_
    refine R.g_seq ?_
    refine R.g_region ?_
    refine R.l_of rfl (fun h => hL h) (s_val (v := .pointer (some ⟨g1, 0, none⟩)) (wt0 rfl) rfl rfl (x_fieldAddr rfl rfl fo33_0 rfl) ?_)
    refine R.l_of rfl (fun h => hL h) (s_val (v := .int .i64 (m.kind)) (wt0 rfl) rfl rfl (x_load1 H5 0 rfl rfl Try.underlying3 rfl rfl rfl) ?_)
    refine R.l_of rfl (fun h => hL h) (s_val (v := .bool (!decide ((m.kind : Int) = 19))) (wt0 rfl) rfl rfl (x_bin rfl rfl rfl b_neq) ?_)
    refine R.l_of rfl (fun h => hL h) (s_val (v := .bool (!decide ((m.kind : Int) = 19))) (wt0 rfl) rfl rfl (x_assign rfl rfl) ?_)
    refine R.g_nil ?_
    refine g_then ?_
    by_cases hb7 : (m.kind : Int) = 19
    · skip
      refine R.g_cond_f rfl (nf hb7) ?_
      refine R.g_skip ?_
      refine g_in ?_
      refine g_then ?_
      refine R.g_seq ?_
      refine R.g_region ?_
      refine R.l_of rfl (fun h => hL h) (s_alloc H5 (wt0 rfl) rfl rfl rfl ze41 ?_)
      intro g8 wq9 H10
      refine R.g_nil ?_
      refine g_then ?_
      refine R.g_seq ?_
      refine R.g_seq ?_
      refine R.g_region ?_
      refine R.l_of rfl (fun h => hL h) (s_val (v := .pointer (some ⟨g1, 7, none⟩)) (wt0 rfl) rfl rfl (x_fieldAddr rfl rfl fo33_7 rfl) ?_)
      refine R.l_of rfl (fun h => hL h) (s_val (v := .string (m.data)) (wt0 rfl) rfl rfl (x_load1 H10 1 rfl rfl Try.underlying9 rfl rfl rfl) ?_)
      refine R.l_of rfl (fun h => hL h) (s_bytesOf H10 (wt0 rfl) rfl rfl rfl rfl Try.underlying9 Try.underlying69 Try.underlying5 ?_)
      intro g11 c12 fr13 cs14 wq17 H18 hcs15 hcc16
      refine R.l_of rfl (fun h => hL h) (s_call (wt0 rfl) (x_call' rfl rfl cl72) (chunk_p _ _ _ _) ?_)
      rintro _ wq21 ⟨g19, g20, rfl, H22⟩
      replace H22 : S wq21 [Ob g20 (.cells #[.int .i64 32] 3 (0, 0)), Ob g19 (.cells #[.slice (some ⟨g11, 0, none⟩) (m.data.size) (c12)] 69 (0, 0)), Ob g11 (.cells cs14 5 fr13), Ob g8 (.cells #[.slice none 0 0] 41 (0, 0)), Ob g1 (.cells m.cells 33 (0, 0)), Old w no] := H18.absorb (new := [Ob g20 (.cells #[.int .i64 32] 3 (0, 0)), Ob g19 (.cells #[.slice (some ⟨g11, 0, none⟩) (m.data.size) (c12)] 69 (0, 0))]) H22
      refine b_ret rfl rfl ?_
      refine R.g_nil ?_
      refine g_then ?_
      refine g_weak [(2, .slice none 0 0), (3, .int .i64 0), (4, .pointer (some ⟨g8, 0, none⟩)), (17, .func (.func 93) #[] #[.pointer (some ⟨g19, 0, none⟩), .pointer (some ⟨g20, 0, none⟩)])] ⟨rfl, rfl, rfl, rfl, trivial⟩ ?_
      refine R.g_block ?_
      obtain ⟨hd32, hd20⟩ := valid_hash hb6 hb7
      obtain ⟨q, hq⟩ : ∃ q, m.data.size / 32 = q := ⟨_, rfl⟩
      rw [hq] at hd32
      have H23 : S wq21 [Rw 9 1 none 0 0 [], Ob g20 (.cells #[.int .i64 32] 3 (0, 0)), Ob g19 (.cells #[.slice (some ⟨g11, 0, none⟩) (m.data.size) (c12)] 69 (0, 0)), Ob g11 (.cells cs14 5 fr13), Ob g8 (.cells #[.slice none 0 0] 41 (0, 0)), Ob g1 (.cells m.cells 33 (0, 0)), Old w no] := H22.nilRw 9 1
      have hsz : w.heap.size ≤ wq21.heap.size := (show Same _ w wq21 from H23.at (k := 6) rfl).size
      refine g_rangeB (n := 9) (α := Ck q) (encs := encC g11) (Kp := Same (fun g => g = g19 ∨ g = g20)) (S' := fun xs => xs = enumC q) (Sp := fun pre => ∃ k, k < q ∧ pre = (enumC q).take (k + 1)) (M := q) (by omega) rfl cl93
        (chunk_seq (c := c12) hd32 hcc16 (by omega) (H23.cell (k := 2) rfl rfl) (H23.cell (k := 1) rfl rfl))
        (fun h k => h.trans k) (same_ck H23 (k1 := 2) (k2 := 1) rfl rfl) (fun _ => rfl) rfl (fun pre Lx => ∃ p d, Lx = [Rw 9 1 p pre.length d (stV (pre.map fun x => chunkS m.data x.1)), Ob g20 (.cells #[.int .i64 32] 3 (0, 0)), Ob g19 (.cells #[.slice (some ⟨g11, 0, none⟩) (m.data.size) (c12)] 69 (0, 0)), Ob g11 (.cells cs14 5 fr13), Ob g8 (.cells #[.slice p pre.length d] 41 (0, 0)), Ob g1 (.cells m.cells 33 (0, 0)), Old w no]) (fun _ _ => False) (fun x => [(4, .pointer (some ⟨g8, 0, none⟩)), (5, .slice (some ⟨g11, (32 * x.1), none⟩) (32) (32))]) ?_ (fun _ _ h => h.elim) (L0 := [Rw 9 1 none 0 0 [], Ob g20 (.cells #[.int .i64 32] 3 (0, 0)), Ob g19 (.cells #[.slice (some ⟨g11, 0, none⟩) (m.data.size) (c12)] 69 (0, 0)), Ob g11 (.cells cs14 5 fr13), Ob g8 (.cells #[.slice none 0 0] 41 (0, 0)), Ob g1 (.cells m.cells 33 (0, 0)), Old w no]) ⟨none, 0, rfl⟩ H23 ?_ ?_ ?_ (fun _ _ _ _ _ _ h => h.elim)
      · rintro _ _ ⟨_, _, rfl⟩; exact (okL_cons' (okB_rw _ _ _ _ _ _ _) (okL_cons' (okB_ob _ _ _ _ _) (okL_cons' (okB_ob _ _ _ _ _) (okL_cons' (okB_ob _ _ _ _ _) (okL_cons' (okB_ob _ _ _ _ _) (okL_cons' (okB_ob _ _ _ _ _) (okL_cons' (okB_old _ _ _ hsz) okL_nil')))))))
      · rintro l pre x _ W24 ⟨p, d, rfl⟩ H25
        have H26 := S.old W24
        have hL : ¬ LetsOut (fun (_ : Exit) (_ : Act) (_ : World) => False) := fun ⟨_, _, h⟩ => h
        refine g_weak [(4, .pointer (some ⟨g8, 0, none⟩)), (18, .slice (some ⟨g11, (32 * x.1), none⟩) (32) (32))] ⟨rfl, rfl, trivial⟩ ?_
        refine R.g_region ?_
        refine R.l_of rfl (fun h => hL h) (s_val (v := .slice (some ⟨g11, (32 * x.1), none⟩) (32) (32)) (wt0 rfl) rfl rfl (x_assign rfl rfl) ?_)
        refine R.g_nil ?_
        refine g_then ?_
        have H27 := H25.absorb (new := []) H26
        exact r_assignB 0 H27 rfl ⟨rfl, rfl, trivial⟩ ((show Same _ W24 W24 from H26.at (k := 0) rfl).less (fun g hg => by rcases hg with rfl | rfl; exact ⟨H25.lt (k := 3) rfl rfl, id⟩; exact ⟨H25.lt (k := 2) rfl rfl, id⟩)) ⟨p, d, rfl⟩ (H27.mask [false, true, true, true, true, true, true, true])
      · rintro l pre x _ W28 ⟨p, d, rfl⟩ hlt H29
        obtain ⟨k, hkq⟩ := x
        replace H29 : S W28 [NC wq21.heap.size W28, Rw 9 1 p pre.length d (stV (pre.map fun x => chunkS m.data x.1)), Ob g20 (.cells #[.int .i64 32] 3 (0, 0)), Ob g19 (.cells #[.slice (some ⟨g11, 0, none⟩) (m.data.size) (c12)] 69 (0, 0)), Ob g11 (.cells cs14 5 fr13), Ob g8 (.cells #[.slice p pre.length d] 41 (0, 0)), Ob g1 (.cells m.cells 33 (0, 0)), Old w no] := H29
        refine g_weak [(4, .pointer (some ⟨g8, 0, none⟩)), (5, .slice (some ⟨g11, (32 * k), none⟩) (32) (32))] ⟨rfl, rfl, trivial⟩ ?_
        refine R.g_block ?_
        refine R.g_region ?_
        refine R.l_of rfl (fun ⟨_, _, h⟩ => h) (s_val (v := .slice p pre.length d) (wt0 rfl) rfl rfl (x_load1 H29 5 rfl rfl Try.underlying41 rfl rfl rfl) ?_)
        refine R.l_of rfl (fun ⟨_, _, h⟩ => h) (s_val (v := .slice (some ⟨g11, (32 * k), none⟩) (32) (32)) (wt0 rfl) rfl rfl (x_move rfl rfl) ?_)
        refine R.l_of rfl (fun ⟨_, _, h⟩ => h) (s_val (v := .string ((chunkS m.data k))) (wt0 rfl) rfl rfl (x_bytes (l := chunkB m.data k) rfl rfl Try.underlying69 Try.underlying9 Try.underlying5 (chunkB_len hd32 hkq) (chunk_cells hd32 hkq hcs15 (fun j u hu => H29.cell (k := 4) rfl hu))) ?_)
        refine R.l_of rfl (fun ⟨_, _, h⟩ => h) (s_buildSlice H29 (wt0 rfl) rfl rfl rfl (vs := [.string ((chunkS m.data k))]) rfl Try.underlying41 sz9 ze9 rfl rfl (cells := #[.string ((chunkS m.data k))]) (by kernel_rfl) ?_)
        intro g30 wq31 H32
        refine R.l_of rfl (fun ⟨_, _, h⟩ => h) (s_appendR (n := pre.length) (m := 1) (sc := d) (xs := (stV (pre.map fun x => chunkS m.data x.1))) (news := [.string ((chunkS m.data k))]) (p := p) (ad := ⟨g30, 0, none⟩) H32 2 (wt0 rfl) rfl rfl rfl rfl rfl rfl Try.underlying41 inf9 rfl (by decide) (by decide) rfl (by decide) (news_ob H32 (j0 := 0) rfl) rfl (by omega) ?_)
        intro p33 c34 wq35 (H36 : S wq35 [Ob g30 (.cells #[.string ((chunkS m.data k))] 9 (0, 0)), NC wq21.heap.size W28, Rw 9 1 p33 (pre.length + 1) c34 ((stV (pre.map fun x => chunkS m.data x.1)) ++ [.string ((chunkS m.data k))]), Ob g20 (.cells #[.int .i64 32] 3 (0, 0)), Ob g19 (.cells #[.slice (some ⟨g11, 0, none⟩) (m.data.size) (c12)] 69 (0, 0)), Ob g11 (.cells cs14 5 fr13), Ob g8 (.cells #[.slice p pre.length d] 41 (0, 0)), Ob g1 (.cells m.cells 33 (0, 0)), Old w no])
        refine R.l_of rfl (fun ⟨_, _, h⟩ => h) (s_store H36 6 (wt0 rfl) rfl rfl rfl rfl rfl sz41 rfl rfl (cs' := #[.slice p33 (pre.length + 1) c34]) rfl ?_)
        intro wq37 H38
        refine R.g_nil ?_
        refine g_in ?_
        have HF := H38.takes [2, 3, 4, 5, 6, 7, 8] (by decide)
        have e1 : (pre ++ [(⟨k, hkq⟩ : Ck q)]).length = pre.length + 1 := by simp
        have e2 : stV ((pre ++ [(⟨k, hkq⟩ : Ck q)]).map (fun x => chunkS m.data x.1)) = stV (pre.map (fun x => chunkS m.data x.1)) ++ [.string (chunkS m.data k)] := by rw [List.map_append, ← stV_snoc]; rfl
        exact r_next 1 H38 rfl (same_ck2 H29 H38 (k := 1) (j1 := 3) (j2 := 2) (k1 := 4) (k2 := 3) rfl rfl rfl rfl rfl) ⟨p33, c34, rfl⟩ (by rw [e1, e2]; exact HF)
      · rintro D xs _ W39 hD hSx ⟨p, d, rfl⟩ H40
        replace H40 : S W39 [Ob D (.deferred (some [])), Rw 9 1 p xs.length d (stV (xs.map fun x => chunkS m.data x.1)), Ob g20 (.cells #[.int .i64 32] 3 (0, 0)), Ob g19 (.cells #[.slice (some ⟨g11, 0, none⟩) (m.data.size) (c12)] 69 (0, 0)), Ob g11 (.cells cs14 5 fr13), Ob g8 (.cells #[.slice p xs.length d] 41 (0, 0)), Ob g1 (.cells m.cells 33 (0, 0)), Old w no] := H40
        refine g_in ?_
        refine g_then ?_
        refine R.g_seq ?_
        refine R.g_region ?_
        refine R.l_of rfl (fun h => hL h) (s_val (v := .slice p xs.length d) (wt0 rfl) rfl rfl (x_load1 H40 5 rfl rfl Try.underlying41 rfl rfl rfl) ?_)
        refine R.l_of rfl (fun h => hL h) (s_val (v := .slice p xs.length d) (wt0 rfl) rfl rfl (x_assign rfl rfl) ?_)
        refine R.l_of rfl (fun h => hL h) (s_val (v := .int .i64 0) (wt0 rfl) rfl rfl (x_assign rfl rfl) ?_)
        refine R.g_nil ?_
        refine g_then ?_
        refine R.g_ret ?_
        refine fin_mark H40 0 rfl [.tmp 2, .tmp 3] [.slice p xs.length d, .int .i64 0] rfl (fun wq41 H42 => ⟨⟨rfl, rfl, trivial⟩, ?_⟩)
        replace H42 : S wq41 [Ob D (.deferred none), Rw 9 1 p xs.length d (stV (xs.map fun x => chunkS m.data x.1)), Ob g20 (.cells #[.int .i64 32] 3 (0, 0)), Ob g19 (.cells #[.slice (some ⟨g11, 0, none⟩) (m.data.size) (c12)] 69 (0, 0)), Ob g11 (.cells cs14 5 fr13), Ob g8 (.cells #[.slice p xs.length d] 41 (0, 0)), Ob g1 (.cells m.cells 33 (0, 0)), Old w no] := H42
        have hd : digS m = (chunksS m.data, 0) := by unfold digS; rw [if_pos hb6, if_pos hb7]
        have hcl := chunks_len m.data
        rw [hd]
        have HF := H42.takes [1, 7] (by decide)
        have hxl : xs.length = m.data.size / 32 := by rw [hSx, enumC_len]; exact hq.symm
        have hxm : xs.map (fun x => chunkS m.data x.1) = chunksS m.data := by rw [hSx]; unfold chunksS; rw [hq]; exact enumC_all _ _
        rw [hxm, hxl] at HF
        rw [hxl]
        show ∃ p c, _ = Ending.returned (.tuple #[.slice p (chunksS m.data).length c, .int .i64 0]) ∧ S _ ([Rw 9 1 p (chunksS m.data).length c (stV (chunksS m.data))] ++ [Old w no])
        rw [hcl]
        exact ⟨p, d, rfl, HF⟩
    · skip
      refine R.g_cond_t rfl (nt hb7) ?_
      refine R.g_seq ?_
      refine R.g_region ?_
      refine R.l_of rfl (fun h => hL h) (s_val (v := .slice none 0 0) (wt0 rfl) rfl rfl (x_assign rfl rfl) ?_)
      refine R.l_of rfl (fun h => hL h) (s_val (v := .int .i64 10) (wt0 rfl) rfl rfl (x_assign rfl rfl) ?_)
      refine R.g_nil ?_
      refine g_then ?_
      refine R.g_ret ?_
      refine g_in_ret ?_
      refine g_then_ret ?_
      refine fin_plain [.tmp 2, .tmp 3] [.slice none 0 0, .int .i64 10] rfl ⟨rfl, rfl, trivial⟩ ?_
      have hd : digS m = ([], 10) := by unfold digS; rw [if_pos hb6, if_neg hb7]
      rw [hd]
      exact ⟨none, 0, rfl, (H5.takes [1] (by decide)).nilRw 9 1⟩
  · skip
    refine R.g_cond_t rfl (neg_of hb6) ?_
    refine R.g_seq ?_
    refine R.g_region ?_
    refine R.l_of rfl (fun h => hL h) (s_val (v := .slice none 0 0) (wt0 rfl) rfl rfl (x_assign rfl rfl) ?_)
    refine R.l_of rfl (fun h => hL h) (s_val (v := .int .i64 1) (wt0 rfl) rfl rfl (x_assign rfl rfl) ?_)
    refine R.g_nil ?_
    refine g_then ?_
    refine R.g_ret ?_
    refine g_in_ret ?_
    refine g_then_ret ?_
    refine fin_plain [.tmp 2, .tmp 3] [.slice none 0 0, .int .i64 1] rfl ⟨rfl, rfl, trivial⟩ ?_
    have hd : digS m = ([], 1) := by unfold digS; rw [if_neg (by rw [hb6]; exact Bool.false_ne_true)]
    rw [hd]
    exact ⟨none, 0, rfl, (H5.takes [1] (by decide)).nilRw 9 1⟩
end Go.Proofs.Ytcjmdkklbbollaa
