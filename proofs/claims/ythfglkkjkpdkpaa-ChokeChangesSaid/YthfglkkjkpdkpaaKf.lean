import Derived.Test.YthfglkkjkpdkpaaKe
set_option linter.unusedSimpArgs false
set_option linter.unusedVariables false
namespace Go.Proofs.Ythfglkkjkpdkpaa
open Go.RowKit

theorem cl5 : callable Try.prog 5 = true := by kernel_rfl
theorem cl6 : callable Try.prog 6 = true := by kernel_rfl
theorem cl7 : callable Try.prog 7 = true := by kernel_rfl
theorem cl8 : callable Try.prog 8 = true := by kernel_rfl
theorem cl9 : callable Try.prog 9 = true := by kernel_rfl
theorem onV_len (l : List Rv) (m : List Int) : (onV l m).length ≤ l.length := by
  unfold onV onL; split
  · rw [sortI_len, List.length_map]; exact List.length_filter_le _ _
  · exact Nat.zero_le _
theorem offV_len (l : List Rv) (m : List Int) : (offV l m).length ≤ l.length := by
  unfold offV offL; split
  · rw [sortI_len, List.length_map]; exact List.length_filter_le _ _
  · exact Nat.zero_le _
theorem id_inj {l : List Rv} (h : (l.map Rv.id).Nodup) {x y : Rv} (hx : x ∈ l) (hy : y ∈ l) (he : x.id = y.id) : x = y := by
  induction l with
  | nil => cases hx
  | cons a t ih =>
    rw [List.map_cons, List.nodup_cons] at h
    rcases List.mem_cons.1 hx with rfl | hx1 <;> rcases List.mem_cons.1 hy with rfl | hy1
    · rfl
    · exact absurd (List.mem_map.2 ⟨y, hy1, he.symm⟩) h.1
    · exact absurd (List.mem_map.2 ⟨x, hx1, he⟩) h.1
    · exact ih h.2 hx1 hy1
theorem mem_fid {l : List Rv} (h : (l.map Rv.id).Nodup) {q : Rv → Bool} {x : Rv} (hx : x ∈ l) : x.id ∈ (l.filter q).map Rv.id ↔ q x = true := by
  constructor
  · intro h1
    obtain ⟨y, hy, he⟩ := List.mem_map.1 h1
    obtain ⟨hy, hq⟩ := List.mem_filter.1 hy
    rw [← id_inj h hy hx he]; exact hq
  · intro hq; exact List.mem_map.2 ⟨x, List.mem_filter.2 ⟨hx, hq⟩, rfl⟩
theorem chg_law {l : List Rv} {m : List Int} (h : chgE l m = 0) {x : Rv} (hx : x ∈ l) : (x.id ∈ onV l m ↔ x.id ∈ m ∧ x.now = false) ∧ (x.id ∈ offV l m ↔ x.id ∉ m ∧ x.now = true) := by
  obtain ⟨h1, h2⟩ := chg_z h
  have hn := (askE_ok (chg_ok h).1).2.2
  rw [h1, h2]; unfold onL offL
  rw [sortI_mem, sortI_mem, mem_fid hn hx, mem_fid hn hx]
  simp
set_option maxRecDepth 20000 in
set_option maxHeartbeats 4000000 in
set_option maxRecDepth 20000 in
set_option maxHeartbeats 4000000 in
theorem changes_law (l : List Rv) (p : Option Addr) (n c : Nat) (hn2 : n ≤ 9223372036854775807) (m : List Int) (q : Option Addr) (k d : Nat) (hk2 : k ≤ 9223372036854775807) (hok : ∀ y ∈ m, okI y)  (w : World) (hr : Reads w p n c 10 (fl rvL l)) (hq : Reads w q k d 1 (fl intL m)) : Calls Try.prog 3 #[.slice p n c, .slice q k d] w fun e w' => e = .returned (.bool true) ∧ S w' [Old w no] := by
  have H0 := S.old w
  have hnl := hr.lenL rvE
  have hkm := hq.lenL intE
  have hon := onV_len l m
  have hof := offV_len l m
  refine enter 84 Try.func3 rfl rfl rfl ?_
  refine g_weak [(0, .slice p n c), (1, .slice q k d)] ⟨rfl, rfl, trivial⟩ ?_
  refine g_seq ?_
  refine g_region ?_
  refine l_of (s_val (v := .bool false) (wt0 rfl) rfl rfl (x_assign rfl rfl) ?_)
  refine g_nil ?_
  refine g_then ?_
  refine g_seq ?_
  refine g_seq ?_
  refine g_region ?_
  refine l_of (s_val (v := .slice p n c) (wt0 rfl) rfl rfl (x_move rfl rfl) ?_)
  refine l_of (s_val (v := .int .i64 ((n : Int))) (wt0 rfl) rfl rfl (x_lenl rfl rfl Try.underlying22) ?_)
  refine l_of (s_val (v := .bool (decide ((30 : Int) < (n : Int)))) (wt0 rfl) rfl rfl (x_bin rfl rfl rfl b_gtr) ?_)
  refine l_of (s_val (v := .bool (decide ((30 : Int) < (n : Int)))) (wt0 rfl) rfl rfl (x_move rfl rfl) ?_)
  by_cases hb1 : (30 : Int) < (n : Int)
  · skip
    refine l_of (s_not (wn1 rfl rfl rfl rfl (decide_eq_true hb1)) rfl rfl ?_)
    refine l_of (s_not (wn1 rfl rfl rfl rfl (decide_eq_true hb1)) rfl rfl ?_)
    refine l_of (s_not (wn1 rfl rfl rfl rfl (decide_eq_true hb1)) rfl rfl ?_)
    refine l_of (s_val (v := .bool true) (wt0 rfl) rfl rfl (x_pick_t rfl rfl (decide_eq_true hb1) rfl) ?_)
    refine g_nil ?_
    refine g_then ?_
    refine g_cond_t rfl rfl ?_
    refine g_seq ?_
    refine g_region ?_
    refine l_of (s_call (wt0 rfl) (x_call' rfl rfl cl5) (awake_s _) ?_)
    rintro _ wq2 ⟨rfl, H3⟩
    replace H3 : S wq2 [Old w no] := H0.absorb (new := []) H3
    refine b_ret rfl rfl ?_
    refine l_of (s_val (v := .bool true) (wt0 rfl) rfl rfl (x_assign rfl rfl) ?_)
    refine g_nil ?_
    refine g_then ?_
    refine g_ret ?_
    refine g_then_ret ?_
    refine fin_ret [.tmp 4] [.bool true] rfl ⟨rfl, trivial⟩ ?_
    exact ⟨rfl, H3.mask [true]⟩
  · skip
    refine l_of (s_val (v := .slice q k d) (wt1 rfl rfl rfl rfl (decide_eq_false hb1)) rfl rfl (x_move rfl rfl) ?_)
    refine l_of (s_val (v := .int .i64 ((k : Int))) (wt1 rfl rfl rfl rfl (decide_eq_false hb1)) rfl rfl (x_lenl rfl rfl Try.underlying23) ?_)
    refine l_of (s_val (v := .bool (decide ((40 : Int) < (k : Int)))) (wt1 rfl rfl rfl rfl (decide_eq_false hb1)) rfl rfl (x_bin rfl rfl rfl b_gtr) ?_)
    refine l_of (s_val (v := .bool (decide ((40 : Int) < (k : Int)))) (wt0 rfl) rfl rfl (x_pick_f rfl rfl (decide_eq_false hb1) rfl) ?_)
    refine g_nil ?_
    refine g_then ?_
    by_cases hb4 : (40 : Int) < (k : Int)
    · skip
      refine g_cond_t rfl (decide_eq_true hb4) ?_
      refine g_seq ?_
      refine g_region ?_
      refine l_of (s_call (wt0 rfl) (x_call' rfl rfl cl5) (awake_s _) ?_)
      rintro _ wq5 ⟨rfl, H6⟩
      replace H6 : S wq5 [Old w no] := H0.absorb (new := []) H6
      refine b_ret rfl rfl ?_
      refine l_of (s_val (v := .bool true) (wt0 rfl) rfl rfl (x_assign rfl rfl) ?_)
      refine g_nil ?_
      refine g_then ?_
      refine g_ret ?_
      refine g_then_ret ?_
      refine fin_ret [.tmp 4] [.bool true] rfl ⟨rfl, trivial⟩ ?_
      exact ⟨rfl, H6.mask [true]⟩
    · skip
      refine g_cond_f rfl (decide_eq_false hb4) ?_
      refine g_skip ?_
      refine g_then ?_
      refine g_seq ?_
      refine g_region ?_
      refine l_of (s_val (v := .slice p n c) (wt0 rfl) rfl rfl (x_move rfl rfl) ?_)
      refine l_of (s_val (v := .slice q k d) (wt0 rfl) rfl rfl (x_move rfl rfl) ?_)
      refine l_of (s_call (wt0 rfl) (x_call' rfl rfl cl6) (changes_s l p n c (by omega) m q k d (by omega) _ (H0.exReads (k := 0) rfl hr (fun _ _ _ h => h)) (H0.exReads (k := 0) rfl hq (fun _ _ _ h => h))) ?_)
      rintro _ wq11 ⟨pa7, ca8, pb9, cb10, rfl, H12⟩
      replace H12 : S wq11 [Rw 3 1 pa7 ((onV l m).length) ca8 (fl intL (onV l m)), Rw 3 1 pb9 ((offV l m).length) cb10 (fl intL (offV l m)), Old w no] := H0.absorb (new := [Rw 3 1 pa7 ((onV l m).length) ca8 (fl intL (onV l m)), Rw 3 1 pb9 ((offV l m).length) cb10 (fl intL (offV l m))]) H12
      refine b_ret rfl rfl ?_
      refine l_of (s_val (v := .tuple #[.slice pa7 ((onV l m).length) ca8, .slice pb9 ((offV l m).length) cb10, .int .i64 ((chgE l m))]) (wt0 rfl) rfl rfl (x_move rfl rfl) ?_)
      refine l_of (s_val (v := .slice pa7 ((onV l m).length) ca8) (wt0 rfl) rfl rfl (x_extract rfl rfl rfl) ?_)
      refine l_of (s_val (v := .slice pb9 ((offV l m).length) cb10) (wt0 rfl) rfl rfl (x_extract rfl rfl rfl) ?_)
      refine l_of (s_val (v := .int .i64 ((chgE l m))) (wt0 rfl) rfl rfl (x_extract rfl rfl rfl) ?_)
      refine l_of (s_val (v := .slice pa7 ((onV l m).length) ca8) (wt0 rfl) rfl rfl (x_assign rfl rfl) ?_)
      refine l_of (s_val (v := .slice pb9 ((offV l m).length) cb10) (wt0 rfl) rfl rfl (x_assign rfl rfl) ?_)
      refine l_of (s_val (v := .int .i64 ((chgE l m))) (wt0 rfl) rfl rfl (x_assign rfl rfl) ?_)
      refine g_nil ?_
      refine g_then ?_
      refine g_weak [(0, .slice p n c), (1, .slice q k d), (5, .slice pa7 ((onV l m).length) ca8), (6, .slice pb9 ((offV l m).length) cb10), (7, .int .i64 ((chgE l m)))] ⟨rfl, rfl, rfl, rfl, rfl, trivial⟩ ?_
      refine g_seq ?_
      refine g_region ?_
      refine l_of (s_val (v := .slice p n c) (wt0 rfl) rfl rfl (x_move rfl rfl) ?_)
      refine l_of (s_val (v := .slice q k d) (wt0 rfl) rfl rfl (x_move rfl rfl) ?_)
      refine l_of (s_call (wt0 rfl) (x_call' rfl rfl cl7) (changes_r l p n c (by omega) m q k d (by omega) hok _ (H12.exReads (k := 2) rfl hr (fun _ _ _ h => h)) (H12.exReads (k := 2) rfl hq (fun _ _ _ h => h))) ?_)
      rintro _ wq17 ⟨pa13, ca14, pb15, cb16, rfl, H18⟩
      replace H18 : S wq17 [Rw 3 1 pa13 ((onV l m).length) ca14 (fl intL (onV l m)), Rw 3 1 pb15 ((offV l m).length) cb16 (fl intL (offV l m)), Rw 3 1 pa7 ((onV l m).length) ca8 (fl intL (onV l m)), Rw 3 1 pb9 ((offV l m).length) cb10 (fl intL (offV l m)), Old w no] := H12.absorb (new := [Rw 3 1 pa13 ((onV l m).length) ca14 (fl intL (onV l m)), Rw 3 1 pb15 ((offV l m).length) cb16 (fl intL (offV l m))]) H18
      refine b_ret rfl rfl ?_
      refine l_of (s_val (v := .tuple #[.slice pa13 ((onV l m).length) ca14, .slice pb15 ((offV l m).length) cb16, .int .i64 ((chgE l m))]) (wt0 rfl) rfl rfl (x_move rfl rfl) ?_)
      refine l_of (s_val (v := .slice pa13 ((onV l m).length) ca14) (wt0 rfl) rfl rfl (x_extract rfl rfl rfl) ?_)
      refine l_of (s_val (v := .slice pb15 ((offV l m).length) cb16) (wt0 rfl) rfl rfl (x_extract rfl rfl rfl) ?_)
      refine l_of (s_val (v := .int .i64 ((chgE l m))) (wt0 rfl) rfl rfl (x_extract rfl rfl rfl) ?_)
      refine l_of (s_val (v := .slice pa13 ((onV l m).length) ca14) (wt0 rfl) rfl rfl (x_assign rfl rfl) ?_)
      refine l_of (s_val (v := .slice pb15 ((offV l m).length) cb16) (wt0 rfl) rfl rfl (x_assign rfl rfl) ?_)
      refine l_of (s_val (v := .int .i64 ((chgE l m))) (wt0 rfl) rfl rfl (x_assign rfl rfl) ?_)
      refine g_nil ?_
      refine g_then ?_
      refine g_seq ?_
      refine g_seq ?_
      refine g_region ?_
      refine l_of (s_val (v := .int .i64 ((chgE l m))) (wt0 rfl) rfl rfl (x_move rfl rfl) ?_)
      refine l_of (s_val (v := .int .i64 ((chgE l m))) (wt0 rfl) rfl rfl (x_move rfl rfl) ?_)
      refine l_of (s_val (v := .bool (!decide (((chgE l m) : Int) = (chgE l m)))) (wt0 rfl) rfl rfl (x_bin rfl rfl rfl b_neq) ?_)
      refine l_of (s_val (v := .bool (!decide (((chgE l m) : Int) = (chgE l m)))) (wt0 rfl) rfl rfl (x_move rfl rfl) ?_)
      refine l_of (s_val (v := .slice pa7 ((onV l m).length) ca8) (wt1 rfl rfl rfl rfl (nf rfl)) rfl rfl (x_move rfl rfl) ?_)
      refine l_of (s_val (v := .slice pa13 ((onV l m).length) ca14) (wt1 rfl rfl rfl rfl (nf rfl)) rfl rfl (x_move rfl rfl) ?_)
      refine l_of (s_call (wt1 rfl rfl rfl rfl (nf rfl)) (x_call' rfl rfl cl8) (same_i (onV l m) (by omega) pa7 ((onV l m).length) ca8 pa13 ((onV l m).length) ca14 _ (H18.rwReads (k := 2) rfl) (H18.rwReads (k := 0) rfl)) ?_)
      rintro _ wq19 ⟨rfl, H20⟩
      replace H20 : S wq19 [Rw 3 1 pa13 ((onV l m).length) ca14 (fl intL (onV l m)), Rw 3 1 pb15 ((offV l m).length) cb16 (fl intL (offV l m)), Rw 3 1 pa7 ((onV l m).length) ca8 (fl intL (onV l m)), Rw 3 1 pb9 ((offV l m).length) cb10 (fl intL (offV l m)), Old w no] := H18.absorb (new := []) H20
      refine b_ret rfl rfl ?_
      refine l_of (s_val (v := .bool false) (wt1 rfl rfl rfl rfl (nf rfl)) rfl rfl (x_not (b := true) rfl rfl) ?_)
      refine l_of (s_val (v := .bool false) (wt0 rfl) rfl rfl (x_pick_f rfl rfl (nf rfl) rfl) ?_)
      refine l_of (s_val (v := .bool false) (wt0 rfl) rfl rfl (x_move rfl rfl) ?_)
      refine l_of (s_val (v := .slice pb9 ((offV l m).length) cb10) (wt1 rfl rfl rfl rfl rfl) rfl rfl (x_move rfl rfl) ?_)
      refine l_of (s_val (v := .slice pb15 ((offV l m).length) cb16) (wt1 rfl rfl rfl rfl rfl) rfl rfl (x_move rfl rfl) ?_)
      refine l_of (s_call (wt1 rfl rfl rfl rfl rfl) (x_call' rfl rfl cl8) (same_i (offV l m) (by omega) pb9 ((offV l m).length) cb10 pb15 ((offV l m).length) cb16 _ (H20.rwReads (k := 3) rfl) (H20.rwReads (k := 1) rfl)) ?_)
      rintro _ wq21 ⟨rfl, H22⟩
      replace H22 : S wq21 [Rw 3 1 pa13 ((onV l m).length) ca14 (fl intL (onV l m)), Rw 3 1 pb15 ((offV l m).length) cb16 (fl intL (offV l m)), Rw 3 1 pa7 ((onV l m).length) ca8 (fl intL (onV l m)), Rw 3 1 pb9 ((offV l m).length) cb10 (fl intL (offV l m)), Old w no] := H20.absorb (new := []) H22
      refine b_ret rfl rfl ?_
      refine l_of (s_val (v := .bool false) (wt1 rfl rfl rfl rfl rfl) rfl rfl (x_not (b := true) rfl rfl) ?_)
      refine l_of (s_val (v := .bool false) (wt0 rfl) rfl rfl (x_pick_f rfl rfl rfl rfl) ?_)
      refine g_nil ?_
      refine g_then ?_
      refine g_weak [(0, .slice p n c), (1, .slice q k d), (5, .slice pa7 ((onV l m).length) ca8), (6, .slice pb9 ((offV l m).length) cb10), (7, .int .i64 ((chgE l m))), (51, .bool false)] ⟨rfl, rfl, rfl, rfl, rfl, rfl, trivial⟩ ?_
      refine g_cond_f rfl rfl ?_
      refine g_skip ?_
      refine g_then ?_
      refine g_seq ?_
      refine g_seq ?_
      refine g_region ?_
      refine l_of (s_val (v := .int .i64 ((chgE l m))) (wt0 rfl) rfl rfl (x_move rfl rfl) ?_)
      refine l_of (s_val (v := .bool (!decide (((chgE l m) : Int) = 0))) (wt0 rfl) rfl rfl (x_bin rfl rfl rfl b_neq) ?_)
      refine g_nil ?_
      refine g_then ?_
      by_cases hb23 : ((chgE l m) : Int) = 0
      · skip
        refine g_cond_f rfl (nf hb23) ?_
        refine g_skip ?_
        refine g_then ?_
        refine g_seq ?_
        refine g_seq ?_
        refine g_region ?_
        refine l_of (s_val (v := .slice p n c) (wt0 rfl) rfl rfl (x_move rfl rfl) ?_)
        refine l_of (s_val (v := .int .i64 ((n : Int))) (wt0 rfl) rfl rfl (x_lenl rfl rfl Try.underlying22) ?_)
        refine l_of (s_val (v := .int .i64 0) (wt0 rfl) rfl rfl (x_move rfl rfl) ?_)
        refine g_nil ?_
        refine g_then ?_
        refine g_block ?_
        refine g_loop (ι := Nat) (fun i => [(1, .slice q k d), (5, .slice pa7 ((onV l m).length) ca8), (6, .slice pb9 ((offV l m).length) cb10), (55, .slice p n c), (56, .int .i64 ((n : Int))), (57, .int .i64 ((i : Int)))]) (fun i wx => (i ≤ n) ∧ S wx [Rw 3 1 pa7 ((onV l m).length) ca8 (fl intL (onV l m)), Rw 3 1 pb9 ((offV l m).length) cb10 (fl intL (offV l m)), Old w no]) (fun i => n - i) (0) ⟨rfl, rfl, rfl, rfl, rfl, rfl, trivial⟩ ⟨Nat.zero_le _, (H22.takes [2, 3, 4] (by decide))⟩ ?_
        rintro i wq24 ⟨hi, H25⟩
        replace H25 : S wq24 [Rw 3 1 pa7 ((onV l m).length) ca8 (fl intL (onV l m)), Rw 3 1 pb9 ((offV l m).length) cb10 (fl intL (offV l m)), Old w no] := H25
        refine g_weak [(1, .slice q k d), (5, .slice pa7 ((onV l m).length) ca8), (6, .slice pb9 ((offV l m).length) cb10), (55, .slice p n c), (56, .int .i64 ((n : Int))), (57, .int .i64 ((i : Int)))] ⟨rfl, rfl, rfl, rfl, rfl, rfl, trivial⟩ ?_
        refine g_seq ?_
        refine g_region ?_
        refine l_of (s_val (v := .bool (decide (((i : Int) : Int) < (n : Int)))) (wt0 rfl) rfl rfl (x_bin rfl rfl rfl b_lss) ?_)
        refine g_nil ?_
        refine g_then ?_
        refine g_seq ?_
        by_cases hb26 : ((i : Int) : Int) < (n : Int)
        · skip
          refine g_cond_t rfl (decide_eq_true hb26) ?_
          refine g_skip ?_
          refine g_then ?_
          refine g_seq ?_
          refine g_block ?_
          refine g_seq ?_
          refine g_region ?_
          refine l_of (s_val (v := .pointer ((p).map fun q => q.add (i * 10))) (wt0 rfl) rfl rfl (x_idxR i (H25.exReads (k := 2) rfl hr (fun _ _ _ h => h)) rfl rfl rfl Try.underlying22 sz30 (by omega)) ?_)
          have hlq := (H25.exReads (k := 2) rfl hr (fun _ _ _ h => h)).lenL rvE
          obtain ⟨x27, hx27⟩ := ex_at (l := l) (j := i) (by omega)
          clear hlq
          refine l_of (s_val (v := .agg #[.int .i64 (x27.id), .bool x27.intr, .bool x27.chk, .int .i64 (x27.frm), .int .i64 (x27.to), .int .i64 (x27.lt), .int .i64 (x27.since), .bool x27.snb, .bool x27.now, .bool x27.seed]) (wt0 rfl) rfl rfl (x_loadRA (vs := rvL x27) i (H25.exReads (k := 2) rfl hr (fun _ _ _ h => h)) (by omega) rfl rfl Try.underlying30 rfl sz30 (by rfl) (rvE.flAt hx27)) ?_)
          refine l_of (s_alloc H25 (wt0 rfl) rfl rfl rfl ze30 ?_)
          intro g28 wq29 H30
          refine l_of (s_store H30 0 (wt0 rfl) rfl rfl rfl rfl rfl sz30 rfl rfl (cs' := #[.int .i64 (x27.id), .bool x27.intr, .bool x27.chk, .int .i64 (x27.frm), .int .i64 (x27.to), .int .i64 (x27.lt), .int .i64 (x27.since), .bool x27.snb, .bool x27.now, .bool x27.seed]) rfl ?_)
          intro wq31 H32
          refine g_nil ?_
          refine g_then ?_
          refine g_seq ?_
          refine g_region ?_
          refine l_of (s_val (v := .pointer (some ⟨g28, 8, none⟩)) (wt0 rfl) rfl rfl (x_fieldAddr rfl rfl fo30_8 rfl) ?_)
          refine l_of (s_val (v := .bool x27.now) (wt0 rfl) rfl rfl (x_load1 H32 0 rfl rfl Try.underlying4 rfl rfl rfl) ?_)
          refine l_of (s_val (v := .bool x27.now) (wt0 rfl) rfl rfl (x_move rfl rfl) ?_)
          rcases Bool.eq_false_or_eq_true (x27.now) with hb33 | hb33
          · skip
            refine l_of (s_not (wn1 rfl rfl rfl rfl hb33) rfl rfl ?_)
            refine l_of (s_not (wn1 rfl rfl rfl rfl hb33) rfl rfl ?_)
            refine l_of (s_not (wn1 rfl rfl rfl rfl hb33) rfl rfl ?_)
            refine l_of (s_not (wn1 rfl rfl rfl rfl hb33) rfl rfl ?_)
            refine l_of (s_val (v := .bool true) (wt0 rfl) rfl rfl (x_pick_t rfl rfl hb33 rfl) ?_)
            refine l_of (s_val (v := .bool true) (wt0 rfl) rfl rfl (x_move rfl rfl) ?_)
            refine l_of (s_val (v := .slice pb9 ((offV l m).length) cb10) (wt1 rfl rfl rfl rfl rfl) rfl rfl (x_move rfl rfl) ?_)
            refine l_of (s_val (v := .pointer (some ⟨g28, 0, none⟩)) (wt1 rfl rfl rfl rfl rfl) rfl rfl (x_fieldAddr rfl rfl fo30_0 rfl) ?_)
            refine l_of (s_val (v := .int .i64 (x27.id)) (wt1 rfl rfl rfl rfl rfl) rfl rfl (x_load1 H32 0 rfl rfl Try.underlying3 rfl rfl rfl) ?_)
            refine l_of (s_call (wt1 rfl rfl rfl rfl rfl) (x_call' rfl rfl cl9) (in_l (offV l m) pb9 ((offV l m).length) cb10 x27.id (by omega) _ (H32.rwReads (k := 2) rfl)) ?_)
            rintro _ wq34 ⟨rfl, H35⟩
            replace H35 : S wq34 [Ob g28 (.cells #[.int .i64 (x27.id), .bool x27.intr, .bool x27.chk, .int .i64 (x27.frm), .int .i64 (x27.to), .int .i64 (x27.lt), .int .i64 (x27.since), .bool x27.snb, .bool x27.now, .bool x27.seed] 30 (0, 0)), Rw 3 1 pa7 ((onV l m).length) ca8 (fl intL (onV l m)), Rw 3 1 pb9 ((offV l m).length) cb10 (fl intL (offV l m)), Old w no] := H32.absorb (new := []) H35
            refine b_ret rfl rfl ?_
            refine l_of (s_val (v := .bool (!((decide (x27.id ∈ (offV l m)))))) (wt1 rfl rfl rfl rfl rfl) rfl rfl (x_not (b := (decide (x27.id ∈ (offV l m)))) rfl rfl) ?_)
            refine l_of (s_val (v := .bool (!((decide (x27.id ∈ (offV l m)))))) (wt0 rfl) rfl rfl (x_pick_t rfl rfl rfl rfl) ?_)
            refine l_of (s_val (v := .bool (!((decide (x27.id ∈ (offV l m)))))) (wt0 rfl) rfl rfl (x_assign rfl rfl) ?_)
            refine g_nil ?_
            refine g_then ?_
            refine g_weak [(1, .slice q k d), (5, .slice pa7 ((onV l m).length) ca8), (6, .slice pb9 ((offV l m).length) cb10), (12, .pointer (some ⟨g28, 0, none⟩)), (13, .bool (!((decide (x27.id ∈ (offV l m)))))), (55, .slice p n c), (56, .int .i64 ((n : Int))), (57, .int .i64 ((i : Int)))] ⟨rfl, rfl, rfl, rfl, rfl, rfl, rfl, rfl, trivial⟩ ?_
            refine g_seq ?_
            refine g_region ?_
            refine l_of (s_val (v := .bool (!((decide (x27.id ∈ (offV l m)))))) (wt0 rfl) rfl rfl (x_move rfl rfl) ?_)
            refine l_of (s_val (v := .slice q k d) (wt0 rfl) rfl rfl (x_move rfl rfl) ?_)
            refine l_of (s_val (v := .pointer (some ⟨g28, 0, none⟩)) (wt0 rfl) rfl rfl (x_fieldAddr rfl rfl fo30_0 rfl) ?_)
            refine l_of (s_val (v := .int .i64 (x27.id)) (wt0 rfl) rfl rfl (x_load1 H35 0 rfl rfl Try.underlying3 rfl rfl rfl) ?_)
            refine l_of (s_call (wt0 rfl) (x_call' rfl rfl cl9) (in_l m q k d x27.id (by omega) _ (H35.exReads (k := 3) rfl hq (fun _ _ _ h => h))) ?_)
            rintro _ wq36 ⟨rfl, H37⟩
            replace H37 : S wq36 [Ob g28 (.cells #[.int .i64 (x27.id), .bool x27.intr, .bool x27.chk, .int .i64 (x27.frm), .int .i64 (x27.to), .int .i64 (x27.lt), .int .i64 (x27.since), .bool x27.snb, .bool x27.now, .bool x27.seed] 30 (0, 0)), Rw 3 1 pa7 ((onV l m).length) ca8 (fl intL (onV l m)), Rw 3 1 pb9 ((offV l m).length) cb10 (fl intL (offV l m)), Old w no] := H35.absorb (new := []) H37
            refine b_ret rfl rfl ?_
            refine l_of (s_val (v := .bool (!((!((decide (x27.id ∈ (offV l m))))) == ((decide (x27.id ∈ m)))))) (wt0 rfl) rfl rfl (x_bin rfl rfl rfl (b_neN Try.underlying4 rfl)) ?_)
            refine g_nil ?_
            refine g_then ?_
            rcases Bool.eq_false_or_eq_true ((!((decide (x27.id ∈ (offV l m))))) == ((decide (x27.id ∈ m)))) with hb38 | hb38
            · skip
              refine g_cond_f rfl (neg_of hb38) ?_
              refine g_skip ?_
              refine g_in ?_
              refine g_then ?_
              refine g_region ?_
              refine l_of (s_val (v := .int .i64 (((i + 1 : Nat) : Int))) (wt0 rfl) rfl rfl (x_bin rfl rfl rfl (b_add (by rw [w64 (by omega)]; omega))) ?_)
              refine l_of (s_val (v := .int .i64 (((i + 1 : Nat) : Int))) (wt0 rfl) rfl rfl (x_move rfl rfl) ?_)
              refine g_nil ?_
              refine g_then ?_
              refine g_round (i := (i)) ((i + 1)) ?_ ?_ ?_
              · exact ⟨rfl, rfl, rfl, rfl, rfl, rfl, trivial⟩
              · exact ⟨by omega, (H37.takes [1, 2, 3] (by decide))⟩
              · (try dsimp only); omega
            · skip
              refine g_cond_t rfl (neg_of hb38) ?_
              refine g_seq ?_
              refine g_region ?_
              refine l_of (s_val (v := .bool false) (wt0 rfl) rfl rfl (x_assign rfl rfl) ?_)
              refine g_nil ?_
              refine g_then ?_
              refine g_weak [(4, .bool false)] ⟨rfl, trivial⟩ ?_
              refine g_ret ?_
              refine g_in_ret ?_
              refine g_then_ret ?_
              refine g_then_ret ?_
              refine g_in_ret ?_
              refine g_then_ret ?_
              refine fin_ret [.tmp 4] [.bool false] rfl ⟨rfl, trivial⟩ ?_
              have hz : chgE l m = 0 := by omega
              obtain ⟨e1, e2⟩ := chg_law hz (List.mem_of_getElem? hx27)
              exfalso
              simp_all
          · skip
            refine l_of (s_val (v := .slice pa7 ((onV l m).length) ca8) (wt1 rfl rfl rfl rfl hb33) rfl rfl (x_move rfl rfl) ?_)
            refine l_of (s_val (v := .pointer (some ⟨g28, 0, none⟩)) (wt1 rfl rfl rfl rfl hb33) rfl rfl (x_fieldAddr rfl rfl fo30_0 rfl) ?_)
            refine l_of (s_val (v := .int .i64 (x27.id)) (wt1 rfl rfl rfl rfl hb33) rfl rfl (x_load1 H32 0 rfl rfl Try.underlying3 rfl rfl rfl) ?_)
            refine l_of (s_call (wt1 rfl rfl rfl rfl hb33) (x_call' rfl rfl cl9) (in_l (onV l m) pa7 ((onV l m).length) ca8 x27.id (by omega) _ (H32.rwReads (k := 1) rfl)) ?_)
            rintro _ wq39 ⟨rfl, H40⟩
            replace H40 : S wq39 [Ob g28 (.cells #[.int .i64 (x27.id), .bool x27.intr, .bool x27.chk, .int .i64 (x27.frm), .int .i64 (x27.to), .int .i64 (x27.lt), .int .i64 (x27.since), .bool x27.snb, .bool x27.now, .bool x27.seed] 30 (0, 0)), Rw 3 1 pa7 ((onV l m).length) ca8 (fl intL (onV l m)), Rw 3 1 pb9 ((offV l m).length) cb10 (fl intL (offV l m)), Old w no] := H32.absorb (new := []) H40
            refine b_ret rfl rfl ?_
            refine l_of (s_val (v := .bool ((decide (x27.id ∈ (onV l m))))) (wt0 rfl) rfl rfl (x_pick_f rfl rfl hb33 rfl) ?_)
            refine l_of (s_val (v := .bool ((decide (x27.id ∈ (onV l m))))) (wt0 rfl) rfl rfl (x_move rfl rfl) ?_)
            rcases Bool.eq_false_or_eq_true ((decide (x27.id ∈ (onV l m)))) with hb41 | hb41
            · skip
              refine l_of (s_val (v := .slice pb9 ((offV l m).length) cb10) (wt1 rfl rfl rfl rfl hb41) rfl rfl (x_move rfl rfl) ?_)
              refine l_of (s_val (v := .pointer (some ⟨g28, 0, none⟩)) (wt1 rfl rfl rfl rfl hb41) rfl rfl (x_fieldAddr rfl rfl fo30_0 rfl) ?_)
              refine l_of (s_val (v := .int .i64 (x27.id)) (wt1 rfl rfl rfl rfl hb41) rfl rfl (x_load1 H40 0 rfl rfl Try.underlying3 rfl rfl rfl) ?_)
              refine l_of (s_call (wt1 rfl rfl rfl rfl hb41) (x_call' rfl rfl cl9) (in_l (offV l m) pb9 ((offV l m).length) cb10 x27.id (by omega) _ (H40.rwReads (k := 2) rfl)) ?_)
              rintro _ wq42 ⟨rfl, H43⟩
              replace H43 : S wq42 [Ob g28 (.cells #[.int .i64 (x27.id), .bool x27.intr, .bool x27.chk, .int .i64 (x27.frm), .int .i64 (x27.to), .int .i64 (x27.lt), .int .i64 (x27.since), .bool x27.snb, .bool x27.now, .bool x27.seed] 30 (0, 0)), Rw 3 1 pa7 ((onV l m).length) ca8 (fl intL (onV l m)), Rw 3 1 pb9 ((offV l m).length) cb10 (fl intL (offV l m)), Old w no] := H40.absorb (new := []) H43
              refine b_ret rfl rfl ?_
              refine l_of (s_val (v := .bool (!((decide (x27.id ∈ (offV l m)))))) (wt1 rfl rfl rfl rfl hb41) rfl rfl (x_not (b := (decide (x27.id ∈ (offV l m)))) rfl rfl) ?_)
              refine l_of (s_val (v := .bool (!((decide (x27.id ∈ (offV l m)))))) (wt0 rfl) rfl rfl (x_pick_t rfl rfl hb41 rfl) ?_)
              refine l_of (s_val (v := .bool (!((decide (x27.id ∈ (offV l m)))))) (wt0 rfl) rfl rfl (x_assign rfl rfl) ?_)
              refine g_nil ?_
              refine g_then ?_
              refine g_weak [(1, .slice q k d), (5, .slice pa7 ((onV l m).length) ca8), (6, .slice pb9 ((offV l m).length) cb10), (12, .pointer (some ⟨g28, 0, none⟩)), (13, .bool (!((decide (x27.id ∈ (offV l m)))))), (55, .slice p n c), (56, .int .i64 ((n : Int))), (57, .int .i64 ((i : Int)))] ⟨rfl, rfl, rfl, rfl, rfl, rfl, rfl, rfl, trivial⟩ ?_
              refine g_seq ?_
              refine g_region ?_
              refine l_of (s_val (v := .bool (!((decide (x27.id ∈ (offV l m)))))) (wt0 rfl) rfl rfl (x_move rfl rfl) ?_)
              refine l_of (s_val (v := .slice q k d) (wt0 rfl) rfl rfl (x_move rfl rfl) ?_)
              refine l_of (s_val (v := .pointer (some ⟨g28, 0, none⟩)) (wt0 rfl) rfl rfl (x_fieldAddr rfl rfl fo30_0 rfl) ?_)
              refine l_of (s_val (v := .int .i64 (x27.id)) (wt0 rfl) rfl rfl (x_load1 H43 0 rfl rfl Try.underlying3 rfl rfl rfl) ?_)
              refine l_of (s_call (wt0 rfl) (x_call' rfl rfl cl9) (in_l m q k d x27.id (by omega) _ (H43.exReads (k := 3) rfl hq (fun _ _ _ h => h))) ?_)
              rintro _ wq44 ⟨rfl, H45⟩
              replace H45 : S wq44 [Ob g28 (.cells #[.int .i64 (x27.id), .bool x27.intr, .bool x27.chk, .int .i64 (x27.frm), .int .i64 (x27.to), .int .i64 (x27.lt), .int .i64 (x27.since), .bool x27.snb, .bool x27.now, .bool x27.seed] 30 (0, 0)), Rw 3 1 pa7 ((onV l m).length) ca8 (fl intL (onV l m)), Rw 3 1 pb9 ((offV l m).length) cb10 (fl intL (offV l m)), Old w no] := H43.absorb (new := []) H45
              refine b_ret rfl rfl ?_
              refine l_of (s_val (v := .bool (!((!((decide (x27.id ∈ (offV l m))))) == ((decide (x27.id ∈ m)))))) (wt0 rfl) rfl rfl (x_bin rfl rfl rfl (b_neN Try.underlying4 rfl)) ?_)
              refine g_nil ?_
              refine g_then ?_
              rcases Bool.eq_false_or_eq_true ((!((decide (x27.id ∈ (offV l m))))) == ((decide (x27.id ∈ m)))) with hb46 | hb46
              · skip
                refine g_cond_f rfl (neg_of hb46) ?_
                refine g_skip ?_
                refine g_in ?_
                refine g_then ?_
                refine g_region ?_
                refine l_of (s_val (v := .int .i64 (((i + 1 : Nat) : Int))) (wt0 rfl) rfl rfl (x_bin rfl rfl rfl (b_add (by rw [w64 (by omega)]; omega))) ?_)
                refine l_of (s_val (v := .int .i64 (((i + 1 : Nat) : Int))) (wt0 rfl) rfl rfl (x_move rfl rfl) ?_)
                refine g_nil ?_
                refine g_then ?_
                refine g_round (i := (i)) ((i + 1)) ?_ ?_ ?_
                · exact ⟨rfl, rfl, rfl, rfl, rfl, rfl, trivial⟩
                · exact ⟨by omega, (H45.takes [1, 2, 3] (by decide))⟩
                · (try dsimp only); omega
              · skip
                refine g_cond_t rfl (neg_of hb46) ?_
                refine g_seq ?_
                refine g_region ?_
                refine l_of (s_val (v := .bool false) (wt0 rfl) rfl rfl (x_assign rfl rfl) ?_)
                refine g_nil ?_
                refine g_then ?_
                refine g_weak [(4, .bool false)] ⟨rfl, trivial⟩ ?_
                refine g_ret ?_
                refine g_in_ret ?_
                refine g_then_ret ?_
                refine g_then_ret ?_
                refine g_in_ret ?_
                refine g_then_ret ?_
                refine fin_ret [.tmp 4] [.bool false] rfl ⟨rfl, trivial⟩ ?_
                have hz : chgE l m = 0 := by omega
                obtain ⟨e1, e2⟩ := chg_law hz (List.mem_of_getElem? hx27)
                exfalso
                simp_all
            · skip
              refine l_of (s_not (wn1 rfl rfl rfl rfl hb41) rfl rfl ?_)
              refine l_of (s_not (wn1 rfl rfl rfl rfl hb41) rfl rfl ?_)
              refine l_of (s_not (wn1 rfl rfl rfl rfl hb41) rfl rfl ?_)
              refine l_of (s_not (wn1 rfl rfl rfl rfl hb41) rfl rfl ?_)
              refine l_of (s_not (wn1 rfl rfl rfl rfl hb41) rfl rfl ?_)
              refine l_of (s_val (v := .bool false) (wt0 rfl) rfl rfl (x_pick_f rfl rfl hb41 rfl) ?_)
              refine l_of (s_val (v := .bool false) (wt0 rfl) rfl rfl (x_assign rfl rfl) ?_)
              refine g_nil ?_
              refine g_then ?_
              refine g_weak [(1, .slice q k d), (5, .slice pa7 ((onV l m).length) ca8), (6, .slice pb9 ((offV l m).length) cb10), (12, .pointer (some ⟨g28, 0, none⟩)), (13, .bool false), (55, .slice p n c), (56, .int .i64 ((n : Int))), (57, .int .i64 ((i : Int)))] ⟨rfl, rfl, rfl, rfl, rfl, rfl, rfl, rfl, trivial⟩ ?_
              refine g_seq ?_
              refine g_region ?_
              refine l_of (s_val (v := .bool false) (wt0 rfl) rfl rfl (x_move rfl rfl) ?_)
              refine l_of (s_val (v := .slice q k d) (wt0 rfl) rfl rfl (x_move rfl rfl) ?_)
              refine l_of (s_val (v := .pointer (some ⟨g28, 0, none⟩)) (wt0 rfl) rfl rfl (x_fieldAddr rfl rfl fo30_0 rfl) ?_)
              refine l_of (s_val (v := .int .i64 (x27.id)) (wt0 rfl) rfl rfl (x_load1 H40 0 rfl rfl Try.underlying3 rfl rfl rfl) ?_)
              refine l_of (s_call (wt0 rfl) (x_call' rfl rfl cl9) (in_l m q k d x27.id (by omega) _ (H40.exReads (k := 3) rfl hq (fun _ _ _ h => h))) ?_)
              rintro _ wq47 ⟨rfl, H48⟩
              replace H48 : S wq47 [Ob g28 (.cells #[.int .i64 (x27.id), .bool x27.intr, .bool x27.chk, .int .i64 (x27.frm), .int .i64 (x27.to), .int .i64 (x27.lt), .int .i64 (x27.since), .bool x27.snb, .bool x27.now, .bool x27.seed] 30 (0, 0)), Rw 3 1 pa7 ((onV l m).length) ca8 (fl intL (onV l m)), Rw 3 1 pb9 ((offV l m).length) cb10 (fl intL (offV l m)), Old w no] := H40.absorb (new := []) H48
              refine b_ret rfl rfl ?_
              refine l_of (s_val (v := .bool (!((false) == ((decide (x27.id ∈ m)))))) (wt0 rfl) rfl rfl (x_bin rfl rfl rfl (b_neN Try.underlying4 rfl)) ?_)
              refine g_nil ?_
              refine g_then ?_
              rcases Bool.eq_false_or_eq_true ((false) == ((decide (x27.id ∈ m)))) with hb49 | hb49
              · skip
                refine g_cond_f rfl (neg_of hb49) ?_
                refine g_skip ?_
                refine g_in ?_
                refine g_then ?_
                refine g_region ?_
                refine l_of (s_val (v := .int .i64 (((i + 1 : Nat) : Int))) (wt0 rfl) rfl rfl (x_bin rfl rfl rfl (b_add (by rw [w64 (by omega)]; omega))) ?_)
                refine l_of (s_val (v := .int .i64 (((i + 1 : Nat) : Int))) (wt0 rfl) rfl rfl (x_move rfl rfl) ?_)
                refine g_nil ?_
                refine g_then ?_
                refine g_round (i := (i)) ((i + 1)) ?_ ?_ ?_
                · exact ⟨rfl, rfl, rfl, rfl, rfl, rfl, trivial⟩
                · exact ⟨by omega, (H48.takes [1, 2, 3] (by decide))⟩
                · (try dsimp only); omega
              · skip
                refine g_cond_t rfl (neg_of hb49) ?_
                refine g_seq ?_
                refine g_region ?_
                refine l_of (s_val (v := .bool false) (wt0 rfl) rfl rfl (x_assign rfl rfl) ?_)
                refine g_nil ?_
                refine g_then ?_
                refine g_weak [(4, .bool false)] ⟨rfl, trivial⟩ ?_
                refine g_ret ?_
                refine g_in_ret ?_
                refine g_then_ret ?_
                refine g_then_ret ?_
                refine g_in_ret ?_
                refine g_then_ret ?_
                refine fin_ret [.tmp 4] [.bool false] rfl ⟨rfl, trivial⟩ ?_
                have hz : chgE l m = 0 := by omega
                obtain ⟨e1, e2⟩ := chg_law hz (List.mem_of_getElem? hx27)
                exfalso
                simp_all
        · skip
          refine g_cond_f rfl (decide_eq_false hb26) ?_
          refine g_exit ?_
          refine g_then_exit ?_
          refine g_then_exit ?_
          refine g_in_hit ?_
          refine g_then ?_
          refine g_seq ?_
          refine g_region ?_
          refine l_of (s_call (wt0 rfl) (x_call' rfl rfl cl5) (awake_s _) ?_)
          rintro _ wq50 ⟨rfl, H51⟩
          replace H51 : S wq50 [Rw 3 1 pa7 ((onV l m).length) ca8 (fl intL (onV l m)), Rw 3 1 pb9 ((offV l m).length) cb10 (fl intL (offV l m)), Old w no] := H25.absorb (new := []) H51
          refine b_ret rfl rfl ?_
          refine l_of (s_val (v := .bool true) (wt0 rfl) rfl rfl (x_assign rfl rfl) ?_)
          refine g_nil ?_
          refine g_then ?_
          refine g_ret ?_
          refine fin_ret [.tmp 4] [.bool true] rfl ⟨rfl, trivial⟩ ?_
          exact ⟨rfl, H51.mask [false, false, true]⟩
      · skip
        refine g_cond_t rfl (nt hb23) ?_
        refine g_seq ?_
        refine g_region ?_
        refine l_of (s_call (wt0 rfl) (x_call' rfl rfl cl5) (awake_s _) ?_)
        rintro _ wq52 ⟨rfl, H53⟩
        replace H53 : S wq52 [Rw 3 1 pa13 ((onV l m).length) ca14 (fl intL (onV l m)), Rw 3 1 pb15 ((offV l m).length) cb16 (fl intL (offV l m)), Rw 3 1 pa7 ((onV l m).length) ca8 (fl intL (onV l m)), Rw 3 1 pb9 ((offV l m).length) cb10 (fl intL (offV l m)), Old w no] := H22.absorb (new := []) H53
        refine b_ret rfl rfl ?_
        refine l_of (s_val (v := .bool true) (wt0 rfl) rfl rfl (x_assign rfl rfl) ?_)
        refine g_nil ?_
        refine g_then ?_
        refine g_ret ?_
        refine g_then_ret ?_
        refine fin_ret [.tmp 4] [.bool true] rfl ⟨rfl, trivial⟩ ?_
        exact ⟨rfl, H53.mask [false, false, false, false, true]⟩
end Go.Proofs.Ythfglkkjkpdkpaa
