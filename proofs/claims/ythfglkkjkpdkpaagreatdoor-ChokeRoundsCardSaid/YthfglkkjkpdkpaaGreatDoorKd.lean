import Derived.Test.YthfglkkjkpdkpaaGreatDoorFk
import Derived.Test.YthfglkkjkpdkpaaGreatDoorKc
import Derived.Test.YthfglkkjkpdkpaaGreatDoorMj
set_option linter.unusedSimpArgs false
set_option linter.unusedVariables false
namespace Go.Proofs.YthfglkkjkpdkpaaGreatDoor
open Go.RowKit

theorem cl14 : callable Tryz.prog 14 = true := by kernel_rfl
theorem cl15 : callable Tryz.prog 15 = true := by kernel_rfl
theorem cl17 : callable Tryz.prog 17 = true := by kernel_rfl
theorem cl30 : callable Tryz.prog 30 = true := by kernel_rfl
theorem ze4 : zeO Tryz.prog 4 = some (.bool false) := by kernel_rfl
theorem FunC.pure {β : Type} {P : Program} {g : Nat} {fi ca : Array Value} {av : β → List Value} {rv : β → Value} {D : β → Prop} (hg : callable P g = true) (h : ∀ b, D b → ∀ w, Calls P g (fi.toList ++ av b ++ ca.toList).toArray w fun e w' => e = .returned (rv b) ∧ S w' [Old w no]) : FunC P g fi ca (Big []) av rv D :=
  FunC.ofBig hg fun b hb w _ => (h b hb w).mono fun e w' ⟨h1, h2⟩ => ⟨h1, by
    rw [show fps [] = no from funext fun k => propext ⟨fun ⟨it, h3, _⟩ => (List.not_mem_nil h3).elim, False.elim⟩]; exact h2⟩
theorem validR_id {x : Rv} (h1 : validR x = true) : okI x.id := by
  unfold validR numB at h1
  simp only [Bool.and_eq_true, decide_eq_true_eq] at h1
  exact ⟨by omega, by omega⟩
theorem askE_1 {seed : ByteArray} {l : List Rv} (h : 100 < seed.size ∨ 200 < l.length ∨ l.any (fun x => !validR x) = true) : askE seed l = 1 := by unfold askE; rw [if_pos h]
theorem askE_6 {seed : ByteArray} {l : List Rv} (h : ¬ (100 < seed.size ∨ 200 < l.length ∨ l.any (fun x => !validR x) = true)) (hd : ¬ (l.map Rv.id).Nodup) : askE seed l = 6 := by unfold askE; rw [if_neg h, if_neg hd]
theorem askE_0 {seed : ByteArray} {l : List Rv} (h : ¬ (100 < seed.size ∨ 200 < l.length ∨ l.any (fun x => !validR x) = true)) (hd : (l.map Rv.id).Nodup) : askE seed l = 0 := by unfold askE; rw [if_neg h, if_pos hd]
theorem askE_ok {seed : ByteArray} {l : List Rv} (h : askE seed l = 0) : l.length ≤ 200 ∧ (∀ x ∈ l, validR x = true) ∧ (l.map Rv.id).Nodup := by
  unfold askE at h
  by_cases h1 : 100 < seed.size ∨ 200 < l.length ∨ l.any (fun x => !validR x) = true
  · rw [if_pos h1] at h; exact absurd h (by decide)
  · rw [if_neg h1] at h
    by_cases h2 : (l.map Rv.id).Nodup
    · refine ⟨by omega, fun x hx => ?_, h2⟩
      cases h3 : validR x with
      | true => rfl
      | false => exact absurd (.inr (.inr (List.any_eq_true.2 ⟨x, hx, by rw [h3]; rfl⟩))) h1
    · rw [if_neg h2] at h; exact absurd h (by decide)
theorem nodup_nxt {l : List Rv} {i : Nat} {x : Rv} (hx : l[i]? = some x) : ((l.take (i + 1)).map Rv.id).Nodup ↔ ((l.take i).map Rv.id).Nodup ∧ x.id ∉ (l.take i).map Rv.id := by
  rw [take_snocL hx, List.map_append, List.nodup_append]
  constructor
  · intro ⟨h1, _, h3⟩; exact ⟨h1, fun h => h3 _ h x.id (by simp) rfl⟩
  · intro ⟨h1, h2⟩; exact ⟨h1, by simp, fun a ha b hb e => by simp at hb; subst e; subst hb; exact h2 ha⟩
theorem nodup_of_take {l : List Rv} {i : Nat} (h : ¬ ((l.take i).map Rv.id).Nodup) : ¬ (l.map Rv.id).Nodup := fun hn => h (by
  rw [List.map_take]; exact hn.sublist (List.take_sublist ..))
theorem mem_ids_nxt {l : List Rv} {i : Nat} {x : Rv} (hx : l[i]? = some x) (k : Int) : k ∈ (l.take (i + 1)).map Rv.id ↔ k = x.id ∨ k ∈ (l.take i).map Rv.id := by
  rw [take_snocL hx, List.map_append, List.mem_append]
  simp [or_comm]
theorem any_none {l : List Rv} (h : ∀ y ∈ l, validR y = true) : ¬ l.any (fun x => !validR x) = true := fun hn => by
  obtain ⟨x, hx, h2⟩ := List.any_eq_true.1 hn
  rw [h x hx] at h2; cases h2
theorem any_some {l : List Rv} {i : Nat} {x : Rv} (hx : l[i]? = some x) (h : (!validR x) = true) : l.any (fun x => !validR x) = true := List.any_eq_true.2 ⟨x, List.mem_of_getElem? hx, h⟩
set_option maxRecDepth 20000 in
set_option maxHeartbeats 4000000 in
theorem rivals1_s (x : Rv)  (w : World) : Calls Tryz.prog 29 #[.agg #[.int .i64 (x.id), .bool x.intr, .bool x.chk, .int .i64 (x.frm), .int .i64 (x.to), .int .i64 (x.lt), .int .i64 (x.since), .bool x.snb, .bool x.now, .bool x.seed]] w fun e w' => e = .returned (.bool (!validR x)) ∧ S w' [Old w no] := by
 have H0 := S.old w
 refine enter 6 Tryz.func29 rfl rfl rfl ?_
 refine g_weak [(0, .agg #[.int .i64 (x.id), .bool x.intr, .bool x.chk, .int .i64 (x.frm), .int .i64 (x.to), .int .i64 (x.lt), .int .i64 (x.since), .bool x.snb, .bool x.now, .bool x.seed])] ⟨rfl, trivial⟩ ?_
 refine w_s ?_
 refine l_of (s_box H0 (wt0 rfl) rfl rfl rfl rfl ?_)
 intro g1 wq2 H3
 refine w_a ?_
 refine w_e ?_
 refine w_s ?_
 refine w_v (v := .agg #[.int .i64 (x.id), .bool x.intr, .bool x.chk, .int .i64 (x.frm), .int .i64 (x.to), .int .i64 (x.lt), .int .i64 (x.since), .bool x.snb, .bool x.now, .bool x.seed]) (x_loadA H3 0 rfl rfl Tryz.underlying30 rfl sz30 rfl rfl rfl) ?_
 refine l_of (s_call0 H3 (wt0 rfl) (x_call' rfl rfl cl14) (valid_s x _) rfl rfl ?_)
 intro wq4 H5
 refine w_v (v := .bool (!((validR x)))) (x_not (b := (validR x)) rfl rfl) ?_
 refine w_a ?_
 refine w_e ?_
 refine g_ret ?_
 refine fin_ret [.tmp 2] [.bool (!((validR x)))] rfl ⟨rfl, trivial⟩ ?_
 exact ⟨rfl, H5.mask [false, true]⟩
theorem rivals1_f : FunC Tryz.prog 29 #[] #[] (Big []) (fun x : Rv => [x.v]) (fun x => .bool ((fun x : Rv => !validR x) x)) (fun _ => True) :=
  FunC.pure (by kernel_rfl) fun x _ w => rivals1_s x w
set_option maxRecDepth 20000 in
set_option maxHeartbeats 4000000 in
theorem rivals_s (seed : ByteArray) (l : List Rv) (p : Option Addr) (n c : Nat) (hn2 : n ≤ 9223372036854775807)  (w : World) (hr : Reads w p n c 10 (fl rvL l)) : Calls Tryz.prog 18 #[.slice p n c, .string seed] w fun e w' => e = .returned (.int .i64 (askE seed l)) ∧ S w' [Old w no] := by
 have H0 := S.old w
 have hnl := hr.lenL rvE
 refine enter 32 Tryz.func18 rfl rfl rfl ?_
 refine g_weak [(0, .slice p n c), (1, .string seed)] ⟨rfl, rfl, trivial⟩ ?_
 refine w_s ?_
 refine w_a ?_
 refine w_e ?_
 refine g_seq ?_
 refine w_s ?_
 refine w_m ?_
 refine w_v (v := .int .i64 ((n : Int))) (x_lenl rfl rfl Tryz.underlying22) ?_
 refine w_b ?_
 refine w_m ?_
 by_cases hb1 : (200 : Int) < (n : Int)
 ·
  refine w_n (decide_eq_true hb1) ?_
  refine w_n (decide_eq_true hb1) ?_
  refine w_n (decide_eq_true hb1) ?_
  refine w_v (v := .bool true) (x_pick_t rfl rfl (decide_eq_true hb1) rfl) ?_
  refine w_m ?_
  refine w_n rfl ?_
  refine w_n rfl ?_
  refine w_v (v := .bool true) (x_pick_t rfl rfl rfl rfl) ?_
  refine w_e ?_
  refine g_weak [(0, .slice p n c), (18, .bool true)] ⟨rfl, rfl, trivial⟩ ?_
  refine g_cond_t rfl rfl ?_
  refine w_s ?_
  refine w_a ?_
  refine w_e ?_
  refine g_ret ?_
  refine g_then_ret ?_
  refine fin_ret [.tmp 4] [.int .i64 1] rfl ⟨rfl, trivial⟩ ?_
  have hv : askE seed l = 1 := askE_1 (by first | (left; omega) | (right; left; omega) | (right; right; exact rfl))
  exact ⟨by rw [hv]; rfl, H0.mask [true]⟩
 ·
  refine w_g (decide_eq_false hb1) xm ?_
  refine w_g (v := .int .i64 ((seed.size : Int))) (decide_eq_false hb1) (x_lens rfl rfl Tryz.underlying9) ?_
  refine w_g (decide_eq_false hb1) (x_bin rfl rfl rfl b_gtr) ?_
  refine w_v (v := .bool (decide ((100 : Int) < (seed.size : Int)))) (x_pick_f rfl rfl (decide_eq_false hb1) rfl) ?_
  refine w_m ?_
  by_cases hb2 : (100 : Int) < (seed.size : Int)
  ·
   refine w_n (decide_eq_true hb2) ?_
   refine w_n (decide_eq_true hb2) ?_
   refine w_v (v := .bool true) (x_pick_t rfl rfl (decide_eq_true hb2) rfl) ?_
   refine w_e ?_
   refine g_weak [(0, .slice p n c), (18, .bool true)] ⟨rfl, rfl, trivial⟩ ?_
   refine g_cond_t rfl rfl ?_
   refine w_s ?_
   refine w_a ?_
   refine w_e ?_
   refine g_ret ?_
   refine g_then_ret ?_
   refine fin_ret [.tmp 4] [.int .i64 1] rfl ⟨rfl, trivial⟩ ?_
   have hv : askE seed l = 1 := askE_1 (by first | (left; omega) | (right; left; omega) | (right; right; exact rfl))
   exact ⟨by rw [hv]; rfl, H0.mask [true]⟩
  ·
   refine w_g (decide_eq_false hb2) xm ?_
   have H3 : S w [Big [], Old w no] := H0.addNil
   refine l_of (s_call (wt1 rfl rfl rfl rfl (decide_eq_false hb2)) (x_call' rfl rfl cl28) (contF_r l p n c hn2 (fun x : Rv => !validR x) 29 #[] #[] (Big []) (fun _ => True) rivals1_f (fun _ _ => trivial) _ (H3.takes [0] (by decide)) (H3.exReads (k := 1) rfl hr (fun _ _ _ h => h)) (H3.apartOld (i := 1) (k := 0) rfl rfl (by decide) hr (by decide) (fun _ _ _ h => h))) ?_)
   rintro _ wq4 ⟨rfl, H5⟩
   replace H5 : S wq4 [(Big []), Old w no] := by have h := H3.absorbI [0] H5; exact h
   refine b_ret rfl rfl ?_
   refine w_v (v := .bool ((l.any (fun x : Rv => !validR x)))) (x_pick_f rfl rfl (decide_eq_false hb2) rfl) ?_
   refine w_e ?_
   refine g_weak [(0, .slice p n c), (18, .bool ((l.any (fun x : Rv => !validR x))))] ⟨rfl, rfl, trivial⟩ ?_
   rcases Bool.eq_false_or_eq_true ((l.any (fun x : Rv => !validR x))) with hb6 | hb6
   ·
    refine g_cond_t rfl hb6 ?_
    refine w_s ?_
    refine w_a ?_
    refine w_e ?_
    refine g_ret ?_
    refine g_then_ret ?_
    refine fin_ret [.tmp 4] [.int .i64 1] rfl ⟨rfl, trivial⟩ ?_
    have hv : askE seed l = 1 := askE_1 (by first | (left; omega) | (right; left; omega) | (right; right; exact hb6))
    exact ⟨by rw [hv]; rfl, H5.mask [false, true]⟩
   ·
    refine g_cond_f rfl hb6 ?_
    refine g_skip ?_
    refine g_then ?_
    refine g_seq ?_
    refine w_s ?_
    refine w_m ?_
    refine w_v (v := .int .i64 ((n : Int))) (x_lenl rfl rfl Tryz.underlying22) ?_
    refine w_m ?_
    refine w_e ?_
    refine g_block ?_
    refine g_loop (ι := Nat) (fun i => [(0, .slice p n c), (19, .slice p n c), (20, .int .i64 ((n : Int))), (21, .int .i64 ((i : Int)))]) (fun i wx => (i ≤ n) ∧ (((l.take i).map Rv.id).Nodup) ∧ S wx [Old w no]) (fun i => n - i) (0) ⟨rfl, rfl, rfl, rfl, trivial⟩ ⟨Nat.zero_le _, (by rw [List.take_zero]; exact List.nodup_nil), (H5.mask [false, true])⟩ ?_
    rintro i wq7 ⟨hi, hnd, H8⟩
    refine g_weak [(0, .slice p n c), (19, .slice p n c), (20, .int .i64 ((n : Int))), (21, .int .i64 ((i : Int)))] ⟨rfl, rfl, rfl, rfl, trivial⟩ ?_
    refine w_s ?_
    refine w_b ?_
    refine w_e ?_
    refine g_seq ?_
    by_cases hb9 : ((i : Int) : Int) < (n : Int)
    ·
     refine g_cond_t rfl (decide_eq_true hb9) ?_
     refine g_skip ?_
     refine g_then ?_
     refine g_seq ?_
     refine g_block ?_
     refine w_s ?_
     refine w_m ?_
     refine w_v (v := .pointer ((p).map fun q => q.add (i * 10))) (x_idxR i (H8.exReads (k := 0) rfl hr (fun _ _ _ h => h)) rfl rfl rfl Tryz.underlying22 sz30 (by omega)) ?_
     have hlq := (H8.exReads (k := 0) rfl hr (fun _ _ _ h => h)).lenL rvE
     obtain ⟨x10, hx10⟩ := ex_at (l := l) (j := i) (by omega)
     clear hlq
     refine w_v (v := .agg #[.int .i64 (x10.id), .bool x10.intr, .bool x10.chk, .int .i64 (x10.frm), .int .i64 (x10.to), .int .i64 (x10.lt), .int .i64 (x10.since), .bool x10.snb, .bool x10.now, .bool x10.seed]) (x_loadRA (vs := rvL x10) i (H8.exReads (k := 0) rfl hr (fun _ _ _ h => h)) (by omega) rfl rfl Tryz.underlying30 rfl sz30 (by rfl) (rvE.flAt hx10)) ?_
     refine l_of (s_alloc H8 (wt0 rfl) rfl rfl rfl ze30 ?_)
     intro g11 wq12 H13
     refine w_a ?_
     refine l_of (w_st #[.int .i64 (x10.id), .bool x10.intr, .bool x10.chk, .int .i64 (x10.frm), .int .i64 (x10.to), .int .i64 (x10.lt), .int .i64 (x10.since), .bool x10.snb, .bool x10.now, .bool x10.seed] H13 0 ?_)
     intro wq14 H15
     refine w_e ?_
     refine g_seq ?_
     refine g_anyY [] (fun wx => S wx [Ob g11 (.cells #[.int .i64 (x10.id), .bool x10.intr, .bool x10.chk, .int .i64 (x10.frm), .int .i64 (x10.to), .int .i64 (x10.lt), .int .i64 (x10.since), .bool x10.snb, .bool x10.now, .bool x10.seed] 30 (0, 0))]) (fun wx => S wx [Ob g11 (.cells #[.int .i64 (x10.id), .bool x10.intr, .bool x10.chk, .int .i64 (x10.frm), .int .i64 (x10.to), .int .i64 (x10.lt), .int .i64 (x10.since), .bool x10.snb, .bool x10.now, .bool x10.seed] 30 (0, 0))]) [] (by kernel_rfl) H15 (fun wq16 H17 => ?_)
     refine w_y 0 rfl (wt0 rfl) rfl rfl rfl (by kernel_rfl) (fun _ => x_move rfl rfl) ?_
     refine w_y 1 rfl (wt0 rfl) rfl rfl rfl (by kernel_rfl) (fun _ => x_move rfl rfl) ?_
     have hnc := (H17.exReads (k := 1) rfl hr (fun _ _ _ h => h)).2.1
     refine w_y (v := .slice p i c) 2 rfl (wt0 rfl) rfl rfl rfl (by kernel_rfl) (fun _ => ex_cast (x_sliceH i rfl rfl rfl Tryz.underlying22 sz30 (by omega)) (by rw [cutP0])) ?_
     refine y_take (v := .agg #[.int .i64 (x10.id), .bool x10.intr, .bool x10.chk, .int .i64 (x10.frm), .int .i64 (x10.to), .int .i64 (x10.lt), .int .i64 (x10.since), .bool x10.snb, .bool x10.now, .bool x10.seed]) 3 rfl (wt0 rfl) rfl rfl rfl (by kernel_rfl) (by kernel_rfl) (by kernel_rfl) (by kernel_rfl) (by kernel_rfl) (H17.mask [true, false]) (fun wx H => x_loadA H 0 rfl rfl Tryz.underlying30 rfl sz30 rfl rfl rfl) ?_
     refine y_one (i := 4) (by kernel_rfl) rfl ?_
     refine s_call0 H17 (wt0 rfl) (x_call' rfl rfl cl30) (has_s (l.take i) p i c (by omega) x10 _ ((H17.exReads (k := 1) rfl hr (fun _ _ _ h => h)).takeL rvE i (by omega))) rfl rfl ?_
     intro wq18 H19
     refine y_k (H19.mask [true, false]) (H19.mask [true, false]) ?_
     refine y_done (by kernel_rfl) ?_
     refine g_then ?_
     rcases Bool.eq_false_or_eq_true ((decide (x10.id ∈ (l.take i).map Rv.id))) with hb20 | hb20
     ·
      refine g_cond_t rfl hb20 ?_
      refine w_s ?_
      refine w_a ?_
      refine w_e ?_
      refine g_weak [(4, .int .i64 6)] ⟨rfl, trivial⟩ ?_
      refine g_ret ?_
      refine g_in_ret ?_
      refine g_then_ret ?_
      refine g_then_ret ?_
      refine g_in_ret ?_
      refine g_then_ret ?_
      refine fin_ret [.tmp 4] [.int .i64 6] rfl ⟨rfl, trivial⟩ ?_
      have hv : askE seed l = 6 := askE_6 (by rintro (h | h | h) <;> first | omega | exact absurd h (by rw [hb6]; decide)) (nodup_of_take (i := i + 1) fun h => ((nodup_nxt hx10).1 h).2 (of_decide_eq_true hb20))
      exact ⟨by rw [hv]; rfl, H19.mask [false, true]⟩
     ·
      refine g_cond_f rfl hb20 ?_
      refine g_skip ?_
      refine g_in ?_
      refine g_then ?_
      refine g_region ?_
      refine w_b (v := .int .i64 (((i + 1 : Nat) : Int))) (hb := (b_add (by rw [w64 (by omega)]; omega))) ?_
      refine w_m ?_
      refine w_e ?_
      refine g_round (i := (i)) ((i + 1)) ?_ ?_ ?_
      · exact ⟨rfl, rfl, rfl, rfl, trivial⟩
      · exact ⟨by omega, ((nodup_nxt hx10).2 ⟨hnd, of_decide_eq_false hb20⟩), (H19.mask [false, true])⟩
      · (try dsimp only); omega
    ·
     refine g_cond_f rfl (decide_eq_false hb9) ?_
     refine g_exit ?_
     refine g_then_exit ?_
     refine g_then_exit ?_
     refine g_in_hit ?_
     refine g_then ?_
     refine w_s ?_
     refine w_a ?_
     refine w_e ?_
     refine g_ret ?_
     refine fin_ret [.tmp 4] [.int .i64 0] rfl ⟨rfl, trivial⟩ ?_
     rw [List.take_of_length_le (by omega)] at hnd
     have hv : askE seed l = 0 := askE_0 (by rintro (h | h | h) <;> first | omega | exact absurd h (by rw [hb6]; decide)) hnd
     exact ⟨by rw [hv]; rfl, H8.mask [true]⟩
set_option maxRecDepth 20000 in
set_option maxHeartbeats 4000000 in
theorem asked_r (seed : ByteArray) (l : List Rv) (p : Option Addr) (n c : Nat) (hn2 : n ≤ 9223372036854775807)  (w : World) (hr : Reads w p n c 10 (fl rvL l)) : Calls Tryz.prog 22 #[.string seed, .slice p n c] w fun e w' => e = .returned (.int .i64 (askE seed l)) ∧ S w' [Old w no] := by
 have H0 := S.old w
 have hnl := hr.lenL rvE
 refine enter 39 Tryz.func22 rfl rfl rfl ?_
 refine g_weak [(0, .string seed), (1, .slice p n c)] ⟨rfl, rfl, trivial⟩ ?_
 refine w_s ?_
 refine w_a ?_
 refine w_e ?_
 refine g_seq ?_
 refine w_s ?_
 refine w_m ?_
 refine w_v (v := .int .i64 ((seed.size : Int))) (x_lens rfl rfl Tryz.underlying9) ?_
 refine w_b ?_
 refine w_m ?_
 by_cases hb1 : (100 : Int) < (seed.size : Int)
 ·
  refine w_n (decide_eq_true hb1) ?_
  refine w_n (decide_eq_true hb1) ?_
  refine w_n (decide_eq_true hb1) ?_
  refine w_v (v := .bool true) (x_pick_t rfl rfl (decide_eq_true hb1) rfl) ?_
  refine w_e ?_
  refine g_cond_t rfl rfl ?_
  refine w_s ?_
  refine w_a ?_
  refine w_e ?_
  refine g_ret ?_
  refine g_then_ret ?_
  refine fin_ret [.tmp 4] [.int .i64 1] rfl ⟨rfl, trivial⟩ ?_
  have hv : askE seed l = 1 := askE_1 (by first | (left; omega) | (right; left; omega) | skip)
  exact ⟨by rw [hv]; rfl, H0.mask [true]⟩
 ·
  refine w_g (decide_eq_false hb1) xm ?_
  refine w_g (v := .int .i64 ((n : Int))) (decide_eq_false hb1) (x_lenl rfl rfl Tryz.underlying22) ?_
  refine w_g (decide_eq_false hb1) (x_bin rfl rfl rfl b_gtr) ?_
  refine w_v (v := .bool (decide ((200 : Int) < (n : Int)))) (x_pick_f rfl rfl (decide_eq_false hb1) rfl) ?_
  refine w_e ?_
  by_cases hb2 : (200 : Int) < (n : Int)
  ·
   refine g_cond_t rfl (decide_eq_true hb2) ?_
   refine w_s ?_
   refine w_a ?_
   refine w_e ?_
   refine g_ret ?_
   refine g_then_ret ?_
   refine fin_ret [.tmp 4] [.int .i64 1] rfl ⟨rfl, trivial⟩ ?_
   have hv : askE seed l = 1 := askE_1 (by first | (left; omega) | (right; left; omega) | skip)
   exact ⟨by rw [hv]; rfl, H0.mask [true]⟩
  ·
   refine g_cond_f rfl (decide_eq_false hb2) ?_
   refine g_skip ?_
   refine g_then ?_
   refine w_s ?_
   refine l_of (s_makeMap (α := Bool) (Value.int .i64) Value.bool okI H0 (wt0 rfl) rfl rfl rfl ?_)
   intro mg3 wq4 H5
   refine w_a ?_
   refine w_e ?_
   refine w_s ?_
   refine w_a ?_
   refine w_e ?_
   refine g_seq ?_
   refine w_s ?_
   refine w_m ?_
   refine w_v (v := .int .i64 ((n : Int))) (x_lenl rfl rfl Tryz.underlying22) ?_
   refine w_m ?_
   refine w_e ?_
   refine g_weak [(5, .map (some mg3)), (6, .bool false), (18, .slice p n c), (19, .int .i64 ((n : Int))), (20, .int .i64 0)] ⟨rfl, rfl, rfl, rfl, rfl, trivial⟩ ?_
   refine g_block ?_
   refine g_loop (ι := Nat × (Int → Option Bool) × Bool) (fun (i, M, tw) => [(5, .map (some mg3)), (6, .bool tw), (18, .slice p n c), (19, .int .i64 ((n : Int))), (20, .int .i64 ((i : Int)))]) (fun (i, M, tw) wx => (i ≤ n) ∧ (∀ k, (M k).getD false = decide (k ∈ (l.take i).map Rv.id)) ∧ (tw = false ↔ ((l.take i).map Rv.id).Nodup) ∧ (∀ y ∈ l.take i, validR y = true) ∧ S wx [Mp (Value.int .i64) Value.bool okI mg3 M, Old w no]) (fun (i, M, tw) => n - i) (0, (fun _ => none), false) ⟨rfl, rfl, rfl, rfl, rfl, trivial⟩ ⟨Nat.zero_le _, (fun k => by rw [List.take_zero]; rfl), (by rw [List.take_zero]; exact ⟨fun _ => List.nodup_nil, fun _ => rfl⟩), (fun y hy => by simp at hy), (H5.takes [0, 1] (by decide))⟩ ?_
   rintro ⟨i, M, tw⟩ wq6 ⟨hi, hM, htw, hva, H7⟩
   refine g_weak [(5, .map (some mg3)), (6, .bool tw), (18, .slice p n c), (19, .int .i64 ((n : Int))), (20, .int .i64 ((i : Int)))] ⟨rfl, rfl, rfl, rfl, rfl, trivial⟩ ?_
   refine w_s ?_
   refine w_b ?_
   refine w_e ?_
   refine g_seq ?_
   by_cases hb8 : ((i : Int) : Int) < (n : Int)
   ·
    refine g_cond_t rfl (decide_eq_true hb8) ?_
    refine g_skip ?_
    refine g_then ?_
    refine g_seq ?_
    refine g_block ?_
    refine w_s ?_
    refine w_v (v := .pointer ((p).map fun q => q.add (i * 10))) (x_idxR i (H7.exReads (k := 1) rfl hr (fun _ _ _ h => h)) rfl rfl rfl Tryz.underlying22 sz30 (by omega)) ?_
    have hlq := (H7.exReads (k := 1) rfl hr (fun _ _ _ h => h)).lenL rvE
    obtain ⟨x9, hx9⟩ := ex_at (l := l) (j := i) (by omega)
    clear hlq
    refine w_v (v := .agg #[.int .i64 (x9.id), .bool x9.intr, .bool x9.chk, .int .i64 (x9.frm), .int .i64 (x9.to), .int .i64 (x9.lt), .int .i64 (x9.since), .bool x9.snb, .bool x9.now, .bool x9.seed]) (x_loadRA (vs := rvL x9) i (H7.exReads (k := 1) rfl hr (fun _ _ _ h => h)) (by omega) rfl rfl Tryz.underlying30 rfl sz30 (by rfl) (rvE.flAt hx9)) ?_
    refine l_of (s_alloc H7 (wt0 rfl) rfl rfl rfl ze30 ?_)
    intro g10 wq11 H12
    refine l_of (w_st #[.int .i64 (x9.id), .bool x9.intr, .bool x9.chk, .int .i64 (x9.frm), .int .i64 (x9.to), .int .i64 (x9.lt), .int .i64 (x9.since), .bool x9.snb, .bool x9.now, .bool x9.seed] H12 0 ?_)
    intro wq13 H14
    refine w_e ?_
    refine g_seq ?_
    refine w_s ?_
    refine w_v (v := .agg #[.int .i64 (x9.id), .bool x9.intr, .bool x9.chk, .int .i64 (x9.frm), .int .i64 (x9.to), .int .i64 (x9.lt), .int .i64 (x9.since), .bool x9.snb, .bool x9.now, .bool x9.seed]) (x_loadA H14 0 rfl rfl Tryz.underlying30 rfl sz30 rfl rfl rfl) ?_
    refine l_of (s_call0 H14 (wt0 rfl) (x_call' rfl rfl cl15) (valid_r x9 _) rfl rfl ?_)
    intro wq15 H16
    refine w_v (v := .bool (!((validR x9)))) (x_not (b := (validR x9)) rfl rfl) ?_
    refine w_e ?_
    rcases Bool.eq_false_or_eq_true ((validR x9)) with hb17 | hb17
    ·
     refine g_cond_f rfl (neg_of hb17) ?_
     refine g_skip ?_
     refine g_then ?_
     refine w_s ?_
     refine w_r2 ?_
     rcases Bool.eq_false_or_eq_true (tw) with hb18 | hb18
     ·
      refine w_n hb18 ?_
      refine w_n hb18 ?_
      refine w_n hb18 ?_
      refine w_n hb18 ?_
      refine w_v (v := .bool true) (x_pick_t rfl rfl hb18 rfl) ?_
      refine w_a ?_
      refine w_e ?_
      refine g_weak [(5, .map (some mg3)), (6, .bool true), (8, .pointer (some ⟨g10, 0, none⟩)), (18, .slice p n c), (19, .int .i64 ((n : Int))), (20, .int .i64 ((i : Int)))] ⟨rfl, rfl, rfl, rfl, rfl, rfl, trivial⟩ ?_
      refine g_region ?_
      refine w_r2 ?_
      refine w_1 H16 0 ?_
      refine l_of (s_mapUpdate (x := x9.id) (a := true) (intTy Tryz.underlying35 Tryz.underlying3) H16 1 (wt0 rfl) rfl rfl rfl rfl rfl rfl ((validR_id hb17)) ?_)
      intro wq19 H20
      refine g_nil ?_
      refine g_in ?_
      refine g_then ?_
      refine g_region ?_
      refine w_b (v := .int .i64 (((i + 1 : Nat) : Int))) (hb := (b_add (by rw [w64 (by omega)]; omega))) ?_
      refine w_m ?_
      refine w_e ?_
      refine g_round (i := (i, M, tw)) ((i + 1), (upM M x9.id true), true) ?_ ?_ ?_
      · exact ⟨rfl, rfl, rfl, rfl, rfl, trivial⟩
      · exact ⟨by omega, (fun k => by rw [upM_has, hM k, Bool.eq_iff_iff, Bool.or_eq_true, decide_eq_true_iff, decide_eq_true_iff, decide_eq_true_iff, mem_ids_nxt hx9]), (by rw [nodup_nxt hx9, ← htw]; (try rw [hM x9.id]); simp_all), (no_takeP hva hx9 (by simpa using hb17)), (H20.takes [1, 2] (by decide))⟩
      · (try dsimp only); omega
     ·
      refine w_g hb18 xm ?_
      refine w_g hb18 (xf 0) ?_
      refine w_g hb18 (xl H16 0) ?_
      refine w_g (v := .bool (((M x9.id).getD false))) hb18 (ex_cast (x_lookup1 (x := x9.id) (intTy Tryz.underlying35 Tryz.underlying3) H16 1 rfl rfl rfl rfl ((validR_id hb17)) ze4) (look_B _)) ?_
      refine w_v (v := .bool (((M x9.id).getD false))) (x_pick_f rfl rfl hb18 rfl) ?_
      refine w_a ?_
      refine w_e ?_
      refine g_weak [(5, .map (some mg3)), (6, .bool (((M x9.id).getD false))), (8, .pointer (some ⟨g10, 0, none⟩)), (18, .slice p n c), (19, .int .i64 ((n : Int))), (20, .int .i64 ((i : Int)))] ⟨rfl, rfl, rfl, rfl, rfl, rfl, trivial⟩ ?_
      refine g_region ?_
      refine w_r2 ?_
      refine w_1 H16 0 ?_
      refine l_of (s_mapUpdate (x := x9.id) (a := true) (intTy Tryz.underlying35 Tryz.underlying3) H16 1 (wt0 rfl) rfl rfl rfl rfl rfl rfl ((validR_id hb17)) ?_)
      intro wq21 H22
      refine g_nil ?_
      refine g_in ?_
      refine g_then ?_
      refine g_region ?_
      refine w_b (v := .int .i64 (((i + 1 : Nat) : Int))) (hb := (b_add (by rw [w64 (by omega)]; omega))) ?_
      refine w_m ?_
      refine w_e ?_
      refine g_round (i := (i, M, tw)) ((i + 1), (upM M x9.id true), ((M x9.id).getD false)) ?_ ?_ ?_
      · exact ⟨rfl, rfl, rfl, rfl, rfl, trivial⟩
      · exact ⟨by omega, (fun k => by rw [upM_has, hM k, Bool.eq_iff_iff, Bool.or_eq_true, decide_eq_true_iff, decide_eq_true_iff, decide_eq_true_iff, mem_ids_nxt hx9]), (by rw [nodup_nxt hx9, ← htw]; (try rw [hM x9.id]); simp_all), (no_takeP hva hx9 (by simpa using hb17)), (H22.takes [1, 2] (by decide))⟩
      · (try dsimp only); omega
    ·
     refine g_cond_t rfl (neg_of hb17) ?_
     refine w_s ?_
     refine w_a ?_
     refine w_e ?_
     refine g_weak [(4, .int .i64 1)] ⟨rfl, trivial⟩ ?_
     refine g_ret ?_
     refine g_then_ret ?_
     refine g_in_ret ?_
     refine g_then_ret ?_
     refine g_then_ret ?_
     refine g_in_ret ?_
     refine g_then_ret ?_
     refine fin_ret [.tmp 4] [.int .i64 1] rfl ⟨rfl, trivial⟩ ?_
     have hv : askE seed l = 1 := askE_1 (by first | (left; omega) | (right; left; omega) | (right; right; exact any_some hx9 (by rw [hb17]; rfl)))
     exact ⟨by rw [hv]; rfl, H16.mask [false, false, true]⟩
   ·
    refine g_cond_f rfl (decide_eq_false hb8) ?_
    refine g_exit ?_
    refine g_then_exit ?_
    refine g_then_exit ?_
    refine g_in_hit ?_
    refine g_then ?_
    refine g_seq ?_
    refine w_s ?_
    refine w_m ?_
    refine w_e ?_
    rcases Bool.eq_false_or_eq_true (tw) with hb23 | hb23
    ·
     refine g_cond_t rfl hb23 ?_
     refine w_s ?_
     refine w_a ?_
     refine w_e ?_
     refine g_ret ?_
     refine g_then_ret ?_
     refine fin_ret [.tmp 4] [.int .i64 6] rfl ⟨rfl, trivial⟩ ?_
     rw [List.take_of_length_le (by omega)] at htw hva
     have hv : askE seed l = 6 := askE_6 (by rintro (h | h | h) <;> first | omega | exact any_none hva h) (fun h => by have := htw.2 h; simp_all)
     exact ⟨by rw [hv]; rfl, H7.mask [false, true]⟩
    ·
     refine g_cond_f rfl hb23 ?_
     refine g_skip ?_
     refine g_then ?_
     refine w_s ?_
     refine w_a ?_
     refine w_e ?_
     refine g_ret ?_
     refine fin_ret [.tmp 4] [.int .i64 0] rfl ⟨rfl, trivial⟩ ?_
     rw [List.take_of_length_le (by omega)] at htw hva
     have hv : askE seed l = 0 := askE_0 (by rintro (h | h | h) <;> first | omega | exact any_none hva h) (htw.1 (by simp_all))
     exact ⟨by rw [hv]; rfl, H7.mask [false, true]⟩
set_option maxRecDepth 20000 in
set_option maxHeartbeats 4000000 in
theorem slots_s (r : Int)  (w : World) : Calls Tryz.prog 17 #[.int .i64 r] w fun e w' => e = .returned (.tuple #[.int .i64 (slotsV r).1, .int .i64 (slotsV r).2]) ∧ S w' [Old w no] := by
 have H0 := S.old w
 refine enter 22 Tryz.func17 rfl rfl rfl ?_
 refine g_weak [(0, .int .i64 r)] ⟨rfl, trivial⟩ ?_
 refine w_s ?_
 refine w_r2 ?_
 refine w_e ?_
 refine g_seq ?_
 refine g_block ?_
 refine w_s ?_
 refine w_m ?_
 refine w_b ?_
 refine w_m ?_
 by_cases hb1 : (r : Int) < 0
 ·
  refine w_n (decide_eq_true hb1) ?_
  refine w_n (decide_eq_true hb1) ?_
  refine w_v (v := .bool true) (x_pick_t rfl rfl (decide_eq_true hb1) rfl) ?_
  refine w_a ?_
  refine w_e ?_
  refine g_cond_t rfl rfl ?_
  refine w_s ?_
  refine w_r2 ?_
  refine w_e ?_
  refine g_ret ?_
  refine g_in_ret ?_
  refine g_then_ret ?_
  refine fin_ret [.tmp 2, .tmp 3] [.int .i64 0, .int .i64 7] rfl ⟨rfl, rfl, trivial⟩ ?_
  have hv : slotsV r = (0, 7) := by
   unfold slotsV
   first | (rw [if_pos (by omega)]; done) | (rw [if_pos (by omega)]) | (rw [if_neg (by omega), if_pos (by omega)]) | (rw [if_neg (by omega), if_neg (by omega), if_pos (by omega)]) | (rw [if_neg (by omega), if_neg (by omega), if_neg (by omega)]; try rw [Int.min_comm])
  exact ⟨by rw [hv]; rfl, H0.mask [true]⟩
 ·
  refine w_g (decide_eq_false hb1) xm ?_
  refine w_g (decide_eq_false hb1) (x_bin rfl rfl rfl b_gtr) ?_
  refine w_v (v := .bool (decide ((1000000000 : Int) < r))) (x_pick_f rfl rfl (decide_eq_false hb1) rfl) ?_
  refine w_a ?_
  refine w_e ?_
  by_cases hb2 : (1000000000 : Int) < r
  ·
   refine g_cond_t rfl (decide_eq_true hb2) ?_
   refine w_s ?_
   refine w_r2 ?_
   refine w_e ?_
   refine g_ret ?_
   refine g_in_ret ?_
   refine g_then_ret ?_
   refine fin_ret [.tmp 2, .tmp 3] [.int .i64 0, .int .i64 7] rfl ⟨rfl, rfl, trivial⟩ ?_
   have hv : slotsV r = (0, 7) := by
    unfold slotsV
    first | (rw [if_pos (by omega)]; done) | (rw [if_pos (by omega)]) | (rw [if_neg (by omega), if_pos (by omega)]) | (rw [if_neg (by omega), if_neg (by omega), if_pos (by omega)]) | (rw [if_neg (by omega), if_neg (by omega), if_neg (by omega)]; try rw [Int.min_comm])
   exact ⟨by rw [hv]; rfl, H0.mask [true]⟩
  ·
   refine g_cond_f rfl (decide_eq_false hb2) ?_
   refine w_s ?_
   refine w_m ?_
   refine w_b ?_
   refine w_a ?_
   refine w_e ?_
   by_cases hb3 : (r : Int) < 10000
   ·
    refine g_cond_t rfl (decide_eq_true hb3) ?_
    refine w_s ?_
    refine w_r2 ?_
    refine w_e ?_
    refine g_ret ?_
    refine g_in_ret ?_
    refine g_then_ret ?_
    refine fin_ret [.tmp 2, .tmp 3] [.int .i64 2, .int .i64 0] rfl ⟨rfl, rfl, trivial⟩ ?_
    have hv : slotsV r = (2, 0) := by
     unfold slotsV
     first | (rw [if_pos (by omega)]; done) | (rw [if_pos (by omega)]) | (rw [if_neg (by omega), if_pos (by omega)]) | (rw [if_neg (by omega), if_neg (by omega), if_pos (by omega)]) | (rw [if_neg (by omega), if_neg (by omega), if_neg (by omega)]; try rw [Int.min_comm])
    exact ⟨by rw [hv]; rfl, H0.mask [true]⟩
   ·
    refine g_cond_f rfl (decide_eq_false hb3) ?_
    refine w_s ?_
    refine w_m ?_
    refine w_b ?_
    refine w_a ?_
    refine w_e ?_
    refine g_weak [(0, .int .i64 r), (14, .bool (decide ((r : Int) < 20000)))] ⟨rfl, rfl, trivial⟩ ?_
    by_cases hb4 : (r : Int) < 20000
    ·
     refine g_cond_t rfl (decide_eq_true hb4) ?_
     refine w_s ?_
     refine w_r2 ?_
     refine w_e ?_
     refine g_ret ?_
     refine g_in_ret ?_
     refine g_then_ret ?_
     refine fin_ret [.tmp 2, .tmp 3] [.int .i64 3, .int .i64 0] rfl ⟨rfl, rfl, trivial⟩ ?_
     have hv : slotsV r = (3, 0) := by
      unfold slotsV
      first | (rw [if_pos (by omega)]; done) | (rw [if_pos (by omega)]) | (rw [if_neg (by omega), if_pos (by omega)]) | (rw [if_neg (by omega), if_neg (by omega), if_pos (by omega)]) | (rw [if_neg (by omega), if_neg (by omega), if_neg (by omega)]; try rw [Int.min_comm])
     exact ⟨by rw [hv]; rfl, H0.mask [true]⟩
    ·
     refine g_cond_f rfl (decide_eq_false hb4) ?_
     refine g_skip ?_
     refine g_in ?_
     refine g_then ?_
     refine w_s ?_
     refine w_m ?_
     refine w_b (v := .int .i64 (r - 20000)) (hb := (b_sub (w64 (by omega)))) ?_
     refine w_b (v := .int .i64 ((r - 20000) / 20000)) (hb := (b_quo (by omega) (quo64 (by omega)))) ?_
     refine w_b (v := .int .i64 (4 + ((r - 20000) / 20000))) (hb := (b_add (w64 (by omega)))) ?_
     refine w_v (v := .int .i64 (min (4 + ((r - 20000) / 20000)) 50)) (x_min rfl rfl rfl) ?_
     refine w_r2 ?_
     refine w_e ?_
     refine g_ret ?_
     refine fin_ret [.tmp 2, .tmp 3] [.int .i64 (min (4 + ((r - 20000) / 20000)) 50), .int .i64 0] rfl ⟨rfl, rfl, trivial⟩ ?_
     have hv : slotsV r = (min (4 + ((r - 20000) / 20000)) 50, 0) := by
      unfold slotsV
      first | (rw [if_pos (by omega)]; done) | (rw [if_pos (by omega)]) | (rw [if_neg (by omega), if_pos (by omega)]) | (rw [if_neg (by omega), if_neg (by omega), if_pos (by omega)]) | (rw [if_neg (by omega), if_neg (by omega), if_neg (by omega)]; try rw [Int.min_comm])
     exact ⟨by rw [hv]; rfl, H0.mask [true]⟩
theorem slots_k (r a b : Int) (h : slotsV r = (a, b)) (w : World) : Calls Tryz.prog 17 #[.int .i64 r] w fun e w' => e = .returned (.tuple #[.int .i64 a, .int .i64 b]) ∧ S w' [Old w no] := by
  have h1 := slots_s r w
  rw [h] at h1; exact h1
set_option maxRecDepth 20000 in
set_option maxHeartbeats 4000000 in
theorem awake_s  (w : World) : Calls Tryz.prog 6 #[] w fun e w' => e = .returned (.bool true) ∧ S w' [Old w no] := by
 have H0 := S.old w
 refine enter 27 Tryz.func6 rfl rfl rfl ?_
 refine g_weak [] trivial ?_
 refine w_s ?_
 refine w_a ?_
 refine w_e ?_
 refine w_s ?_
 refine l_of (s_call0 H0 (wt0 rfl) (x_call' rfl rfl cl17) (slots_k 9999 2 0 (by decide) _) rfl rfl ?_)
 intro wq1 H2
 refine w_r5 ?_
 refine w_e ?_
 refine w_s ?_
 refine l_of (s_call0 H2 (wt0 rfl) (x_call' rfl rfl cl17) (slots_k 40000 5 0 (by decide) _) rfl rfl ?_)
 intro wq3 H4
 refine w_r5 ?_
 refine w_e ?_
 refine w_s ?_
 refine w_m ?_
 refine w_b ?_
 refine w_m ?_
 refine w_g (decide_eq_true rfl) xm ?_
 refine w_g (decide_eq_true rfl) (x_bin rfl rfl rfl b_eql) ?_
 refine w_v (v := .bool (decide ((0 : Int) = 0))) (x_pick_t rfl rfl (decide_eq_true rfl) rfl) ?_
 refine w_m ?_
 refine w_g (decide_eq_true rfl) xm ?_
 refine w_g (decide_eq_true rfl) (x_bin rfl rfl rfl b_eql) ?_
 refine w_v (v := .bool (decide ((2 : Int) = 2))) (x_pick_t rfl rfl (decide_eq_true rfl) rfl) ?_
 refine w_m ?_
 refine w_g (decide_eq_true rfl) xm ?_
 refine w_g (decide_eq_true rfl) (x_bin rfl rfl rfl b_eql) ?_
 refine w_v (v := .bool (decide ((5 : Int) = 5))) (x_pick_t rfl rfl (decide_eq_true rfl) rfl) ?_
 refine w_a ?_
 refine w_e ?_
 refine g_weak [(0, .bool (decide ((5 : Int) = 5)))] ⟨rfl, trivial⟩ ?_
 refine g_ret ?_
 refine fin_ret [.tmp 0] [.bool (decide ((5 : Int) = 5))] rfl ⟨rfl, trivial⟩ ?_
 exact ⟨rfl, H4.mask [true]⟩
set_option maxRecDepth 20000 in
set_option maxHeartbeats 4000000 in
theorem front_s (l : List Rv) (p : Option Addr) (n c : Nat) (hn2 : n ≤ 9223372036854775807) (m : Int)  (w : World) (hr : Reads w p n c 10 (fl rvL l)) : Calls Tryz.prog 58 #[.slice p n c, .int .i64 m] w fun e w' => e = .returned (.slice p (min n m.toNat) c) ∧ S w' [Old w no] := by
 have H0 := S.old w
 have hnl := hr.lenL rvE
 refine enter 12 Tryz.func58 rfl rfl rfl ?_
 refine g_weak [(0, .slice p n c), (1, .int .i64 m)] ⟨rfl, rfl, trivial⟩ ?_
 refine w_s ?_
 refine w_a ?_
 refine w_e ?_
 refine w_s ?_
 refine w_r2 ?_
 refine w_v (v := .int .i64 ((n : Int))) (x_lenl rfl rfl Tryz.underlying22) ?_
 refine w_m ?_
 refine w_v (v := .int .i64 ((m.toNat : Int))) (ex_cast (x_max rfl rfl rfl) (by rw [show max m 0 = (m.toNat : Int) from by omega])) ?_
 refine w_v (v := .int .i64 (((min n m.toNat : Nat) : Int))) (ex_cast (x_min rfl rfl rfl) (by rw [show min (n : Int) (m.toNat : Int) = ((min n m.toNat : Nat) : Int) from by omega])) ?_
 have hnc := (H0.exReads (k := 0) rfl hr (fun _ _ _ h => h)).2.1
 refine w_v (v := .slice p (min n m.toNat) c) (ex_cast (x_sliceH (min n m.toNat) rfl rfl rfl Tryz.underlying22 sz30 (by omega)) (by rw [cutP0])) ?_
 refine w_a ?_
 refine w_e ?_
 refine g_ret ?_
 refine fin_ret [.tmp 4] [.slice p (min n m.toNat) c] rfl ⟨rfl, trivial⟩ ?_
 exact ⟨rfl, H0.mask [true]⟩
end Go.Proofs.YthfglkkjkpdkpaaGreatDoor
