import Derived.Test.YthfglkkjkpdkpaaGreatDoorKb
import Derived.Test.YthfglkkjkpdkpaaGreatDoorSj
set_option linter.unusedSimpArgs false
set_option linter.unusedVariables false
namespace Go.Proofs.YthfglkkjkpdkpaaGreatDoor
open Go.RowKit

theorem cl26 : callable Tryz.prog 26 = true := by kernel_rfl
theorem cl28 : callable Tryz.prog 28 = true := by kernel_rfl
theorem cl45 : callable Tryz.prog 45 = true := by kernel_rfl
theorem fo30_0 : foO Tryz.prog 30 0 = some 0 := by kernel_rfl
theorem fo30_3 : foO Tryz.prog 30 3 = some 3 := by kernel_rfl
theorem fo30_4 : foO Tryz.prog 30 4 = some 4 := by kernel_rfl
theorem fo30_5 : foO Tryz.prog 30 5 = some 5 := by kernel_rfl
theorem fo30_6 : foO Tryz.prog 30 6 = some 6 := by kernel_rfl
theorem inf3 : infO Tryz.prog 3 = some (some (.int .i64 0), 1, 8) := by kernel_rfl
theorem sz3 : szO Tryz.prog 3 = some 1 := by kernel_rfl
theorem ze3 : zeO Tryz.prog 3 = some (.int .i64 0) := by kernel_rfl
theorem zV_fl (l : List Int) : zV l = fl intL l := map_fl (fun _ => rfl) l
theorem sortZ (l : List Int) (p : Option Addr) (n c : Nat) (hn : l.length = n) (hn2 : n ≤ 1000000) (w : World) (HS : S w [Rw 3 1 p n c (fl intL l)]) :
    Calls Tryz.prog 45 #[.slice p n c] w fun e w' => e = .returned (.tuple #[]) ∧ S w' ([Rw 3 1 p n c (fl intL (sortI l))] ++ [Old w (fps [Rw 3 1 p n c (fl intL l)])]) := by
  have h := sortInts_s l p n c hn hn2 w (by rw [zV_fl]; exact HS)
  rw [zV_fl, zV_fl] at h; exact h
theorem sortI_mem {l : List Int} {x : Int} : x ∈ sortI l ↔ x ∈ l := (sortI_perm l).mem_iff
def numB (x : Int) : Bool := decide (0 ≤ x) && decide (x ≤ 1000000000)
def validR (x : Rv) : Bool := numB x.id && numB x.frm && numB x.to && decide (-1 ≤ x.lt) && decide (x.lt ≤ 1000000000) && numB x.since
open Classical in
noncomputable def askE (seed : ByteArray) (l : List Rv) : Int := if 100 < seed.size ∨ 200 < l.length ∨ l.any (fun x => !validR x) = true then 1 else if (l.map Rv.id).Nodup then 0 else 6
def slotsV (r : Int) : Int × Int := if r < 0 ∨ 1000000000 < r then (0, 7) else if r < 10000 then (2, 0) else if r < 20000 then (3, 0) else (min (4 + (r - 20000) / 20000) 50, 0)
theorem no_takeP {α : Type} {P : α → Prop} {l : List α} {k : Nat} {x : α} (h : ∀ y ∈ l.take k, P y) (hx : l[k]? = some x) (hq : P x) : ∀ y ∈ l.take (k + 1), P y := fun y hy => by
  rw [List.take_add_one, hx] at hy
  rcases List.mem_append.1 hy with hy | hy
  · exact h y hy
  · have e := Option.some.inj (Option.mem_toList.1 hy); rw [← e]; exact hq
theorem at_mem {l : List Int} {j : Nat} {x : Int} (h : l[j]? = some x) : x ∈ l := List.mem_of_getElem? h
theorem take_snocL {α : Type} {l : List α} {k : Nat} {x : α} (h : l[k]? = some x) : l.take (k + 1) = l.take k ++ [x] := by rw [List.take_add_one, h]; rfl
set_option maxRecDepth 20000 in
set_option maxHeartbeats 4000000 in
set_option maxRecDepth 20000 in
set_option maxHeartbeats 4000000 in
theorem in_l (l : List Int) (p : Option Addr) (n c : Nat) (x : Int) (hn : n ≤ 9223372036854775807)  (w : World) (hr : Reads w p n c 1 (fl intL l)) : Calls Tryz.prog 9 #[.slice p n c, .int .i64 x] w fun e w' => e = .returned (.bool (decide (x ∈ l))) ∧ S w' [Old w no] := by
  have H0 := S.old w
  have hnl := hr.lenL intE
  refine enter 17 Tryz.func9 rfl rfl rfl ?_
  refine g_weak [(0, .slice p n c), (1, .int .i64 x)] ⟨rfl, rfl, trivial⟩ ?_
  refine g_seq ?_
  refine g_region ?_
  refine l_of (s_val (v := .bool false) (wt0 rfl) rfl rfl (x_assign rfl rfl) ?_)
  refine g_nil ?_
  refine g_then ?_
  refine g_seq ?_
  refine g_seq ?_
  refine g_region ?_
  refine l_of (s_val (v := .slice p n c) (wt0 rfl) rfl rfl (x_move rfl rfl) ?_)
  refine l_of (s_val (v := .int .i64 ((n : Int))) (wt0 rfl) rfl rfl (x_lenl rfl rfl Tryz.underlying24) ?_)
  refine l_of (s_val (v := .int .i64 0) (wt0 rfl) rfl rfl (x_move rfl rfl) ?_)
  refine g_nil ?_
  refine g_then ?_
  refine g_block ?_
  refine g_loop (ι := Nat) (fun i => [(1, .int .i64 x), (7, .slice p n c), (8, .int .i64 ((n : Int))), (9, .int .i64 ((i : Int)))]) (fun i wx => (i ≤ n) ∧ (∀ y ∈ l.take i, ¬ y = x) ∧ S wx [Old w no]) (fun i => n - i) (0) ⟨rfl, rfl, rfl, rfl, trivial⟩ ⟨Nat.zero_le _, (fun y hy => by simp at hy), H0⟩ ?_
  rintro i wq1 ⟨hi, hno, H2⟩
  replace H2 : S wq1 [Old w no] := H2
  refine g_weak [(1, .int .i64 x), (7, .slice p n c), (8, .int .i64 ((n : Int))), (9, .int .i64 ((i : Int)))] ⟨rfl, rfl, rfl, rfl, trivial⟩ ?_
  refine g_seq ?_
  refine g_region ?_
  refine l_of (s_val (v := .bool (decide (((i : Int) : Int) < (n : Int)))) (wt0 rfl) rfl rfl (x_bin rfl rfl rfl b_lss) ?_)
  refine g_nil ?_
  refine g_then ?_
  refine g_seq ?_
  by_cases hb3 : ((i : Int) : Int) < (n : Int)
  · skip
    refine g_cond_t rfl (decide_eq_true hb3) ?_
    refine g_skip ?_
    refine g_then ?_
    refine g_seq ?_
    refine g_block ?_
    refine g_seq ?_
    refine g_region ?_
    refine l_of (s_val (v := .pointer ((p).map fun q => q.add (i * 1))) (wt0 rfl) rfl rfl (x_idxR i (H2.exReads (k := 0) rfl hr (fun _ _ _ h => h)) rfl rfl rfl Tryz.underlying24 sz3 (by omega)) ?_)
    have hlq := (H2.exReads (k := 0) rfl hr (fun _ _ _ h => h)).lenL intE
    obtain ⟨x4, hx4⟩ := ex_at (l := l) (j := i) (by omega)
    clear hlq
    refine l_of (s_val (v := .int .i64 x4) (wt0 rfl) rfl rfl (x_loadR1 i (H2.exReads (k := 0) rfl hr (fun _ _ _ h => h)) (by omega) rfl rfl Tryz.underlying3 rfl (intE.flAt1 hx4 rfl)) ?_)
    refine l_of (s_val (v := .int .i64 x4) (wt0 rfl) rfl rfl (x_assign rfl rfl) ?_)
    refine g_nil ?_
    refine g_then ?_
    refine g_seq ?_
    refine g_region ?_
    refine l_of (s_val (v := .int .i64 x4) (wt0 rfl) rfl rfl (x_move rfl rfl) ?_)
    refine l_of (s_val (v := .int .i64 x) (wt0 rfl) rfl rfl (x_move rfl rfl) ?_)
    refine l_of (s_val (v := .bool (decide ((x4 : Int) = x))) (wt0 rfl) rfl rfl (x_bin rfl rfl rfl b_eql) ?_)
    refine g_nil ?_
    refine g_then ?_
    by_cases hb5 : (x4 : Int) = x
    · skip
      refine g_cond_t rfl (decide_eq_true hb5) ?_
      refine g_seq ?_
      refine g_region ?_
      refine l_of (s_val (v := .bool true) (wt0 rfl) rfl rfl (x_assign rfl rfl) ?_)
      refine g_nil ?_
      refine g_then ?_
      refine g_ret ?_
      refine g_in_ret ?_
      refine g_then_ret ?_
      refine g_then_ret ?_
      refine g_in_ret ?_
      refine g_then_ret ?_
      refine fin_ret [.tmp 4] [.bool true] rfl ⟨rfl, trivial⟩ ?_
      have hm : x ∈ l := by have h9 := at_mem hx4; have h8 := hb5; first | (rw [← h8]; exact h9) | (rw [h8]; exact h9)
      exact ⟨by rw [decide_eq_true hm]; rfl, H2.mask [true]⟩
    · skip
      refine g_cond_f rfl (decide_eq_false hb5) ?_
      refine g_skip ?_
      refine g_in ?_
      refine g_then ?_
      refine g_region ?_
      refine l_of (s_val (v := .int .i64 (((i + 1 : Nat) : Int))) (wt0 rfl) rfl rfl (x_bin rfl rfl rfl (b_add (by rw [w64 (by omega)]; omega))) ?_)
      refine l_of (s_val (v := .int .i64 (((i + 1 : Nat) : Int))) (wt0 rfl) rfl rfl (x_move rfl rfl) ?_)
      refine g_nil ?_
      refine g_then ?_
      refine g_round (i := (i)) ((i + 1)) ?_ ?_ ?_
      · exact ⟨rfl, rfl, rfl, rfl, trivial⟩
      · exact ⟨by omega, (no_takeP hno hx4 hb5), H2⟩
      · (try dsimp only); omega
  · skip
    refine g_cond_f rfl (decide_eq_false hb3) ?_
    refine g_exit ?_
    refine g_then_exit ?_
    refine g_then_exit ?_
    refine g_in_hit ?_
    refine g_then ?_
    refine g_seq ?_
    refine g_region ?_
    refine l_of (s_val (v := .bool false) (wt0 rfl) rfl rfl (x_assign rfl rfl) ?_)
    refine g_nil ?_
    refine g_then ?_
    refine g_ret ?_
    refine fin_ret [.tmp 4] [.bool false] rfl ⟨rfl, trivial⟩ ?_
    rw [List.take_of_length_le (by omega)] at hno
    have hm : ¬ x ∈ l := fun h => hno x h rfl
    exact ⟨by rw [decide_eq_false hm]; rfl, H2.mask [true]⟩
/-- In order up to i, but for what stands at k. -/
structure Asc (l cur : List Int) (i k : Nat) : Prop where
  perm : cur.Perm l
  le : ∀ a b, a < b → b ≤ i → a ≠ k → b ≠ k → cur.getD a 0 ≤ cur.getD b 0
  up : ∀ b, k < b → b ≤ i → cur.getD k 0 ≤ cur.getD b 0
theorem getD_set2 {l : List Int} {i j : Nat} {x : Int} (hi : i < l.length) : (l.set i x).getD j 0 = if j = i then x else l.getD j 0 := by
  rw [List.getD_eq_getElem?_getD, List.getD_eq_getElem?_getD]
  by_cases h : j = i
  · subst h; rw [if_pos rfl, List.getElem?_set_self hi]; rfl
  · rw [if_neg h, List.getElem?_set_ne (Ne.symm h)]
theorem Asc.go {l cur : List Int} {i k : Nat} (h : Asc l cur i k) (hk : 0 < k) (hki : k ≤ i) (hi : i < cur.length) (hc : cur.getD k 0 < cur.getD (k - 1) 0) : Asc l ((cur.set k (cur.getD (k - 1) 0)).set (k - 1) (cur.getD k 0)) i (k - 1) := by
  have hg : ∀ j, ((cur.set k (cur.getD (k - 1) 0)).set (k - 1) (cur.getD k 0)).getD j 0 = if j = k - 1 then cur.getD k 0 else if j = k then cur.getD (k - 1) 0 else cur.getD j 0 := fun j => by
    rw [getD_set2 (by rw [List.length_set]; omega)]
    by_cases e : j = k - 1
    · rw [if_pos e, if_pos e]
    · rw [if_neg e, if_neg e, getD_set2 (by omega)]
  refine ⟨(swp_perm (d := (0 : Int)) (l := cur) (i := k) (j := k - 1) (by omega) (by omega)).trans h.perm, fun a b h1 h2 h3 h4 => ?_, fun b h1 h2 => ?_⟩
  · rw [hg a, hg b, if_neg h3, if_neg h4]
    by_cases ea : a = k
    · subst ea
      rw [if_pos rfl, if_neg (by omega)]
      exact h.le (a - 1) b (by omega) h2 (by omega) (by omega)
    · rw [if_neg ea]
      by_cases eb : b = k
      · subst eb
        rw [if_pos rfl]
        exact h.le a (b - 1) (by omega) (by omega) ea (by omega)
      · rw [if_neg eb]; exact h.le a b h1 h2 ea eb
  · rw [hg (k - 1), hg b, if_pos rfl, if_neg (by omega)]
    by_cases eb : b = k
    · subst eb; rw [if_pos rfl]; omega
    · rw [if_neg eb]; exact h.up b (by omega) h2
set_option maxRecDepth 20000 in
set_option maxHeartbeats 4000000 in
set_option maxRecDepth 20000 in
set_option maxHeartbeats 4000000 in
theorem ids_s (l : List Rv) (p : Option Addr) (n c : Nat) (hn2 : n ≤ 1000000)  (w : World) (hr : Reads w p n c 10 (fl rvL l)) : Calls Tryz.prog 31 #[.slice p n c] w fun e w' => ∃ p' c', e = .returned (.slice p' (sortI (l.map Rv.id)).length c') ∧ S w' ([Rw 3 1 p' (sortI (l.map Rv.id)).length c' (fl intL (sortI (l.map Rv.id)))] ++ [Old w no]) := by
  have H0 := S.old w
  have hnl := hr.lenL rvE
  refine enter 21 Tryz.func31 rfl rfl rfl ?_
  refine g_weak [(0, .slice p n c)] ⟨rfl, trivial⟩ ?_
  refine g_seq ?_
  refine g_region ?_
  refine l_of (s_val (v := .slice none 0 0) (wt0 rfl) rfl rfl (x_assign rfl rfl) ?_)
  refine g_nil ?_
  refine g_then ?_
  refine g_seq ?_
  refine g_region ?_
  have H1 := H0.nilFl 3 1 intL
  refine l_of (s_val (v := .slice none 0 0) (wt0 rfl) rfl rfl (x_assign rfl rfl) ?_)
  refine g_nil ?_
  refine g_then ?_
  refine g_seq ?_
  refine g_seq ?_
  refine g_region ?_
  refine l_of (s_val (v := .slice p n c) (wt0 rfl) rfl rfl (x_move rfl rfl) ?_)
  refine l_of (s_val (v := .int .i64 ((n : Int))) (wt0 rfl) rfl rfl (x_lenl rfl rfl Tryz.underlying22) ?_)
  refine l_of (s_val (v := .int .i64 0) (wt0 rfl) rfl rfl (x_move rfl rfl) ?_)
  refine g_nil ?_
  refine g_then ?_
  refine g_block ?_
  refine g_loop (ι := Nat × Option Addr × Nat) (fun (i, po, co) => [(3, .slice po i co), (6, .slice p n c), (7, .int .i64 ((n : Int))), (8, .int .i64 ((i : Int)))]) (fun (i, po, co) wx => (i ≤ n) ∧ S wx [Rw 3 1 po i co (fl intL ((l.take i).map Rv.id)), Old w no]) (fun (i, po, co) => n - i) (0, none, 0) ⟨rfl, rfl, rfl, rfl, trivial⟩ ⟨Nat.zero_le _, (by rw [List.take_zero, List.map_nil]; exact H1.takes [0, 1] (by decide))⟩ ?_
  rintro ⟨i, po, co⟩ wq2 ⟨hi, H3⟩
  replace H3 : S wq2 [Rw 3 1 po i co (fl intL ((l.take i).map Rv.id)), Old w no] := H3
  refine g_weak [(3, .slice po i co), (6, .slice p n c), (7, .int .i64 ((n : Int))), (8, .int .i64 ((i : Int)))] ⟨rfl, rfl, rfl, rfl, trivial⟩ ?_
  refine g_seq ?_
  refine g_region ?_
  refine l_of (s_val (v := .bool (decide (((i : Int) : Int) < (n : Int)))) (wt0 rfl) rfl rfl (x_bin rfl rfl rfl b_lss) ?_)
  refine g_nil ?_
  refine g_then ?_
  refine g_seq ?_
  by_cases hb4 : ((i : Int) : Int) < (n : Int)
  · skip
    refine g_cond_t rfl (decide_eq_true hb4) ?_
    refine g_skip ?_
    refine g_then ?_
    refine g_seq ?_
    refine g_block ?_
    refine g_seq ?_
    refine g_region ?_
    refine l_of (s_val (v := .pointer ((p).map fun q => q.add (i * 10))) (wt0 rfl) rfl rfl (x_idxR i (H3.exReads (k := 1) rfl hr (fun _ _ _ h => h)) rfl rfl rfl Tryz.underlying22 sz30 (by omega)) ?_)
    have hlq := (H3.exReads (k := 1) rfl hr (fun _ _ _ h => h)).lenL rvE
    obtain ⟨x5, hx5⟩ := ex_at (l := l) (j := i) (by omega)
    clear hlq
    refine l_of (s_val (v := .agg #[.int .i64 (x5.id), .bool x5.intr, .bool x5.chk, .int .i64 (x5.frm), .int .i64 (x5.to), .int .i64 (x5.lt), .int .i64 (x5.since), .bool x5.snb, .bool x5.now, .bool x5.seed]) (wt0 rfl) rfl rfl (x_loadRA (vs := rvL x5) i (H3.exReads (k := 1) rfl hr (fun _ _ _ h => h)) (by omega) rfl rfl Tryz.underlying30 rfl sz30 (by rfl) (rvE.flAt hx5)) ?_)
    refine l_of (s_alloc H3 (wt0 rfl) rfl rfl rfl ze30 ?_)
    intro g6 wq7 H8
    refine l_of (s_store H8 0 (wt0 rfl) rfl rfl rfl rfl rfl sz30 rfl rfl (cs' := #[.int .i64 (x5.id), .bool x5.intr, .bool x5.chk, .int .i64 (x5.frm), .int .i64 (x5.to), .int .i64 (x5.lt), .int .i64 (x5.since), .bool x5.snb, .bool x5.now, .bool x5.seed]) rfl ?_)
    intro wq9 H10
    refine g_nil ?_
    refine g_then ?_
    refine g_region ?_
    refine l_of (s_val (v := .slice po i co) (wt0 rfl) rfl rfl (x_move rfl rfl) ?_)
    refine l_of (s_val (v := .pointer (some ⟨g6, 0, none⟩)) (wt0 rfl) rfl rfl (x_fieldAddr rfl rfl fo30_0 rfl) ?_)
    refine l_of (s_val (v := .int .i64 (x5.id)) (wt0 rfl) rfl rfl (x_load1 H10 0 rfl rfl Tryz.underlying3 rfl rfl rfl) ?_)
    refine l_of (s_buildSlice H10 (wt0 rfl) rfl rfl rfl (vs := [.int .i64 (x5.id)]) rfl Tryz.underlying24 sz3 ze3 rfl rfl (cells := #[.int .i64 (x5.id)]) (by kernel_rfl) ?_)
    intro g11 wq12 H13
    refine l_of (s_appB (m := 1) (l := ((l.take i).map Rv.id)) (l2 := [x5.id]) intE H13 2 (j0 := 0) rfl rfl ⟨rfl, Nat.le_refl _⟩ (wt0 rfl) rfl rfl rfl rfl rfl rfl Tryz.underlying24 inf3 rfl (by decide) (by omega) ?_)
    intro p14 c15 wq16 H17
    replace H17 : S wq16 [Ob g11 (.cells #[.int .i64 (x5.id)] 3 (0, 0)), Ob g6 (.cells #[.int .i64 (x5.id), .bool x5.intr, .bool x5.chk, .int .i64 (x5.frm), .int .i64 (x5.to), .int .i64 (x5.lt), .int .i64 (x5.since), .bool x5.snb, .bool x5.now, .bool x5.seed] 30 (0, 0)), Rw 3 1 p14 (i + 1) c15 (fl intL (((l.take i).map Rv.id) ++ [x5.id])), Old w no] := H17
    refine l_of (s_val (v := .slice p14 (i + 1) c15) (wt0 rfl) rfl rfl (x_assign rfl rfl) ?_)
    refine g_nil ?_
    refine g_in ?_
    refine g_then ?_
    refine g_region ?_
    refine l_of (s_val (v := .int .i64 (((i + 1 : Nat) : Int))) (wt0 rfl) rfl rfl (x_bin rfl rfl rfl (b_add (by rw [w64 (by omega)]; omega))) ?_)
    refine l_of (s_val (v := .int .i64 (((i + 1 : Nat) : Int))) (wt0 rfl) rfl rfl (x_move rfl rfl) ?_)
    refine g_nil ?_
    refine g_then ?_
    refine g_round (i := (i, po, co)) ((i + 1), p14, c15) ?_ ?_ ?_
    · exact ⟨rfl, rfl, rfl, rfl, trivial⟩
    · exact ⟨by omega, (by rw [take_snocL hx5, List.map_append]; exact H17.takes [2, 3] (by decide))⟩
    · (try dsimp only); omega
  · skip
    refine g_cond_f rfl (decide_eq_false hb4) ?_
    refine g_exit ?_
    refine g_then_exit ?_
    refine g_then_exit ?_
    refine g_in_hit ?_
    refine g_then ?_
    refine g_seq ?_
    refine g_region ?_
    refine l_of (s_val (v := .slice po i co) (wt0 rfl) rfl rfl (x_move rfl rfl) ?_)
    refine l_of (s_call (wt0 rfl) (x_call' rfl rfl cl45) (sortZ ((l.take i).map Rv.id) po i co (by rw [List.length_map, List.length_take]; omega) (by omega) _ (H3.takes [0] (by decide))) ?_)
    rintro _ wq18 ⟨rfl, H19⟩
    replace H19 : S wq18 [Rw 3 1 po i co (fl intL (sortI ((l.take i).map Rv.id))), Old w no] := H3.absorbI (new := [Rw 3 1 po i co (fl intL (sortI ((l.take i).map Rv.id)))]) [0] H19
    refine b_ret rfl rfl ?_
    refine g_nil ?_
    refine g_then ?_
    refine g_seq ?_
    refine g_region ?_
    refine l_of (s_val (v := .slice po i co) (wt0 rfl) rfl rfl (x_move rfl rfl) ?_)
    refine l_of (s_val (v := .slice po i co) (wt0 rfl) rfl rfl (x_assign rfl rfl) ?_)
    refine g_nil ?_
    refine g_then ?_
    refine g_ret ?_
    refine fin_ret [.tmp 2] [.slice po i co] rfl ⟨rfl, trivial⟩ ?_
    have hsl : (sortI (l.map Rv.id)).length = i := by rw [sortI_len, List.length_map]; omega
    have htk : l.take i = l := List.take_of_length_le (by omega)
    rw [htk] at H19
    exact ⟨_, _, by rw [hsl]; rfl, by rw [hsl]; exact H19.takes [0, 1] (by decide)⟩
set_option maxRecDepth 20000 in
set_option maxHeartbeats 4000000 in
set_option maxRecDepth 20000 in
set_option maxHeartbeats 4000000 in
theorem has1_s (b : Nat) (r x : Rv)  (w : World) (HS : S w [Ob b (.cells #[.int .i64 (r.id), .bool r.intr, .bool r.chk, .int .i64 (r.frm), .int .i64 (r.to), .int .i64 (r.lt), .int .i64 (r.since), .bool r.snb, .bool r.now, .bool r.seed] 30 (0, 0))]) : Calls Tryz.prog 44 #[.agg #[.int .i64 (x.id), .bool x.intr, .bool x.chk, .int .i64 (x.frm), .int .i64 (x.to), .int .i64 (x.lt), .int .i64 (x.since), .bool x.snb, .bool x.now, .bool x.seed], .pointer (some ⟨b, 0, none⟩)] w fun e w' => e = .returned (.bool (decide (x.id = r.id))) ∧ S w' ([Ob b (.cells #[.int .i64 (r.id), .bool r.intr, .bool r.chk, .int .i64 (r.frm), .int .i64 (r.to), .int .i64 (r.lt), .int .i64 (r.since), .bool r.snb, .bool r.now, .bool r.seed] 30 (0, 0))] ++ [Old w (fps [Ob b (.cells #[.int .i64 (r.id), .bool r.intr, .bool r.chk, .int .i64 (r.frm), .int .i64 (r.to), .int .i64 (r.lt), .int .i64 (r.since), .bool r.snb, .bool r.now, .bool r.seed] 30 (0, 0))])]) := by
  have H00 := HS.beginI
  have H0 : S w ([Ob b (.cells #[.int .i64 (r.id), .bool r.intr, .bool r.chk, .int .i64 (r.frm), .int .i64 (r.to), .int .i64 (r.lt), .int .i64 (r.since), .bool r.snb, .bool r.now, .bool r.seed] 30 (0, 0)), Old w (fps [Ob b (.cells #[.int .i64 (r.id), .bool r.intr, .bool r.chk, .int .i64 (r.frm), .int .i64 (r.to), .int .i64 (r.lt), .int .i64 (r.since), .bool r.snb, .bool r.now, .bool r.seed] 30 (0, 0))])]) := H00
  refine enter 9 Tryz.func44 rfl rfl rfl ?_
  refine g_weak [(0, .agg #[.int .i64 (x.id), .bool x.intr, .bool x.chk, .int .i64 (x.frm), .int .i64 (x.to), .int .i64 (x.lt), .int .i64 (x.since), .bool x.snb, .bool x.now, .bool x.seed]), (1, .pointer (some ⟨b, 0, none⟩))] ⟨rfl, rfl, trivial⟩ ?_
  refine g_seq ?_
  refine g_region ?_
  refine l_of (s_box H0 (wt0 rfl) rfl rfl rfl rfl ?_)
  intro g1 wq2 H3
  refine l_of (s_val (v := .bool false) (wt0 rfl) rfl rfl (x_assign rfl rfl) ?_)
  refine g_nil ?_
  refine g_then ?_
  refine g_seq ?_
  refine g_region ?_
  refine l_of (s_val (v := .pointer (some ⟨g1, 0, none⟩)) (wt0 rfl) rfl rfl (x_fieldAddr rfl rfl fo30_0 rfl) ?_)
  refine l_of (s_val (v := .int .i64 (x.id)) (wt0 rfl) rfl rfl (x_load1 H3 0 rfl rfl Tryz.underlying3 rfl rfl rfl) ?_)
  refine l_of (s_val (v := .pointer (some ⟨b, 0, none⟩)) (wt0 rfl) rfl rfl (x_fieldAddr rfl rfl fo30_0 rfl) ?_)
  refine l_of (s_val (v := .int .i64 (r.id)) (wt0 rfl) rfl rfl (x_load1 H3 1 rfl rfl Tryz.underlying3 rfl rfl rfl) ?_)
  refine l_of (s_val (v := .bool (decide ((x.id : Int) = r.id))) (wt0 rfl) rfl rfl (x_bin rfl rfl rfl b_eql) ?_)
  refine l_of (s_val (v := .bool (decide ((x.id : Int) = r.id))) (wt0 rfl) rfl rfl (x_assign rfl rfl) ?_)
  refine g_nil ?_
  refine g_then ?_
  refine g_ret ?_
  refine fin_ret [.tmp 3] [.bool (decide ((x.id : Int) = r.id))] rfl ⟨rfl, trivial⟩ ?_
  exact ⟨rfl, H3.takes [1, 2] (by decide)⟩
theorem has1_f (b : Nat) (r : Rv) : FunC Tryz.prog 44 #[] #[.pointer (some ⟨b, 0, none⟩)] (Big [Ob b (.cells #[.int .i64 (r.id), .bool r.intr, .bool r.chk, .int .i64 (r.frm), .int .i64 (r.to), .int .i64 (r.lt), .int .i64 (r.since), .bool r.snb, .bool r.now, .bool r.seed] 30 (0, 0))]) (fun x : Rv => [x.v]) (fun x => .bool ((fun x : Rv => decide (x.id = r.id)) x)) (fun _ => True) :=
  FunC.ofBig (by kernel_rfl) fun x _ w HS => has1_s b r x w HS
set_option maxRecDepth 20000 in
set_option maxHeartbeats 4000000 in
set_option maxRecDepth 20000 in
set_option maxHeartbeats 4000000 in
theorem has_s (l : List Rv) (p : Option Addr) (n c : Nat) (hn : n ≤ 9223372036854775807) (r : Rv)  (w : World) (hr : Reads w p n c 10 (fl rvL l)) : Calls Tryz.prog 30 #[.slice p n c, .agg #[.int .i64 (r.id), .bool r.intr, .bool r.chk, .int .i64 (r.frm), .int .i64 (r.to), .int .i64 (r.lt), .int .i64 (r.since), .bool r.snb, .bool r.now, .bool r.seed]] w fun e w' => e = .returned (.bool (decide (r.id ∈ l.map Rv.id))) ∧ S w' [Old w no] := by
  have H0 := S.old w
  refine enter 8 Tryz.func30 rfl rfl rfl ?_
  refine g_weak [(0, .slice p n c), (1, .agg #[.int .i64 (r.id), .bool r.intr, .bool r.chk, .int .i64 (r.frm), .int .i64 (r.to), .int .i64 (r.lt), .int .i64 (r.since), .bool r.snb, .bool r.now, .bool r.seed])] ⟨rfl, rfl, trivial⟩ ?_
  refine g_seq ?_
  refine g_region ?_
  refine l_of (s_box H0 (wt0 rfl) rfl rfl rfl rfl ?_)
  intro g1 wq2 H3
  refine l_of (s_val (v := .bool false) (wt0 rfl) rfl rfl (x_assign rfl rfl) ?_)
  refine g_nil ?_
  refine g_then ?_
  refine g_seq ?_
  refine g_region ?_
  refine l_of (s_val (v := .slice p n c) (wt0 rfl) rfl rfl (x_move rfl rfl) ?_)
  refine l_of (s_val (v := .func (.func 44) #[] #[.pointer (some ⟨g1, 0, none⟩)]) (wt0 rfl) rfl rfl (x_makeFunc rfl rfl rfl) ?_)
  have H4 : S wq2 [(Big [Ob g1 (.cells #[.int .i64 (r.id), .bool r.intr, .bool r.chk, .int .i64 (r.frm), .int .i64 (r.to), .int .i64 (r.lt), .int .i64 (r.since), .bool r.snb, .bool r.now, .bool r.seed] 30 (0, 0))]), Old w no] := S.big (L := [Ob g1 (.cells #[.int .i64 (r.id), .bool r.intr, .bool r.chk, .int .i64 (r.frm), .int .i64 (r.to), .int .i64 (r.lt), .int .i64 (r.since), .bool r.snb, .bool r.now, .bool r.seed] 30 (0, 0))]) (H3.takes [0, 1] (by decide))
  refine l_of (s_call (wt0 rfl) (x_call' rfl rfl cl28) (contF_r l p n c hn (fun x : Rv => decide (x.id = r.id)) 44 #[] #[.pointer (some ⟨g1, 0, none⟩)] (Big [Ob g1 (.cells #[.int .i64 (r.id), .bool r.intr, .bool r.chk, .int .i64 (r.frm), .int .i64 (r.to), .int .i64 (r.lt), .int .i64 (r.since), .bool r.snb, .bool r.now, .bool r.seed] 30 (0, 0))]) (fun _ => True) (has1_f g1 r) (fun _ _ => trivial) _ (H4.takes [0] (by decide)) (H4.exReads (k := 1) rfl hr (fun _ _ _ h => h)) (H4.apartOld (i := 1) (k := 0) rfl rfl (by decide) hr (by decide) (fun _ _ _ h => h))) ?_)
  rintro _ wq5 ⟨rfl, H6⟩
  replace H6 : S wq5 [(Big [Ob g1 (.cells #[.int .i64 (r.id), .bool r.intr, .bool r.chk, .int .i64 (r.frm), .int .i64 (r.to), .int .i64 (r.lt), .int .i64 (r.since), .bool r.snb, .bool r.now, .bool r.seed] 30 (0, 0))]), Old w no] := H4.absorbI (new := [(Big [Ob g1 (.cells #[.int .i64 (r.id), .bool r.intr, .bool r.chk, .int .i64 (r.frm), .int .i64 (r.to), .int .i64 (r.lt), .int .i64 (r.since), .bool r.snb, .bool r.now, .bool r.seed] 30 (0, 0))])]) [0] H6
  refine b_ret rfl rfl ?_
  refine l_of (s_val (v := .bool ((l.any (fun x : Rv => decide (x.id = r.id))))) (wt0 rfl) rfl rfl (x_assign rfl rfl) ?_)
  refine g_nil ?_
  refine g_then ?_
  refine g_ret ?_
  refine fin_ret [.tmp 4] [.bool ((l.any (fun x : Rv => decide (x.id = r.id))))] rfl ⟨rfl, trivial⟩ ?_
  have hb : l.any (fun x : Rv => decide (x.id = r.id)) = decide (r.id ∈ l.map Rv.id) := by rw [Bool.eq_iff_iff, List.any_eq_true, decide_eq_true_iff, List.mem_map]; exact ⟨fun ⟨x, h1, h2⟩ => ⟨x, h1, of_decide_eq_true h2⟩, fun ⟨x, h1, h2⟩ => ⟨x, h1, decide_eq_true h2⟩⟩
  exact ⟨by rw [hb]; rfl, H6.mask [false, true]⟩
set_option maxRecDepth 20000 in
set_option maxHeartbeats 4000000 in
set_option maxRecDepth 20000 in
set_option maxHeartbeats 4000000 in
theorem valid1_s (x y : Int)  (w : World) : Calls Tryz.prog 26 #[.int .i64 x, .int .i64 y] w fun e w' => e = .returned (.bool (decide (y ≤ x) && decide (x ≤ 1000000000))) ∧ S w' [Old w no] := by
  have H0 := S.old w
  refine enter 12 Tryz.func26 rfl rfl rfl ?_
  refine g_weak [(0, .int .i64 x), (1, .int .i64 y)] ⟨rfl, rfl, trivial⟩ ?_
  refine g_seq ?_
  refine g_region ?_
  refine l_of (s_val (v := .bool false) (wt0 rfl) rfl rfl (x_assign rfl rfl) ?_)
  refine g_nil ?_
  refine g_then ?_
  refine g_seq ?_
  refine g_region ?_
  refine l_of (s_val (v := .int .i64 x) (wt0 rfl) rfl rfl (x_move rfl rfl) ?_)
  refine l_of (s_val (v := .int .i64 y) (wt0 rfl) rfl rfl (x_move rfl rfl) ?_)
  refine l_of (s_val (v := .bool (decide ((y : Int) ≤ x))) (wt0 rfl) rfl rfl (x_bin rfl rfl rfl b_geq) ?_)
  refine l_of (s_val (v := .bool (decide ((y : Int) ≤ x))) (wt0 rfl) rfl rfl (x_move rfl rfl) ?_)
  by_cases hb1 : (y : Int) ≤ x
  · skip
    refine l_of (s_val (v := .int .i64 x) (wt1 rfl rfl rfl rfl (decide_eq_true hb1)) rfl rfl (x_move rfl rfl) ?_)
    refine l_of (s_val (v := .bool (decide ((x : Int) ≤ 1000000000))) (wt1 rfl rfl rfl rfl (decide_eq_true hb1)) rfl rfl (x_bin rfl rfl rfl b_leq) ?_)
    refine l_of (s_val (v := .bool (decide ((x : Int) ≤ 1000000000))) (wt0 rfl) rfl rfl (x_pick_t rfl rfl (decide_eq_true hb1) rfl) ?_)
    refine l_of (s_val (v := .bool (decide ((x : Int) ≤ 1000000000))) (wt0 rfl) rfl rfl (x_assign rfl rfl) ?_)
    refine g_nil ?_
    refine g_then ?_
    refine g_ret ?_
    refine fin_ret [.tmp 4] [.bool (decide ((x : Int) ≤ 1000000000))] rfl ⟨rfl, trivial⟩ ?_
    exact ⟨by simp [hb1, tupled], H0.mask [true]⟩
  · skip
    refine l_of (s_not (wn1 rfl rfl rfl rfl (decide_eq_false hb1)) rfl rfl ?_)
    refine l_of (s_not (wn1 rfl rfl rfl rfl (decide_eq_false hb1)) rfl rfl ?_)
    refine l_of (s_val (v := .bool false) (wt0 rfl) rfl rfl (x_pick_f rfl rfl (decide_eq_false hb1) rfl) ?_)
    refine l_of (s_val (v := .bool false) (wt0 rfl) rfl rfl (x_assign rfl rfl) ?_)
    refine g_nil ?_
    refine g_then ?_
    refine g_ret ?_
    refine fin_ret [.tmp 4] [.bool false] rfl ⟨rfl, trivial⟩ ?_
    exact ⟨by simp [hb1, tupled], H0.mask [true]⟩
set_option maxRecDepth 20000 in
set_option maxHeartbeats 4000000 in
set_option maxRecDepth 20000 in
set_option maxHeartbeats 4000000 in
theorem valid_s (x : Rv)  (w : World) : Calls Tryz.prog 14 #[.agg #[.int .i64 (x.id), .bool x.intr, .bool x.chk, .int .i64 (x.frm), .int .i64 (x.to), .int .i64 (x.lt), .int .i64 (x.since), .bool x.snb, .bool x.now, .bool x.seed]] w fun e w' => e = .returned (.bool (validR x)) ∧ S w' [Old w no] := by
  have H0 := S.old w
  refine enter 32 Tryz.func14 rfl rfl rfl ?_
  refine g_weak [(0, .agg #[.int .i64 (x.id), .bool x.intr, .bool x.chk, .int .i64 (x.frm), .int .i64 (x.to), .int .i64 (x.lt), .int .i64 (x.since), .bool x.snb, .bool x.now, .bool x.seed])] ⟨rfl, trivial⟩ ?_
  refine g_seq ?_
  refine g_region ?_
  refine l_of (s_box H0 (wt0 rfl) rfl rfl rfl rfl ?_)
  intro g1 wq2 H3
  refine l_of (s_val (v := .bool false) (wt0 rfl) rfl rfl (x_assign rfl rfl) ?_)
  refine g_nil ?_
  refine g_then ?_
  refine g_seq ?_
  refine g_region ?_
  refine l_of (s_val (v := .func (.func 26) #[] #[]) (wt0 rfl) rfl rfl (x_assign rfl rfl) ?_)
  refine g_nil ?_
  refine g_then ?_
  refine g_seq ?_
  refine g_region ?_
  refine l_of (s_val (v := .func (.func 26) #[] #[]) (wt0 rfl) rfl rfl (x_move rfl rfl) ?_)
  refine l_of (s_val (v := .pointer (some ⟨g1, 0, none⟩)) (wt0 rfl) rfl rfl (x_fieldAddr rfl rfl fo30_0 rfl) ?_)
  refine l_of (s_val (v := .int .i64 (x.id)) (wt0 rfl) rfl rfl (x_load1 H3 0 rfl rfl Tryz.underlying3 rfl rfl rfl) ?_)
  refine l_of (s_call (wt0 rfl) (x_call rfl rfl rfl cl26) (valid1_s x.id 0 _) ?_)
  rintro _ wq4 ⟨rfl, H5⟩
  replace H5 : S wq4 [Ob g1 (.cells #[.int .i64 (x.id), .bool x.intr, .bool x.chk, .int .i64 (x.frm), .int .i64 (x.to), .int .i64 (x.lt), .int .i64 (x.since), .bool x.snb, .bool x.now, .bool x.seed] 30 (0, 0)), Old w no] := H3.absorb (new := []) H5
  refine b_ret rfl rfl ?_
  refine l_of (s_val (v := .bool ((decide (0 ≤ x.id) && decide (x.id ≤ 1000000000)))) (wt0 rfl) rfl rfl (x_move rfl rfl) ?_)
  rcases Bool.eq_false_or_eq_true ((decide (0 ≤ x.id) && decide (x.id ≤ 1000000000))) with hb6 | hb6
  · skip
    refine l_of (s_val (v := .func (.func 26) #[] #[]) (wt1 rfl rfl rfl rfl hb6) rfl rfl (x_move rfl rfl) ?_)
    refine l_of (s_val (v := .pointer (some ⟨g1, 3, none⟩)) (wt1 rfl rfl rfl rfl hb6) rfl rfl (x_fieldAddr rfl rfl fo30_3 rfl) ?_)
    refine l_of (s_val (v := .int .i64 (x.frm)) (wt1 rfl rfl rfl rfl hb6) rfl rfl (x_load1 H5 0 rfl rfl Tryz.underlying3 rfl rfl rfl) ?_)
    refine l_of (s_call (wt1 rfl rfl rfl rfl hb6) (x_call rfl rfl rfl cl26) (valid1_s x.frm 0 _) ?_)
    rintro _ wq7 ⟨rfl, H8⟩
    replace H8 : S wq7 [Ob g1 (.cells #[.int .i64 (x.id), .bool x.intr, .bool x.chk, .int .i64 (x.frm), .int .i64 (x.to), .int .i64 (x.lt), .int .i64 (x.since), .bool x.snb, .bool x.now, .bool x.seed] 30 (0, 0)), Old w no] := H5.absorb (new := []) H8
    refine b_ret rfl rfl ?_
    refine l_of (s_val (v := .bool ((decide (0 ≤ x.frm) && decide (x.frm ≤ 1000000000)))) (wt0 rfl) rfl rfl (x_pick_t rfl rfl hb6 rfl) ?_)
    refine l_of (s_val (v := .bool ((decide (0 ≤ x.frm) && decide (x.frm ≤ 1000000000)))) (wt0 rfl) rfl rfl (x_move rfl rfl) ?_)
    rcases Bool.eq_false_or_eq_true ((decide (0 ≤ x.frm) && decide (x.frm ≤ 1000000000))) with hb9 | hb9
    · skip
      refine l_of (s_val (v := .func (.func 26) #[] #[]) (wt1 rfl rfl rfl rfl hb9) rfl rfl (x_move rfl rfl) ?_)
      refine l_of (s_val (v := .pointer (some ⟨g1, 4, none⟩)) (wt1 rfl rfl rfl rfl hb9) rfl rfl (x_fieldAddr rfl rfl fo30_4 rfl) ?_)
      refine l_of (s_val (v := .int .i64 (x.to)) (wt1 rfl rfl rfl rfl hb9) rfl rfl (x_load1 H8 0 rfl rfl Tryz.underlying3 rfl rfl rfl) ?_)
      refine l_of (s_call (wt1 rfl rfl rfl rfl hb9) (x_call rfl rfl rfl cl26) (valid1_s x.to 0 _) ?_)
      rintro _ wq10 ⟨rfl, H11⟩
      replace H11 : S wq10 [Ob g1 (.cells #[.int .i64 (x.id), .bool x.intr, .bool x.chk, .int .i64 (x.frm), .int .i64 (x.to), .int .i64 (x.lt), .int .i64 (x.since), .bool x.snb, .bool x.now, .bool x.seed] 30 (0, 0)), Old w no] := H8.absorb (new := []) H11
      refine b_ret rfl rfl ?_
      refine l_of (s_val (v := .bool ((decide (0 ≤ x.to) && decide (x.to ≤ 1000000000)))) (wt0 rfl) rfl rfl (x_pick_t rfl rfl hb9 rfl) ?_)
      refine l_of (s_val (v := .bool ((decide (0 ≤ x.to) && decide (x.to ≤ 1000000000)))) (wt0 rfl) rfl rfl (x_move rfl rfl) ?_)
      rcases Bool.eq_false_or_eq_true ((decide (0 ≤ x.to) && decide (x.to ≤ 1000000000))) with hb12 | hb12
      · skip
        refine l_of (s_val (v := .func (.func 26) #[] #[]) (wt1 rfl rfl rfl rfl hb12) rfl rfl (x_move rfl rfl) ?_)
        refine l_of (s_val (v := .pointer (some ⟨g1, 5, none⟩)) (wt1 rfl rfl rfl rfl hb12) rfl rfl (x_fieldAddr rfl rfl fo30_5 rfl) ?_)
        refine l_of (s_val (v := .int .i64 (x.lt)) (wt1 rfl rfl rfl rfl hb12) rfl rfl (x_load1 H11 0 rfl rfl Tryz.underlying3 rfl rfl rfl) ?_)
        refine l_of (s_call (wt1 rfl rfl rfl rfl hb12) (x_call rfl rfl rfl cl26) (valid1_s x.lt (-1) _) ?_)
        rintro _ wq13 ⟨rfl, H14⟩
        replace H14 : S wq13 [Ob g1 (.cells #[.int .i64 (x.id), .bool x.intr, .bool x.chk, .int .i64 (x.frm), .int .i64 (x.to), .int .i64 (x.lt), .int .i64 (x.since), .bool x.snb, .bool x.now, .bool x.seed] 30 (0, 0)), Old w no] := H11.absorb (new := []) H14
        refine b_ret rfl rfl ?_
        refine l_of (s_val (v := .bool ((decide (-1 ≤ x.lt) && decide (x.lt ≤ 1000000000)))) (wt0 rfl) rfl rfl (x_pick_t rfl rfl hb12 rfl) ?_)
        refine l_of (s_val (v := .bool ((decide (-1 ≤ x.lt) && decide (x.lt ≤ 1000000000)))) (wt0 rfl) rfl rfl (x_move rfl rfl) ?_)
        rcases Bool.eq_false_or_eq_true ((decide (-1 ≤ x.lt) && decide (x.lt ≤ 1000000000))) with hb15 | hb15
        · skip
          refine l_of (s_val (v := .func (.func 26) #[] #[]) (wt1 rfl rfl rfl rfl hb15) rfl rfl (x_move rfl rfl) ?_)
          refine l_of (s_val (v := .pointer (some ⟨g1, 6, none⟩)) (wt1 rfl rfl rfl rfl hb15) rfl rfl (x_fieldAddr rfl rfl fo30_6 rfl) ?_)
          refine l_of (s_val (v := .int .i64 (x.since)) (wt1 rfl rfl rfl rfl hb15) rfl rfl (x_load1 H14 0 rfl rfl Tryz.underlying3 rfl rfl rfl) ?_)
          refine l_of (s_call (wt1 rfl rfl rfl rfl hb15) (x_call rfl rfl rfl cl26) (valid1_s x.since 0 _) ?_)
          rintro _ wq16 ⟨rfl, H17⟩
          replace H17 : S wq16 [Ob g1 (.cells #[.int .i64 (x.id), .bool x.intr, .bool x.chk, .int .i64 (x.frm), .int .i64 (x.to), .int .i64 (x.lt), .int .i64 (x.since), .bool x.snb, .bool x.now, .bool x.seed] 30 (0, 0)), Old w no] := H14.absorb (new := []) H17
          refine b_ret rfl rfl ?_
          refine l_of (s_val (v := .bool ((decide (0 ≤ x.since) && decide (x.since ≤ 1000000000)))) (wt0 rfl) rfl rfl (x_pick_t rfl rfl hb15 rfl) ?_)
          refine l_of (s_val (v := .bool ((decide (0 ≤ x.since) && decide (x.since ≤ 1000000000)))) (wt0 rfl) rfl rfl (x_assign rfl rfl) ?_)
          refine g_nil ?_
          refine g_then ?_
          refine g_weak [(2, .bool ((decide (0 ≤ x.since) && decide (x.since ≤ 1000000000))))] ⟨rfl, trivial⟩ ?_
          refine g_ret ?_
          refine fin_ret [.tmp 2] [.bool ((decide (0 ≤ x.since) && decide (x.since ≤ 1000000000)))] rfl ⟨rfl, trivial⟩ ?_
          exact ⟨by unfold validR; try unfold numB at *; simp [hb6, hb9, hb12, hb15, tupled, Bool.and_assoc], H17.mask [false, true]⟩
        · skip
          refine l_of (s_not (wn1 rfl rfl rfl rfl hb15) rfl rfl ?_)
          refine l_of (s_not (wn1 rfl rfl rfl rfl hb15) rfl rfl ?_)
          refine l_of (s_not (wn1 rfl rfl rfl rfl hb15) rfl rfl ?_)
          refine l_of (s_not (wn1 rfl rfl rfl rfl hb15) rfl rfl ?_)
          refine l_of (s_val (v := .bool false) (wt0 rfl) rfl rfl (x_pick_f rfl rfl hb15 rfl) ?_)
          refine l_of (s_val (v := .bool false) (wt0 rfl) rfl rfl (x_assign rfl rfl) ?_)
          refine g_nil ?_
          refine g_then ?_
          refine g_weak [(2, .bool false)] ⟨rfl, trivial⟩ ?_
          refine g_ret ?_
          refine fin_ret [.tmp 2] [.bool false] rfl ⟨rfl, trivial⟩ ?_
          exact ⟨by unfold validR; try unfold numB at *; simp [hb6, hb9, hb12, hb15, tupled, Bool.and_assoc], H14.mask [false, true]⟩
      · skip
        refine l_of (s_not (wn1 rfl rfl rfl rfl hb12) rfl rfl ?_)
        refine l_of (s_not (wn1 rfl rfl rfl rfl hb12) rfl rfl ?_)
        refine l_of (s_not (wn1 rfl rfl rfl rfl hb12) rfl rfl ?_)
        refine l_of (s_not (wn1 rfl rfl rfl rfl hb12) rfl rfl ?_)
        refine l_of (s_val (v := .bool false) (wt0 rfl) rfl rfl (x_pick_f rfl rfl hb12 rfl) ?_)
        refine l_of (s_val (v := .bool false) (wt0 rfl) rfl rfl (x_move rfl rfl) ?_)
        refine l_of (s_not (wn1 rfl rfl rfl rfl rfl) rfl rfl ?_)
        refine l_of (s_not (wn1 rfl rfl rfl rfl rfl) rfl rfl ?_)
        refine l_of (s_not (wn1 rfl rfl rfl rfl rfl) rfl rfl ?_)
        refine l_of (s_not (wn1 rfl rfl rfl rfl rfl) rfl rfl ?_)
        refine l_of (s_val (v := .bool false) (wt0 rfl) rfl rfl (x_pick_f rfl rfl rfl rfl) ?_)
        refine l_of (s_val (v := .bool false) (wt0 rfl) rfl rfl (x_assign rfl rfl) ?_)
        refine g_nil ?_
        refine g_then ?_
        refine g_weak [(2, .bool false)] ⟨rfl, trivial⟩ ?_
        refine g_ret ?_
        refine fin_ret [.tmp 2] [.bool false] rfl ⟨rfl, trivial⟩ ?_
        exact ⟨by unfold validR; try unfold numB at *; simp [hb6, hb9, hb12, tupled, Bool.and_assoc], H11.mask [false, true]⟩
    · skip
      refine l_of (s_not (wn1 rfl rfl rfl rfl hb9) rfl rfl ?_)
      refine l_of (s_not (wn1 rfl rfl rfl rfl hb9) rfl rfl ?_)
      refine l_of (s_not (wn1 rfl rfl rfl rfl hb9) rfl rfl ?_)
      refine l_of (s_not (wn1 rfl rfl rfl rfl hb9) rfl rfl ?_)
      refine l_of (s_val (v := .bool false) (wt0 rfl) rfl rfl (x_pick_f rfl rfl hb9 rfl) ?_)
      refine l_of (s_val (v := .bool false) (wt0 rfl) rfl rfl (x_move rfl rfl) ?_)
      refine l_of (s_not (wn1 rfl rfl rfl rfl rfl) rfl rfl ?_)
      refine l_of (s_not (wn1 rfl rfl rfl rfl rfl) rfl rfl ?_)
      refine l_of (s_not (wn1 rfl rfl rfl rfl rfl) rfl rfl ?_)
      refine l_of (s_not (wn1 rfl rfl rfl rfl rfl) rfl rfl ?_)
      refine l_of (s_val (v := .bool false) (wt0 rfl) rfl rfl (x_pick_f rfl rfl rfl rfl) ?_)
      refine l_of (s_val (v := .bool false) (wt0 rfl) rfl rfl (x_move rfl rfl) ?_)
      refine l_of (s_not (wn1 rfl rfl rfl rfl rfl) rfl rfl ?_)
      refine l_of (s_not (wn1 rfl rfl rfl rfl rfl) rfl rfl ?_)
      refine l_of (s_not (wn1 rfl rfl rfl rfl rfl) rfl rfl ?_)
      refine l_of (s_not (wn1 rfl rfl rfl rfl rfl) rfl rfl ?_)
      refine l_of (s_val (v := .bool false) (wt0 rfl) rfl rfl (x_pick_f rfl rfl rfl rfl) ?_)
      refine l_of (s_val (v := .bool false) (wt0 rfl) rfl rfl (x_assign rfl rfl) ?_)
      refine g_nil ?_
      refine g_then ?_
      refine g_weak [(2, .bool false)] ⟨rfl, trivial⟩ ?_
      refine g_ret ?_
      refine fin_ret [.tmp 2] [.bool false] rfl ⟨rfl, trivial⟩ ?_
      exact ⟨by unfold validR; try unfold numB at *; simp [hb6, hb9, tupled, Bool.and_assoc], H8.mask [false, true]⟩
  · skip
    refine l_of (s_not (wn1 rfl rfl rfl rfl hb6) rfl rfl ?_)
    refine l_of (s_not (wn1 rfl rfl rfl rfl hb6) rfl rfl ?_)
    refine l_of (s_not (wn1 rfl rfl rfl rfl hb6) rfl rfl ?_)
    refine l_of (s_not (wn1 rfl rfl rfl rfl hb6) rfl rfl ?_)
    refine l_of (s_val (v := .bool false) (wt0 rfl) rfl rfl (x_pick_f rfl rfl hb6 rfl) ?_)
    refine l_of (s_val (v := .bool false) (wt0 rfl) rfl rfl (x_move rfl rfl) ?_)
    refine l_of (s_not (wn1 rfl rfl rfl rfl rfl) rfl rfl ?_)
    refine l_of (s_not (wn1 rfl rfl rfl rfl rfl) rfl rfl ?_)
    refine l_of (s_not (wn1 rfl rfl rfl rfl rfl) rfl rfl ?_)
    refine l_of (s_not (wn1 rfl rfl rfl rfl rfl) rfl rfl ?_)
    refine l_of (s_val (v := .bool false) (wt0 rfl) rfl rfl (x_pick_f rfl rfl rfl rfl) ?_)
    refine l_of (s_val (v := .bool false) (wt0 rfl) rfl rfl (x_move rfl rfl) ?_)
    refine l_of (s_not (wn1 rfl rfl rfl rfl rfl) rfl rfl ?_)
    refine l_of (s_not (wn1 rfl rfl rfl rfl rfl) rfl rfl ?_)
    refine l_of (s_not (wn1 rfl rfl rfl rfl rfl) rfl rfl ?_)
    refine l_of (s_not (wn1 rfl rfl rfl rfl rfl) rfl rfl ?_)
    refine l_of (s_val (v := .bool false) (wt0 rfl) rfl rfl (x_pick_f rfl rfl rfl rfl) ?_)
    refine l_of (s_val (v := .bool false) (wt0 rfl) rfl rfl (x_move rfl rfl) ?_)
    refine l_of (s_not (wn1 rfl rfl rfl rfl rfl) rfl rfl ?_)
    refine l_of (s_not (wn1 rfl rfl rfl rfl rfl) rfl rfl ?_)
    refine l_of (s_not (wn1 rfl rfl rfl rfl rfl) rfl rfl ?_)
    refine l_of (s_not (wn1 rfl rfl rfl rfl rfl) rfl rfl ?_)
    refine l_of (s_val (v := .bool false) (wt0 rfl) rfl rfl (x_pick_f rfl rfl rfl rfl) ?_)
    refine l_of (s_val (v := .bool false) (wt0 rfl) rfl rfl (x_assign rfl rfl) ?_)
    refine g_nil ?_
    refine g_then ?_
    refine g_weak [(2, .bool false)] ⟨rfl, trivial⟩ ?_
    refine g_ret ?_
    refine fin_ret [.tmp 2] [.bool false] rfl ⟨rfl, trivial⟩ ?_
    exact ⟨by unfold validR; try unfold numB at *; simp [hb6, tupled, Bool.and_assoc], H5.mask [false, true]⟩
end Go.Proofs.YthfglkkjkpdkpaaGreatDoor
