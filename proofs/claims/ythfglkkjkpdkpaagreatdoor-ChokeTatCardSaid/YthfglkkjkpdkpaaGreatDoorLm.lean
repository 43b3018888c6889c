import Derived.Test.YthfglkkjkpdkpaaGreatDoorLl
set_option linter.unusedSimpArgs false
set_option linter.unusedVariables false
namespace Go.Proofs.YthfglkkjkpdkpaaGreatDoor
open Go.RowKit

theorem cl6 : callable Tryz.prog 6 = true := by kernel_rfl
theorem cl7 : callable Tryz.prog 7 = true := by kernel_rfl
theorem cl8 : callable Tryz.prog 8 = true := by kernel_rfl
theorem cl9 : callable Tryz.prog 9 = true := by kernel_rfl
theorem srt_le {c : Rv → Rv → Int} (h : Wk c) {l : List Rv} (hl : l.length < 40) : (srt Rv.zero c l).Pairwise fun a b => c a b ≤ 0 := by
  unfold srt
  rw [List.pairwise_map]
  exact (srtZ_sorted h hl).imp fun {a b} hab => by
    rcases hab with hab | ⟨hab, _⟩ <;> omega
theorem reg_sub {l : List Rv} {slots : Int} {x : Rv} (h : x ∈ reg1 l slots) : x ∈ l ∧ qR x = true := by
  unfold reg1 sorted1 at h
  have h1 := List.mem_of_mem_take h
  rw [srt_mem] at h1
  exact List.mem_filter.1 h1
theorem fill_sub (slots : Int) (lt l : List Rv) : ∀ x ∈ lt, x ∈ fillL slots lt l := by
  induction l generalizing lt with
  | nil => exact fun x hx => hx
  | cons a l ih =>
    intro x hx
    refine ih (fillT slots lt a) x ?_
    unfold fillT
    split
    · exact List.mem_append_left _ hx
    · exact hx
theorem got_reg {round slots : Int} {seed : ByteArray} {l : List Rv} (h : rndE round slots seed l = 0) {x : Rv} (hx : x ∈ reg1 l slots) : x.id ∈ got1 round slots seed l := by
  unfold got1 ids1
  rw [h, if_pos rfl, sortI_mem]
  exact List.mem_map.2 ⟨x, fill_sub slots _ _ x hx, rfl⟩
theorem tat_law {round slots : Int} {seed : ByteArray} {l : List Rv} (hl : l.length ≤ 30) (h : rndE round slots seed l = 0) {y r : Rv} (hy : y ∈ reg1 l slots) (hr : r ∈ l) (hq : qR r = true) (hg : r.id ∉ got1 round slots seed l) : r.frm ≤ y.frm := by
  have hf : (l.filter qR).length < 40 := by have := List.length_filter_le qR l; omega
  have hs := srt_le c1_wk (l := l.filter qR) hf
  have hrs : r ∈ sorted1 l := srt_mem.2 (List.mem_filter.2 ⟨hr, hq⟩)
  have hrn : r ∉ reg1 l slots := fun hm => hg (got_reg h hm)
  unfold reg1 at hy hrn
  have e := List.take_append_drop (min (sorted1 l).length (slots - 1).toNat) (sorted1 l)
  rw [← e] at hrs
  have hs2 : (sorted1 l).Pairwise fun a b => c1 a b ≤ 0 := hs
  rw [← e, List.pairwise_append] at hs2
  rcases List.mem_append.1 hrs with h1 | h1
  · exact absurd h1 hrn
  · have h2 := hs2.2.2 y hy r h1
    unfold c1 at h2
    by_cases h3 : r.frm - y.frm ≠ 0
    · rw [if_pos h3] at h2; omega
    · omega
theorem frm_nxt {l : List Rv} (hn : (l.map Rv.id).Nodup) {M : Int → Option Int} {i : Nat} {x : Rv} (hM : ∀ y ∈ l.take i, (M y.id).getD 0 = y.frm) (hx : l[i]? = some x) : ∀ y ∈ l.take (i + 1), (upM M x.id x.frm y.id).getD 0 = y.frm := fun y hy => by
  rw [take_snocL hx] at hy
  have h1 := (nodup_nxt hx).1 (by rw [List.map_take]; exact hn.sublist (List.take_sublist ..))
  unfold upM
  rcases List.mem_append.1 hy with hy | hy
  · rw [if_neg (fun e => h1.2 (by rw [← e]; exact List.mem_map.2 ⟨y, hy, rfl⟩))]
    exact hM y hy
  · rw [List.mem_singleton] at hy; subst hy
    rw [if_pos rfl]; rfl
set_option maxRecDepth 20000 in
set_option maxHeartbeats 4000000 in
set_option maxRecDepth 20000 in
set_option maxHeartbeats 4000000 in
theorem tat_walk (round slots : Int) (hro : okI round) (seed : ByteArray) (l : List Rv) (p : Option Addr) (n c : Nat) (hn2 : n ≤ 9223372036854775807)  (w : World) (hr : Reads w p n c 10 (fl rvL l)) (ht : PowTab w) : Calls Tryz.prog 3 #[.int .i64 round, .int .i64 slots, .string seed, .slice p n c] w fun e w' => e = .returned (.bool true) ∧ S w' [Old w no] := by
  have H0 := S.old w
  have hnl := hr.lenL rvE
  have hgl : l.length ≤ 30 → (got1 round slots seed l).length ≤ 60 := fun h => by
    unfold got1 ids1; split
    · rw [sortI_len, List.length_map]; have := way1_len round slots seed l; omega
    · exact Nat.zero_le _
  have hrm : ((reg1 l slots).map Rv.id).length = (reg1 l slots).length := List.length_map _
  have hrl : (reg1 l slots).length ≤ l.length := by unfold reg1; rw [List.length_take]; have := sorted1_len l; omega
  refine enter 94 Tryz.func3 rfl rfl rfl ?_
  refine g_weak [(0, .int .i64 round), (1, .int .i64 slots), (2, .string seed), (3, .slice p n c)] ⟨rfl, rfl, rfl, rfl, trivial⟩ ?_
  refine g_seq ?_
  refine g_region ?_
  refine l_of (s_val (v := .bool false) (wt0 rfl) rfl rfl (x_assign rfl rfl) ?_)
  refine g_nil ?_
  refine g_then ?_
  refine g_seq ?_
  refine g_seq ?_
  refine g_region ?_
  refine l_of (s_val (v := .slice p n c) (wt0 rfl) rfl rfl (x_move rfl rfl) ?_)
  refine l_of (s_val (v := .int .i64 ((n : Int))) (wt0 rfl) rfl rfl (x_lenl rfl rfl Tryz.underlying22) ?_)
  refine l_of (s_val (v := .bool (decide ((30 : Int) < (n : Int)))) (wt0 rfl) rfl rfl (x_bin rfl rfl rfl b_gtr) ?_)
  refine g_nil ?_
  refine g_then ?_
  by_cases hb1 : (30 : Int) < (n : Int)
  · skip
    refine g_cond_t rfl (decide_eq_true hb1) ?_
    refine g_seq ?_
    refine g_region ?_
    refine l_of (s_call (wt0 rfl) (x_call' rfl rfl cl6) (awake_s _) ?_)
    rintro _ wq2 ⟨rfl, H3⟩
    replace H3 : S wq2 [Old w no] := H0.absorb (new := []) H3
    refine b_ret rfl rfl ?_
    refine l_of (s_val (v := .bool true) (wt0 rfl) rfl rfl (x_assign rfl rfl) ?_)
    refine g_nil ?_
    refine g_then ?_
    refine g_ret ?_
    refine g_then_ret ?_
    refine fin_ret [.tmp 8] [.bool true] rfl ⟨rfl, trivial⟩ ?_
    exact ⟨rfl, H3.mask [true]⟩
  · skip
    refine g_cond_f rfl (decide_eq_false hb1) ?_
    refine g_skip ?_
    refine g_then ?_
    refine g_seq ?_
    refine g_region ?_
    refine l_of (s_val (v := .int .i64 round) (wt0 rfl) rfl rfl (x_move rfl rfl) ?_)
    refine l_of (s_val (v := .int .i64 slots) (wt0 rfl) rfl rfl (x_move rfl rfl) ?_)
    refine l_of (s_val (v := .string seed) (wt0 rfl) rfl rfl (x_move rfl rfl) ?_)
    refine l_of (s_val (v := .slice p n c) (wt0 rfl) rfl rfl (x_move rfl rfl) ?_)
    refine l_of (s_call (wt0 rfl) (x_call' rfl rfl cl7) (round1_s round slots seed l p n c (by omega) hro _ (H0.exReads (k := 0) rfl hr (fun _ _ _ h => h)) (H0.tab (k := 0) rfl ht)) ?_)
    rintro _ wq6 ⟨pd4, cd5, rfl, H7⟩
    replace H7 : S wq6 [Rw 3 1 pd4 ((got1 round slots seed l).length) cd5 (fl intL (got1 round slots seed l)), Old w no] := H0.absorb (new := [Rw 3 1 pd4 ((got1 round slots seed l).length) cd5 (fl intL (got1 round slots seed l))]) H7
    refine b_ret rfl rfl ?_
    refine l_of (s_val (v := .tuple #[.slice pd4 ((got1 round slots seed l).length) cd5, .int .i64 ((rndE round slots seed l))]) (wt0 rfl) rfl rfl (x_move rfl rfl) ?_)
    refine l_of (s_val (v := .slice pd4 ((got1 round slots seed l).length) cd5) (wt0 rfl) rfl rfl (x_extract rfl rfl rfl) ?_)
    refine l_of (s_val (v := .int .i64 ((rndE round slots seed l))) (wt0 rfl) rfl rfl (x_extract rfl rfl rfl) ?_)
    refine l_of (s_val (v := .slice pd4 ((got1 round slots seed l).length) cd5) (wt0 rfl) rfl rfl (x_assign rfl rfl) ?_)
    refine l_of (s_val (v := .int .i64 ((rndE round slots seed l))) (wt0 rfl) rfl rfl (x_assign rfl rfl) ?_)
    refine g_nil ?_
    refine g_then ?_
    refine g_weak [(1, .int .i64 slots), (3, .slice p n c), (9, .slice pd4 ((got1 round slots seed l).length) cd5), (10, .int .i64 ((rndE round slots seed l)))] ⟨rfl, rfl, rfl, rfl, trivial⟩ ?_
    refine g_seq ?_
    refine g_seq ?_
    refine g_region ?_
    refine l_of (s_val (v := .int .i64 ((rndE round slots seed l))) (wt0 rfl) rfl rfl (x_move rfl rfl) ?_)
    refine l_of (s_val (v := .bool (!decide (((rndE round slots seed l) : Int) = 0))) (wt0 rfl) rfl rfl (x_bin rfl rfl rfl b_neq) ?_)
    refine g_nil ?_
    refine g_then ?_
    by_cases hb8 : ((rndE round slots seed l) : Int) = 0
    · skip
      refine g_cond_f rfl (nf hb8) ?_
      refine g_skip ?_
      refine g_then ?_
      refine g_seq ?_
      refine g_region ?_
      have hrk := rnd_ok (round := round) (slots := slots) (seed := seed) (l := l) (by omega)
      have hval := (askE_ok hrk.1).2.1
      have hnd := (askE_ok hrk.1).2.2
      refine l_of (s_makeMap (α := Int) (Value.int .i64) (Value.int .i64) okI H7 (wt0 rfl) rfl rfl rfl ?_)
      intro mg9 wq10 H11
      replace H11 : S wq10 [Mp (Value.int .i64) (Value.int .i64) okI mg9 (fun _ => none), Rw 3 1 pd4 ((got1 round slots seed l).length) cd5 (fl intL (got1 round slots seed l)), Old w no] := H11
      refine l_of (s_val (v := .map (some mg9)) (wt0 rfl) rfl rfl (x_assign rfl rfl) ?_)
      refine g_nil ?_
      refine g_then ?_
      refine g_seq ?_
      refine g_seq ?_
      refine g_region ?_
      refine l_of (s_val (v := .slice p n c) (wt0 rfl) rfl rfl (x_move rfl rfl) ?_)
      refine l_of (s_val (v := .int .i64 ((n : Int))) (wt0 rfl) rfl rfl (x_lenl rfl rfl Tryz.underlying22) ?_)
      refine l_of (s_val (v := .int .i64 0) (wt0 rfl) rfl rfl (x_move rfl rfl) ?_)
      refine g_nil ?_
      refine g_then ?_
      refine g_block ?_
      refine g_loop (ι := Nat × (Int → Option Int)) (fun (i, M) => [(1, .int .i64 slots), (3, .slice p n c), (9, .slice pd4 ((got1 round slots seed l).length) cd5), (11, .map (some mg9)), (34, .slice p n c), (35, .int .i64 ((n : Int))), (36, .int .i64 ((i : Int)))]) (fun (i, M) wx => (i ≤ n) ∧ (∀ y ∈ l.take i, (M y.id).getD 0 = y.frm) ∧ S wx [Mp (Value.int .i64) (Value.int .i64) okI mg9 M, Rw 3 1 pd4 ((got1 round slots seed l).length) cd5 (fl intL (got1 round slots seed l)), Old w no]) (fun (i, M) => n - i) (0, (fun _ => none)) ⟨rfl, rfl, rfl, rfl, rfl, rfl, rfl, trivial⟩ ⟨Nat.zero_le _, (fun y hy => by simp at hy), (H11.takes [0, 1, 2] (by decide))⟩ ?_
      rintro ⟨i, M⟩ wq12 ⟨hi, hM, H13⟩
      replace H13 : S wq12 [Mp (Value.int .i64) (Value.int .i64) okI mg9 M, Rw 3 1 pd4 ((got1 round slots seed l).length) cd5 (fl intL (got1 round slots seed l)), Old w no] := H13
      refine g_weak [(1, .int .i64 slots), (3, .slice p n c), (9, .slice pd4 ((got1 round slots seed l).length) cd5), (11, .map (some mg9)), (34, .slice p n c), (35, .int .i64 ((n : Int))), (36, .int .i64 ((i : Int)))] ⟨rfl, rfl, rfl, rfl, rfl, rfl, rfl, trivial⟩ ?_
      refine g_seq ?_
      refine g_region ?_
      refine l_of (s_val (v := .bool (decide (((i : Int) : Int) < (n : Int)))) (wt0 rfl) rfl rfl (x_bin rfl rfl rfl b_lss) ?_)
      refine g_nil ?_
      refine g_then ?_
      refine g_seq ?_
      by_cases hb14 : ((i : Int) : Int) < (n : Int)
      · skip
        refine g_cond_t rfl (decide_eq_true hb14) ?_
        refine g_skip ?_
        refine g_then ?_
        refine g_seq ?_
        refine g_block ?_
        refine g_seq ?_
        refine g_region ?_
        refine l_of (s_val (v := .pointer ((p).map fun q => q.add (i * 10))) (wt0 rfl) rfl rfl (x_idxR i (H13.exReads (k := 2) rfl hr (fun _ _ _ h => h)) rfl rfl rfl Tryz.underlying22 sz30 (by omega)) ?_)
        have hlq := (H13.exReads (k := 2) rfl hr (fun _ _ _ h => h)).lenL rvE
        obtain ⟨x15, hx15⟩ := ex_at (l := l) (j := i) (by omega)
        clear hlq
        refine l_of (s_val (v := .agg #[.int .i64 (x15.id), .bool x15.intr, .bool x15.chk, .int .i64 (x15.frm), .int .i64 (x15.to), .int .i64 (x15.lt), .int .i64 (x15.since), .bool x15.snb, .bool x15.now, .bool x15.seed]) (wt0 rfl) rfl rfl (x_loadRA (vs := rvL x15) i (H13.exReads (k := 2) rfl hr (fun _ _ _ h => h)) (by omega) rfl rfl Tryz.underlying30 rfl sz30 (by rfl) (rvE.flAt hx15)) ?_)
        refine l_of (s_alloc H13 (wt0 rfl) rfl rfl rfl ze30 ?_)
        intro g16 wq17 H18
        refine l_of (s_store H18 0 (wt0 rfl) rfl rfl rfl rfl rfl sz30 rfl rfl (cs' := #[.int .i64 (x15.id), .bool x15.intr, .bool x15.chk, .int .i64 (x15.frm), .int .i64 (x15.to), .int .i64 (x15.lt), .int .i64 (x15.since), .bool x15.snb, .bool x15.now, .bool x15.seed]) rfl ?_)
        intro wq19 H20
        refine g_nil ?_
        refine g_then ?_
        refine g_region ?_
        refine l_of (s_val (v := .map (some mg9)) (wt0 rfl) rfl rfl (x_move rfl rfl) ?_)
        refine l_of (s_val (v := .pointer (some ⟨g16, 0, none⟩)) (wt0 rfl) rfl rfl (x_fieldAddr rfl rfl fo30_0 rfl) ?_)
        refine l_of (s_val (v := .int .i64 (x15.id)) (wt0 rfl) rfl rfl (x_load1 H20 0 rfl rfl Tryz.underlying3 rfl rfl rfl) ?_)
        refine l_of (s_val (v := .pointer (some ⟨g16, 3, none⟩)) (wt0 rfl) rfl rfl (x_fieldAddr rfl rfl fo30_3 rfl) ?_)
        refine l_of (s_val (v := .int .i64 (x15.frm)) (wt0 rfl) rfl rfl (x_load1 H20 0 rfl rfl Tryz.underlying3 rfl rfl rfl) ?_)
        refine l_of (s_mapUpdate (x := x15.id) (a := x15.frm) (intTy Tryz.underlying28 Tryz.underlying3) H20 1 (wt0 rfl) rfl rfl rfl rfl rfl rfl ((validR_id (hval _ (List.mem_of_getElem? hx15)))) ?_)
        intro wq21 H22
        replace H22 : S wq21 [Ob g16 (.cells #[.int .i64 (x15.id), .bool x15.intr, .bool x15.chk, .int .i64 (x15.frm), .int .i64 (x15.to), .int .i64 (x15.lt), .int .i64 (x15.since), .bool x15.snb, .bool x15.now, .bool x15.seed] 30 (0, 0)), Mp (Value.int .i64) (Value.int .i64) okI mg9 (upM M x15.id x15.frm), Rw 3 1 pd4 ((got1 round slots seed l).length) cd5 (fl intL (got1 round slots seed l)), Old w no] := H22
        refine g_nil ?_
        refine g_in ?_
        refine g_then ?_
        refine g_region ?_
        refine l_of (s_val (v := .int .i64 (((i + 1 : Nat) : Int))) (wt0 rfl) rfl rfl (x_bin rfl rfl rfl (b_add (by rw [w64 (by omega)]; omega))) ?_)
        refine l_of (s_val (v := .int .i64 (((i + 1 : Nat) : Int))) (wt0 rfl) rfl rfl (x_move rfl rfl) ?_)
        refine g_nil ?_
        refine g_then ?_
        refine g_round (i := (i, M)) ((i + 1), (upM M x15.id x15.frm)) ?_ ?_ ?_
        · exact ⟨rfl, rfl, rfl, rfl, rfl, rfl, rfl, trivial⟩
        · exact ⟨by omega, (frm_nxt hnd hM hx15), (H22.takes [1, 2, 3] (by decide))⟩
        · (try dsimp only); omega
      · skip
        refine g_cond_f rfl (decide_eq_false hb14) ?_
        refine g_exit ?_
        rw [List.take_of_length_le (by omega)] at hM
        refine g_then_exit ?_
        refine g_then_exit ?_
        refine g_in_hit ?_
        refine g_then ?_
        refine g_seq ?_
        refine g_seq ?_
        refine g_region ?_
        refine l_of (s_val (v := .int .i64 slots) (wt0 rfl) rfl rfl (x_move rfl rfl) ?_)
        refine l_of (s_val (v := .slice p n c) (wt0 rfl) rfl rfl (x_move rfl rfl) ?_)
        refine l_of (s_call (wt0 rfl) (x_call' rfl rfl cl8) (regular_r slots (by omega) l p n c (by omega) hval _ (H13.exReads (k := 2) rfl hr (fun _ _ _ h => h))) ?_)
        rintro _ wq23 ⟨pr, cr, rfl, H24⟩
        replace H24 : S wq23 [Rw 3 1 pr (((reg1 l slots).map Rv.id).length) cr (fl intL ((reg1 l slots).map Rv.id)), Mp (Value.int .i64) (Value.int .i64) okI mg9 M, Rw 3 1 pd4 ((got1 round slots seed l).length) cd5 (fl intL (got1 round slots seed l)), Old w no] := H13.absorb (new := [Rw 3 1 pr (((reg1 l slots).map Rv.id).length) cr (fl intL ((reg1 l slots).map Rv.id))]) H24
        refine b_ret rfl rfl ?_
        refine l_of (s_val (v := .int .i64 ((((reg1 l slots).map Rv.id).length : Int))) (wt0 rfl) rfl rfl (x_lenl rfl rfl Tryz.underlying24) ?_)
        refine l_of (s_val (v := .int .i64 0) (wt0 rfl) rfl rfl (x_move rfl rfl) ?_)
        refine g_nil ?_
        refine g_then ?_
        refine g_block ?_
        refine g_loop (ι := Nat) (fun a => [(3, .slice p n c), (9, .slice pd4 ((got1 round slots seed l).length) cd5), (11, .map (some mg9)), (48, .slice pr (((reg1 l slots).map Rv.id).length) cr), (49, .int .i64 ((((reg1 l slots).map Rv.id).length : Int))), (50, .int .i64 ((a : Int)))]) (fun a wx => (a ≤ ((reg1 l slots).map Rv.id).length) ∧ S wx [Mp (Value.int .i64) (Value.int .i64) okI mg9 M, Rw 3 1 pd4 ((got1 round slots seed l).length) cd5 (fl intL (got1 round slots seed l)), Rw 3 1 pr (((reg1 l slots).map Rv.id).length) cr (fl intL ((reg1 l slots).map Rv.id)), Old w no]) (fun a => (((reg1 l slots).map Rv.id).length) - a) (0) ⟨rfl, rfl, rfl, rfl, rfl, rfl, trivial⟩ ⟨Nat.zero_le _, (H24.takes [1, 2, 0, 3] (by decide))⟩ ?_
        rintro a wq25 ⟨ha, H26⟩
        replace H26 : S wq25 [Mp (Value.int .i64) (Value.int .i64) okI mg9 M, Rw 3 1 pd4 ((got1 round slots seed l).length) cd5 (fl intL (got1 round slots seed l)), Rw 3 1 pr (((reg1 l slots).map Rv.id).length) cr (fl intL ((reg1 l slots).map Rv.id)), Old w no] := H26
        refine g_weak [(3, .slice p n c), (9, .slice pd4 ((got1 round slots seed l).length) cd5), (11, .map (some mg9)), (48, .slice pr (((reg1 l slots).map Rv.id).length) cr), (49, .int .i64 ((((reg1 l slots).map Rv.id).length : Int))), (50, .int .i64 ((a : Int)))] ⟨rfl, rfl, rfl, rfl, rfl, rfl, trivial⟩ ?_
        refine g_seq ?_
        refine g_region ?_
        refine l_of (s_val (v := .bool (decide (((a : Int) : Int) < (((reg1 l slots).map Rv.id).length : Int)))) (wt0 rfl) rfl rfl (x_bin rfl rfl rfl b_lss) ?_)
        refine g_nil ?_
        refine g_then ?_
        refine g_seq ?_
        by_cases hb27 : ((a : Int) : Int) < (((reg1 l slots).map Rv.id).length : Int)
        · skip
          refine g_cond_t rfl (decide_eq_true hb27) ?_
          refine g_skip ?_
          refine g_then ?_
          refine g_seq ?_
          refine g_block ?_
          refine g_seq ?_
          refine g_region ?_
          refine l_of (s_val (v := .pointer ((pr).map fun q => q.add (a * 1))) (wt0 rfl) rfl rfl (x_idxR a (H26.rwReads (k := 2) rfl) rfl rfl rfl Tryz.underlying24 sz3 (by omega)) ?_)
          have hlq := (H26.rwReads (k := 2) rfl).lenL intE
          obtain ⟨x28, hx28⟩ := ex_at (l := ((reg1 l slots).map Rv.id)) (j := a) (by omega)
          clear hlq
          refine l_of (s_val (v := .int .i64 x28) (wt0 rfl) rfl rfl (x_loadR1 a (H26.rwReads (k := 2) rfl) (by omega) rfl rfl Tryz.underlying3 rfl (intE.flAt1 hx28 rfl)) ?_)
          refine l_of (s_val (v := .int .i64 x28) (wt0 rfl) rfl rfl (x_assign rfl rfl) ?_)
          refine g_nil ?_
          refine g_then ?_
          refine g_seq ?_
          refine g_seq ?_
          refine g_region ?_
          refine l_of (s_val (v := .slice pd4 ((got1 round slots seed l).length) cd5) (wt0 rfl) rfl rfl (x_move rfl rfl) ?_)
          refine l_of (s_val (v := .int .i64 x28) (wt0 rfl) rfl rfl (x_move rfl rfl) ?_)
          refine l_of (s_call (wt0 rfl) (x_call' rfl rfl cl9) (in_l (got1 round slots seed l) pd4 ((got1 round slots seed l).length) cd5 x28 (by have := hgl (by omega); omega) _ (H26.rwReads (k := 1) rfl)) ?_)
          rintro _ wq29 ⟨rfl, H30⟩
          replace H30 : S wq29 [Mp (Value.int .i64) (Value.int .i64) okI mg9 M, Rw 3 1 pd4 ((got1 round slots seed l).length) cd5 (fl intL (got1 round slots seed l)), Rw 3 1 pr (((reg1 l slots).map Rv.id).length) cr (fl intL ((reg1 l slots).map Rv.id)), Old w no] := H26.absorb (new := []) H30
          refine b_ret rfl rfl ?_
          refine l_of (s_val (v := .bool (!((decide (x28 ∈ (got1 round slots seed l)))))) (wt0 rfl) rfl rfl (x_not (b := (decide (x28 ∈ (got1 round slots seed l)))) rfl rfl) ?_)
          refine g_nil ?_
          refine g_then ?_
          rcases Bool.eq_false_or_eq_true ((decide (x28 ∈ (got1 round slots seed l)))) with hb31 | hb31
          · skip
            refine g_cond_f rfl (neg_of hb31) ?_
            refine g_skip ?_
            refine g_then ?_
            refine g_seq ?_
            refine g_region ?_
            refine l_of (s_val (v := .slice p n c) (wt0 rfl) rfl rfl (x_move rfl rfl) ?_)
            refine l_of (s_val (v := .int .i64 ((n : Int))) (wt0 rfl) rfl rfl (x_lenl rfl rfl Tryz.underlying22) ?_)
            refine l_of (s_val (v := .int .i64 0) (wt0 rfl) rfl rfl (x_move rfl rfl) ?_)
            refine g_nil ?_
            refine g_then ?_
            refine g_block ?_
            refine g_loop (ι := Nat) (fun b => [(3, .slice p n c), (9, .slice pd4 ((got1 round slots seed l).length) cd5), (11, .map (some mg9)), (15, .int .i64 x28), (48, .slice pr (((reg1 l slots).map Rv.id).length) cr), (49, .int .i64 ((((reg1 l slots).map Rv.id).length : Int))), (50, .int .i64 ((a : Int))), (58, .slice p n c), (59, .int .i64 ((n : Int))), (60, .int .i64 ((b : Int)))]) (fun b wx => (b ≤ n) ∧ S wx [Mp (Value.int .i64) (Value.int .i64) okI mg9 M, Rw 3 1 pd4 ((got1 round slots seed l).length) cd5 (fl intL (got1 round slots seed l)), Rw 3 1 pr (((reg1 l slots).map Rv.id).length) cr (fl intL ((reg1 l slots).map Rv.id)), Old w no]) (fun b => n - b) (0) ⟨rfl, rfl, rfl, rfl, rfl, rfl, rfl, rfl, rfl, rfl, trivial⟩ ⟨Nat.zero_le _, (H30.takes [0, 1, 2, 3] (by decide))⟩ ?_
            rintro b wq32 ⟨hb, H33⟩
            replace H33 : S wq32 [Mp (Value.int .i64) (Value.int .i64) okI mg9 M, Rw 3 1 pd4 ((got1 round slots seed l).length) cd5 (fl intL (got1 round slots seed l)), Rw 3 1 pr (((reg1 l slots).map Rv.id).length) cr (fl intL ((reg1 l slots).map Rv.id)), Old w no] := H33
            refine g_weak [(3, .slice p n c), (9, .slice pd4 ((got1 round slots seed l).length) cd5), (11, .map (some mg9)), (15, .int .i64 x28), (48, .slice pr (((reg1 l slots).map Rv.id).length) cr), (49, .int .i64 ((((reg1 l slots).map Rv.id).length : Int))), (50, .int .i64 ((a : Int))), (58, .slice p n c), (59, .int .i64 ((n : Int))), (60, .int .i64 ((b : Int)))] ⟨rfl, rfl, rfl, rfl, rfl, rfl, rfl, rfl, rfl, rfl, trivial⟩ ?_
            refine g_seq ?_
            refine g_region ?_
            refine l_of (s_val (v := .bool (decide (((b : Int) : Int) < (n : Int)))) (wt0 rfl) rfl rfl (x_bin rfl rfl rfl b_lss) ?_)
            refine g_nil ?_
            refine g_then ?_
            refine g_seq ?_
            by_cases hb34 : ((b : Int) : Int) < (n : Int)
            · skip
              refine g_cond_t rfl (decide_eq_true hb34) ?_
              refine g_skip ?_
              refine g_then ?_
              refine g_seq ?_
              refine g_block ?_
              refine g_seq ?_
              refine g_region ?_
              refine l_of (s_val (v := .pointer ((p).map fun q => q.add (b * 10))) (wt0 rfl) rfl rfl (x_idxR b (H33.exReads (k := 3) rfl hr (fun _ _ _ h => h)) rfl rfl rfl Tryz.underlying22 sz30 (by omega)) ?_)
              have hlq := (H33.exReads (k := 3) rfl hr (fun _ _ _ h => h)).lenL rvE
              obtain ⟨x35, hx35⟩ := ex_at (l := l) (j := b) (by omega)
              clear hlq
              refine l_of (s_val (v := .agg #[.int .i64 (x35.id), .bool x35.intr, .bool x35.chk, .int .i64 (x35.frm), .int .i64 (x35.to), .int .i64 (x35.lt), .int .i64 (x35.since), .bool x35.snb, .bool x35.now, .bool x35.seed]) (wt0 rfl) rfl rfl (x_loadRA (vs := rvL x35) b (H33.exReads (k := 3) rfl hr (fun _ _ _ h => h)) (by omega) rfl rfl Tryz.underlying30 rfl sz30 (by rfl) (rvE.flAt hx35)) ?_)
              refine l_of (s_alloc H33 (wt0 rfl) rfl rfl rfl ze30 ?_)
              intro g36 wq37 H38
              refine l_of (s_store H38 0 (wt0 rfl) rfl rfl rfl rfl rfl sz30 rfl rfl (cs' := #[.int .i64 (x35.id), .bool x35.intr, .bool x35.chk, .int .i64 (x35.frm), .int .i64 (x35.to), .int .i64 (x35.lt), .int .i64 (x35.since), .bool x35.snb, .bool x35.now, .bool x35.seed]) rfl ?_)
              intro wq39 H40
              refine g_nil ?_
              refine g_then ?_
              refine g_seq ?_
              refine g_region ?_
              refine l_of (s_val (v := .pointer (some ⟨g36, 1, none⟩)) (wt0 rfl) rfl rfl (x_fieldAddr rfl rfl fo30_1 rfl) ?_)
              refine l_of (s_val (v := .bool x35.intr) (wt0 rfl) rfl rfl (x_load1 H40 0 rfl rfl Tryz.underlying4 rfl rfl rfl) ?_)
              refine l_of (s_val (v := .bool x35.intr) (wt0 rfl) rfl rfl (x_move rfl rfl) ?_)
              rcases Bool.eq_false_or_eq_true (x35.intr) with hb41 | hb41
              · skip
                refine l_of (s_val (v := .pointer (some ⟨g36, 9, none⟩)) (wt1 rfl rfl rfl rfl hb41) rfl rfl (x_fieldAddr rfl rfl fo30_9 rfl) ?_)
                refine l_of (s_val (v := .bool x35.seed) (wt1 rfl rfl rfl rfl hb41) rfl rfl (x_load1 H40 0 rfl rfl Tryz.underlying4 rfl rfl rfl) ?_)
                refine l_of (s_val (v := .bool (!(x35.seed))) (wt1 rfl rfl rfl rfl hb41) rfl rfl (x_not (b := x35.seed) rfl rfl) ?_)
                refine l_of (s_val (v := .bool (!(x35.seed))) (wt0 rfl) rfl rfl (x_pick_t rfl rfl hb41 rfl) ?_)
                refine l_of (s_val (v := .bool (!(x35.seed))) (wt0 rfl) rfl rfl (x_move rfl rfl) ?_)
                rcases Bool.eq_false_or_eq_true (x35.seed) with hb42 | hb42
                · skip
                  refine l_of (s_not (wn1 rfl rfl rfl rfl (neg_of hb42)) rfl rfl ?_)
                  refine l_of (s_not (wn1 rfl rfl rfl rfl (neg_of hb42)) rfl rfl ?_)
                  refine l_of (s_not (wn1 rfl rfl rfl rfl (neg_of hb42)) rfl rfl ?_)
                  refine l_of (s_val (v := .bool false) (wt0 rfl) rfl rfl (x_pick_f rfl rfl (neg_of hb42) rfl) ?_)
                  refine l_of (s_val (v := .bool false) (wt0 rfl) rfl rfl (x_move rfl rfl) ?_)
                  refine l_of (s_not (wn1 rfl rfl rfl rfl rfl) rfl rfl ?_)
                  refine l_of (s_not (wn1 rfl rfl rfl rfl rfl) rfl rfl ?_)
                  refine l_of (s_not (wn1 rfl rfl rfl rfl rfl) rfl rfl ?_)
                  refine l_of (s_not (wn1 rfl rfl rfl rfl rfl) rfl rfl ?_)
                  refine l_of (s_not (wn1 rfl rfl rfl rfl rfl) rfl rfl ?_)
                  refine l_of (s_val (v := .bool false) (wt0 rfl) rfl rfl (x_pick_f rfl rfl rfl rfl) ?_)
                  refine l_of (s_val (v := .bool false) (wt0 rfl) rfl rfl (x_move rfl rfl) ?_)
                  refine l_of (s_not (wn1 rfl rfl rfl rfl rfl) rfl rfl ?_)
                  refine l_of (s_not (wn1 rfl rfl rfl rfl rfl) rfl rfl ?_)
                  refine l_of (s_not (wn1 rfl rfl rfl rfl rfl) rfl rfl ?_)
                  refine l_of (s_not (wn1 rfl rfl rfl rfl rfl) rfl rfl ?_)
                  refine l_of (s_not (wn1 rfl rfl rfl rfl rfl) rfl rfl ?_)
                  refine l_of (s_not (wn1 rfl rfl rfl rfl rfl) rfl rfl ?_)
                  refine l_of (s_val (v := .bool false) (wt0 rfl) rfl rfl (x_pick_f rfl rfl rfl rfl) ?_)
                  refine g_nil ?_
                  refine g_then ?_
                  refine g_weak [(3, .slice p n c), (9, .slice pd4 ((got1 round slots seed l).length) cd5), (11, .map (some mg9)), (15, .int .i64 x28), (48, .slice pr (((reg1 l slots).map Rv.id).length) cr), (49, .int .i64 ((((reg1 l slots).map Rv.id).length : Int))), (50, .int .i64 ((a : Int))), (58, .slice p n c), (59, .int .i64 ((n : Int))), (60, .int .i64 ((b : Int))), (90, .bool false)] ⟨rfl, rfl, rfl, rfl, rfl, rfl, rfl, rfl, rfl, rfl, rfl, trivial⟩ ?_
                  refine g_cond_f rfl rfl ?_
                  refine g_skip ?_
                  refine g_in ?_
                  refine g_then ?_
                  refine g_region ?_
                  refine l_of (s_val (v := .int .i64 (((b + 1 : Nat) : Int))) (wt0 rfl) rfl rfl (x_bin rfl rfl rfl (b_add (by rw [w64 (by omega)]; omega))) ?_)
                  refine l_of (s_val (v := .int .i64 (((b + 1 : Nat) : Int))) (wt0 rfl) rfl rfl (x_move rfl rfl) ?_)
                  refine g_nil ?_
                  refine g_then ?_
                  refine g_round (i := (b)) ((b + 1)) ?_ ?_ ?_
                  · exact ⟨rfl, rfl, rfl, rfl, rfl, rfl, rfl, rfl, rfl, rfl, trivial⟩
                  · exact ⟨by omega, (H40.takes [1, 2, 3, 4] (by decide))⟩
                  · (try dsimp only); omega
                · skip
                  refine l_of (s_val (v := .pointer (some ⟨g36, 7, none⟩)) (wt1 rfl rfl rfl rfl (neg_of hb42)) rfl rfl (x_fieldAddr rfl rfl fo30_7 rfl) ?_)
                  refine l_of (s_val (v := .bool x35.snb) (wt1 rfl rfl rfl rfl (neg_of hb42)) rfl rfl (x_load1 H40 0 rfl rfl Tryz.underlying4 rfl rfl rfl) ?_)
                  refine l_of (s_val (v := .bool (!(x35.snb))) (wt1 rfl rfl rfl rfl (neg_of hb42)) rfl rfl (x_not (b := x35.snb) rfl rfl) ?_)
                  refine l_of (s_val (v := .bool (!(x35.snb))) (wt0 rfl) rfl rfl (x_pick_t rfl rfl (neg_of hb42) rfl) ?_)
                  refine l_of (s_val (v := .bool (!(x35.snb))) (wt0 rfl) rfl rfl (x_move rfl rfl) ?_)
                  rcases Bool.eq_false_or_eq_true (x35.snb) with hb43 | hb43
                  · skip
                    refine l_of (s_not (wn1 rfl rfl rfl rfl (neg_of hb43)) rfl rfl ?_)
                    refine l_of (s_not (wn1 rfl rfl rfl rfl (neg_of hb43)) rfl rfl ?_)
                    refine l_of (s_not (wn1 rfl rfl rfl rfl (neg_of hb43)) rfl rfl ?_)
                    refine l_of (s_not (wn1 rfl rfl rfl rfl (neg_of hb43)) rfl rfl ?_)
                    refine l_of (s_not (wn1 rfl rfl rfl rfl (neg_of hb43)) rfl rfl ?_)
                    refine l_of (s_val (v := .bool false) (wt0 rfl) rfl rfl (x_pick_f rfl rfl (neg_of hb43) rfl) ?_)
                    refine l_of (s_val (v := .bool false) (wt0 rfl) rfl rfl (x_move rfl rfl) ?_)
                    refine l_of (s_not (wn1 rfl rfl rfl rfl rfl) rfl rfl ?_)
                    refine l_of (s_not (wn1 rfl rfl rfl rfl rfl) rfl rfl ?_)
                    refine l_of (s_not (wn1 rfl rfl rfl rfl rfl) rfl rfl ?_)
                    refine l_of (s_not (wn1 rfl rfl rfl rfl rfl) rfl rfl ?_)
                    refine l_of (s_not (wn1 rfl rfl rfl rfl rfl) rfl rfl ?_)
                    refine l_of (s_not (wn1 rfl rfl rfl rfl rfl) rfl rfl ?_)
                    refine l_of (s_val (v := .bool false) (wt0 rfl) rfl rfl (x_pick_f rfl rfl rfl rfl) ?_)
                    refine g_nil ?_
                    refine g_then ?_
                    refine g_weak [(3, .slice p n c), (9, .slice pd4 ((got1 round slots seed l).length) cd5), (11, .map (some mg9)), (15, .int .i64 x28), (48, .slice pr (((reg1 l slots).map Rv.id).length) cr), (49, .int .i64 ((((reg1 l slots).map Rv.id).length : Int))), (50, .int .i64 ((a : Int))), (58, .slice p n c), (59, .int .i64 ((n : Int))), (60, .int .i64 ((b : Int))), (90, .bool false)] ⟨rfl, rfl, rfl, rfl, rfl, rfl, rfl, rfl, rfl, rfl, rfl, trivial⟩ ?_
                    refine g_cond_f rfl rfl ?_
                    refine g_skip ?_
                    refine g_in ?_
                    refine g_then ?_
                    refine g_region ?_
                    refine l_of (s_val (v := .int .i64 (((b + 1 : Nat) : Int))) (wt0 rfl) rfl rfl (x_bin rfl rfl rfl (b_add (by rw [w64 (by omega)]; omega))) ?_)
                    refine l_of (s_val (v := .int .i64 (((b + 1 : Nat) : Int))) (wt0 rfl) rfl rfl (x_move rfl rfl) ?_)
                    refine g_nil ?_
                    refine g_then ?_
                    refine g_round (i := (b)) ((b + 1)) ?_ ?_ ?_
                    · exact ⟨rfl, rfl, rfl, rfl, rfl, rfl, rfl, rfl, rfl, rfl, trivial⟩
                    · exact ⟨by omega, (H40.takes [1, 2, 3, 4] (by decide))⟩
                    · (try dsimp only); omega
                  · skip
                    refine l_of (s_val (v := .slice pd4 ((got1 round slots seed l).length) cd5) (wt1 rfl rfl rfl rfl (neg_of hb43)) rfl rfl (x_move rfl rfl) ?_)
                    refine l_of (s_val (v := .pointer (some ⟨g36, 0, none⟩)) (wt1 rfl rfl rfl rfl (neg_of hb43)) rfl rfl (x_fieldAddr rfl rfl fo30_0 rfl) ?_)
                    refine l_of (s_val (v := .int .i64 (x35.id)) (wt1 rfl rfl rfl rfl (neg_of hb43)) rfl rfl (x_load1 H40 0 rfl rfl Tryz.underlying3 rfl rfl rfl) ?_)
                    refine l_of (s_call (wt1 rfl rfl rfl rfl (neg_of hb43)) (x_call' rfl rfl cl9) (in_l (got1 round slots seed l) pd4 ((got1 round slots seed l).length) cd5 x35.id (by have := hgl (by omega); omega) _ (H40.rwReads (k := 2) rfl)) ?_)
                    rintro _ wq44 ⟨rfl, H45⟩
                    replace H45 : S wq44 [Ob g36 (.cells #[.int .i64 (x35.id), .bool x35.intr, .bool x35.chk, .int .i64 (x35.frm), .int .i64 (x35.to), .int .i64 (x35.lt), .int .i64 (x35.since), .bool x35.snb, .bool x35.now, .bool x35.seed] 30 (0, 0)), Mp (Value.int .i64) (Value.int .i64) okI mg9 M, Rw 3 1 pd4 ((got1 round slots seed l).length) cd5 (fl intL (got1 round slots seed l)), Rw 3 1 pr (((reg1 l slots).map Rv.id).length) cr (fl intL ((reg1 l slots).map Rv.id)), Old w no] := H40.absorb (new := []) H45
                    refine b_ret rfl rfl ?_
                    refine l_of (s_val (v := .bool (!((decide (x35.id ∈ (got1 round slots seed l)))))) (wt1 rfl rfl rfl rfl (neg_of hb43)) rfl rfl (x_not (b := (decide (x35.id ∈ (got1 round slots seed l)))) rfl rfl) ?_)
                    refine l_of (s_val (v := .bool (!((decide (x35.id ∈ (got1 round slots seed l)))))) (wt0 rfl) rfl rfl (x_pick_t rfl rfl (neg_of hb43) rfl) ?_)
                    refine l_of (s_val (v := .bool (!((decide (x35.id ∈ (got1 round slots seed l)))))) (wt0 rfl) rfl rfl (x_move rfl rfl) ?_)
                    rcases Bool.eq_false_or_eq_true ((decide (x35.id ∈ (got1 round slots seed l)))) with hb46 | hb46
                    · skip
                      refine l_of (s_not (wn1 rfl rfl rfl rfl (neg_of hb46)) rfl rfl ?_)
                      refine l_of (s_not (wn1 rfl rfl rfl rfl (neg_of hb46)) rfl rfl ?_)
                      refine l_of (s_not (wn1 rfl rfl rfl rfl (neg_of hb46)) rfl rfl ?_)
                      refine l_of (s_not (wn1 rfl rfl rfl rfl (neg_of hb46)) rfl rfl ?_)
                      refine l_of (s_not (wn1 rfl rfl rfl rfl (neg_of hb46)) rfl rfl ?_)
                      refine l_of (s_not (wn1 rfl rfl rfl rfl (neg_of hb46)) rfl rfl ?_)
                      refine l_of (s_val (v := .bool false) (wt0 rfl) rfl rfl (x_pick_f rfl rfl (neg_of hb46) rfl) ?_)
                      refine g_nil ?_
                      refine g_then ?_
                      refine g_weak [(3, .slice p n c), (9, .slice pd4 ((got1 round slots seed l).length) cd5), (11, .map (some mg9)), (15, .int .i64 x28), (48, .slice pr (((reg1 l slots).map Rv.id).length) cr), (49, .int .i64 ((((reg1 l slots).map Rv.id).length : Int))), (50, .int .i64 ((a : Int))), (58, .slice p n c), (59, .int .i64 ((n : Int))), (60, .int .i64 ((b : Int))), (90, .bool false)] ⟨rfl, rfl, rfl, rfl, rfl, rfl, rfl, rfl, rfl, rfl, rfl, trivial⟩ ?_
                      refine g_cond_f rfl rfl ?_
                      refine g_skip ?_
                      refine g_in ?_
                      refine g_then ?_
                      refine g_region ?_
                      refine l_of (s_val (v := .int .i64 (((b + 1 : Nat) : Int))) (wt0 rfl) rfl rfl (x_bin rfl rfl rfl (b_add (by rw [w64 (by omega)]; omega))) ?_)
                      refine l_of (s_val (v := .int .i64 (((b + 1 : Nat) : Int))) (wt0 rfl) rfl rfl (x_move rfl rfl) ?_)
                      refine g_nil ?_
                      refine g_then ?_
                      refine g_round (i := (b)) ((b + 1)) ?_ ?_ ?_
                      · exact ⟨rfl, rfl, rfl, rfl, rfl, rfl, rfl, rfl, rfl, rfl, trivial⟩
                      · exact ⟨by omega, (H45.takes [1, 2, 3, 4] (by decide))⟩
                      · (try dsimp only); omega
                    · skip
                      refine l_of (s_val (v := .pointer (some ⟨g36, 3, none⟩)) (wt1 rfl rfl rfl rfl (neg_of hb46)) rfl rfl (x_fieldAddr rfl rfl fo30_3 rfl) ?_)
                      refine l_of (s_val (v := .int .i64 (x35.frm)) (wt1 rfl rfl rfl rfl (neg_of hb46)) rfl rfl (x_load1 H45 0 rfl rfl Tryz.underlying3 rfl rfl rfl) ?_)
                      refine l_of (s_val (v := .map (some mg9)) (wt1 rfl rfl rfl rfl (neg_of hb46)) rfl rfl (x_move rfl rfl) ?_)
                      refine l_of (s_val (v := .int .i64 x28) (wt1 rfl rfl rfl rfl (neg_of hb46)) rfl rfl (x_move rfl rfl) ?_)
                      refine l_of (s_val (v := .int .i64 (((M x28).getD 0))) (wt1 rfl rfl rfl rfl (neg_of hb46)) rfl rfl (ex_cast (x_lookup1 (x := x28) (intTy Tryz.underlying28 Tryz.underlying3) H45 1 rfl rfl rfl rfl ((by obtain ⟨y8, hy8, he8⟩ := List.mem_map.1 (at_mem hx28); have h8 := validR_ids (hval y8 (reg_sub hy8).1); rw [he8] at h8; exact ⟨by omega, by omega⟩)) ze3) (look_I _)) ?_)
                      refine l_of (s_val (v := .bool (decide ((((M x28).getD 0) : Int) < x35.frm))) (wt1 rfl rfl rfl rfl (neg_of hb46)) rfl rfl (x_bin rfl rfl rfl b_gtr) ?_)
                      refine l_of (s_val (v := .bool (decide ((((M x28).getD 0) : Int) < x35.frm))) (wt0 rfl) rfl rfl (x_pick_t rfl rfl (neg_of hb46) rfl) ?_)
                      refine g_nil ?_
                      refine g_then ?_
                      refine g_weak [(3, .slice p n c), (9, .slice pd4 ((got1 round slots seed l).length) cd5), (11, .map (some mg9)), (15, .int .i64 x28), (48, .slice pr (((reg1 l slots).map Rv.id).length) cr), (49, .int .i64 ((((reg1 l slots).map Rv.id).length : Int))), (50, .int .i64 ((a : Int))), (58, .slice p n c), (59, .int .i64 ((n : Int))), (60, .int .i64 ((b : Int))), (90, .bool (decide ((((M x28).getD 0) : Int) < x35.frm)))] ⟨rfl, rfl, rfl, rfl, rfl, rfl, rfl, rfl, rfl, rfl, rfl, trivial⟩ ?_
                      by_cases hb47 : (((M x28).getD 0) : Int) < x35.frm
                      · skip
                        refine g_cond_t rfl (decide_eq_true hb47) ?_
                        refine g_seq ?_
                        refine g_region ?_
                        refine l_of (s_val (v := .bool false) (wt0 rfl) rfl rfl (x_assign rfl rfl) ?_)
                        refine g_nil ?_
                        refine g_then ?_
                        refine g_ret ?_
                        refine g_in_ret ?_
                        refine g_then_ret ?_
                        refine g_then_ret ?_
                        refine g_in_ret ?_
                        refine g_in_ret ?_
                        refine g_then_ret ?_
                        refine g_then_ret ?_
                        refine g_in_ret ?_
                        refine g_then_ret ?_
                        refine fin_ret [.tmp 8] [.bool false] rfl ⟨rfl, trivial⟩ ?_
                        obtain ⟨y9, hy9, hye⟩ := List.mem_map.1 (at_mem hx28)
                        have hz : rndE round slots seed l = 0 := by omega
                        have hq9 : qR x35 = true := by unfold qR; simp [hb41, hb42, hb43]
                        have h9 := tat_law (by omega) hz hy9 (List.mem_of_getElem? hx35) hq9 (of_decide_eq_false hb46)
                        have hmf := hM y9 (reg_sub hy9).1
                        rw [hye] at hmf
                        omega
                      · skip
                        refine g_cond_f rfl (decide_eq_false hb47) ?_
                        refine g_skip ?_
                        refine g_in ?_
                        refine g_then ?_
                        refine g_region ?_
                        refine l_of (s_val (v := .int .i64 (((b + 1 : Nat) : Int))) (wt0 rfl) rfl rfl (x_bin rfl rfl rfl (b_add (by rw [w64 (by omega)]; omega))) ?_)
                        refine l_of (s_val (v := .int .i64 (((b + 1 : Nat) : Int))) (wt0 rfl) rfl rfl (x_move rfl rfl) ?_)
                        refine g_nil ?_
                        refine g_then ?_
                        refine g_round (i := (b)) ((b + 1)) ?_ ?_ ?_
                        · exact ⟨rfl, rfl, rfl, rfl, rfl, rfl, rfl, rfl, rfl, rfl, trivial⟩
                        · exact ⟨by omega, (H45.takes [1, 2, 3, 4] (by decide))⟩
                        · (try dsimp only); omega
              · skip
                refine l_of (s_not (wn1 rfl rfl rfl rfl hb41) rfl rfl ?_)
                refine l_of (s_not (wn1 rfl rfl rfl rfl hb41) rfl rfl ?_)
                refine l_of (s_not (wn1 rfl rfl rfl rfl hb41) rfl rfl ?_)
                refine l_of (s_val (v := .bool false) (wt0 rfl) rfl rfl (x_pick_f rfl rfl hb41 rfl) ?_)
                refine l_of (s_val (v := .bool false) (wt0 rfl) rfl rfl (x_move rfl rfl) ?_)
                refine l_of (s_not (wn1 rfl rfl rfl rfl rfl) rfl rfl ?_)
                refine l_of (s_not (wn1 rfl rfl rfl rfl rfl) rfl rfl ?_)
                refine l_of (s_not (wn1 rfl rfl rfl rfl rfl) rfl rfl ?_)
                refine l_of (s_val (v := .bool false) (wt0 rfl) rfl rfl (x_pick_f rfl rfl rfl rfl) ?_)
                refine l_of (s_val (v := .bool false) (wt0 rfl) rfl rfl (x_move rfl rfl) ?_)
                refine l_of (s_not (wn1 rfl rfl rfl rfl rfl) rfl rfl ?_)
                refine l_of (s_not (wn1 rfl rfl rfl rfl rfl) rfl rfl ?_)
                refine l_of (s_not (wn1 rfl rfl rfl rfl rfl) rfl rfl ?_)
                refine l_of (s_not (wn1 rfl rfl rfl rfl rfl) rfl rfl ?_)
                refine l_of (s_not (wn1 rfl rfl rfl rfl rfl) rfl rfl ?_)
                refine l_of (s_val (v := .bool false) (wt0 rfl) rfl rfl (x_pick_f rfl rfl rfl rfl) ?_)
                refine l_of (s_val (v := .bool false) (wt0 rfl) rfl rfl (x_move rfl rfl) ?_)
                refine l_of (s_not (wn1 rfl rfl rfl rfl rfl) rfl rfl ?_)
                refine l_of (s_not (wn1 rfl rfl rfl rfl rfl) rfl rfl ?_)
                refine l_of (s_not (wn1 rfl rfl rfl rfl rfl) rfl rfl ?_)
                refine l_of (s_not (wn1 rfl rfl rfl rfl rfl) rfl rfl ?_)
                refine l_of (s_not (wn1 rfl rfl rfl rfl rfl) rfl rfl ?_)
                refine l_of (s_not (wn1 rfl rfl rfl rfl rfl) rfl rfl ?_)
                refine l_of (s_val (v := .bool false) (wt0 rfl) rfl rfl (x_pick_f rfl rfl rfl rfl) ?_)
                refine g_nil ?_
                refine g_then ?_
                refine g_weak [(3, .slice p n c), (9, .slice pd4 ((got1 round slots seed l).length) cd5), (11, .map (some mg9)), (15, .int .i64 x28), (48, .slice pr (((reg1 l slots).map Rv.id).length) cr), (49, .int .i64 ((((reg1 l slots).map Rv.id).length : Int))), (50, .int .i64 ((a : Int))), (58, .slice p n c), (59, .int .i64 ((n : Int))), (60, .int .i64 ((b : Int))), (90, .bool false)] ⟨rfl, rfl, rfl, rfl, rfl, rfl, rfl, rfl, rfl, rfl, rfl, trivial⟩ ?_
                refine g_cond_f rfl rfl ?_
                refine g_skip ?_
                refine g_in ?_
                refine g_then ?_
                refine g_region ?_
                refine l_of (s_val (v := .int .i64 (((b + 1 : Nat) : Int))) (wt0 rfl) rfl rfl (x_bin rfl rfl rfl (b_add (by rw [w64 (by omega)]; omega))) ?_)
                refine l_of (s_val (v := .int .i64 (((b + 1 : Nat) : Int))) (wt0 rfl) rfl rfl (x_move rfl rfl) ?_)
                refine g_nil ?_
                refine g_then ?_
                refine g_round (i := (b)) ((b + 1)) ?_ ?_ ?_
                · exact ⟨rfl, rfl, rfl, rfl, rfl, rfl, rfl, rfl, rfl, rfl, trivial⟩
                · exact ⟨by omega, (H40.takes [1, 2, 3, 4] (by decide))⟩
                · (try dsimp only); omega
            · skip
              refine g_cond_f rfl (decide_eq_false hb34) ?_
              refine g_exit ?_
              refine g_then_exit ?_
              refine g_then_exit ?_
              refine g_in_hit ?_
              refine g_in ?_
              refine g_then ?_
              refine g_region ?_
              refine l_of (s_val (v := .int .i64 (((a + 1 : Nat) : Int))) (wt0 rfl) rfl rfl (x_bin rfl rfl rfl (b_add (by rw [w64 (by omega)]; omega))) ?_)
              refine l_of (s_val (v := .int .i64 (((a + 1 : Nat) : Int))) (wt0 rfl) rfl rfl (x_move rfl rfl) ?_)
              refine g_nil ?_
              refine g_then ?_
              refine g_round (i := (a)) ((a + 1)) ?_ ?_ ?_
              · exact ⟨rfl, rfl, rfl, rfl, rfl, rfl, trivial⟩
              · exact ⟨by omega, (H33.takes [0, 1, 2, 3] (by decide))⟩
              · (try dsimp only); omega
          · skip
            refine g_cond_t rfl (neg_of hb31) ?_
            refine g_seq ?_
            refine g_region ?_
            refine l_of (s_val (v := .bool false) (wt0 rfl) rfl rfl (x_assign rfl rfl) ?_)
            refine g_nil ?_
            refine g_then ?_
            refine g_weak [(8, .bool false)] ⟨rfl, trivial⟩ ?_
            refine g_ret ?_
            refine g_then_ret ?_
            refine g_in_ret ?_
            refine g_then_ret ?_
            refine g_then_ret ?_
            refine g_in_ret ?_
            refine g_then_ret ?_
            refine fin_ret [.tmp 8] [.bool false] rfl ⟨rfl, trivial⟩ ?_
            obtain ⟨y9, hy9, hye⟩ := List.mem_map.1 (at_mem hx28)
            have hz : rndE round slots seed l = 0 := by omega
            exact absurd (got_reg hz hy9) (by rw [hye]; exact of_decide_eq_false hb31)
        · skip
          refine g_cond_f rfl (decide_eq_false hb27) ?_
          refine g_exit ?_
          refine g_then_exit ?_
          refine g_then_exit ?_
          refine g_in_hit ?_
          refine g_then ?_
          refine g_seq ?_
          refine g_region ?_
          refine l_of (s_call (wt0 rfl) (x_call' rfl rfl cl6) (awake_s _) ?_)
          rintro _ wq48 ⟨rfl, H49⟩
          replace H49 : S wq48 [Mp (Value.int .i64) (Value.int .i64) okI mg9 M, Rw 3 1 pd4 ((got1 round slots seed l).length) cd5 (fl intL (got1 round slots seed l)), Rw 3 1 pr (((reg1 l slots).map Rv.id).length) cr (fl intL ((reg1 l slots).map Rv.id)), Old w no] := H26.absorb (new := []) H49
          refine b_ret rfl rfl ?_
          refine l_of (s_val (v := .bool true) (wt0 rfl) rfl rfl (x_assign rfl rfl) ?_)
          refine g_nil ?_
          refine g_then ?_
          refine g_ret ?_
          refine fin_ret [.tmp 8] [.bool true] rfl ⟨rfl, trivial⟩ ?_
          exact ⟨rfl, H49.mask [false, false, false, true]⟩
    · skip
      refine g_cond_t rfl (nt hb8) ?_
      refine g_seq ?_
      refine g_region ?_
      refine l_of (s_call (wt0 rfl) (x_call' rfl rfl cl6) (awake_s _) ?_)
      rintro _ wq50 ⟨rfl, H51⟩
      replace H51 : S wq50 [Rw 3 1 pd4 ((got1 round slots seed l).length) cd5 (fl intL (got1 round slots seed l)), Old w no] := H7.absorb (new := []) H51
      refine b_ret rfl rfl ?_
      refine l_of (s_val (v := .bool true) (wt0 rfl) rfl rfl (x_assign rfl rfl) ?_)
      refine g_nil ?_
      refine g_then ?_
      refine g_ret ?_
      refine g_then_ret ?_
      refine fin_ret [.tmp 8] [.bool true] rfl ⟨rfl, trivial⟩ ?_
      exact ⟨rfl, H51.mask [false, true]⟩
end Go.Proofs.YthfglkkjkpdkpaaGreatDoor
