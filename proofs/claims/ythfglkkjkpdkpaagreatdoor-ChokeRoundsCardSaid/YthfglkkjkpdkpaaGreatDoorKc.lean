import Derived.Test.YthfglkkjkpdkpaaGreatDoorFk
import Derived.Test.YthfglkkjkpdkpaaGreatDoorKb
import Derived.Test.YthfglkkjkpdkpaaGreatDoorSj
set_option linter.unusedSimpArgs false
set_option linter.unusedVariables false
namespace Go.Proofs.YthfglkkjkpdkpaaGreatDoor
open Go.RowKit

theorem cl26 : callable Tryz.prog 26 = true := by kernel_rfl
theorem cl27 : callable Tryz.prog 27 = true := by kernel_rfl
theorem cl28 : callable Tryz.prog 28 = true := by kernel_rfl
theorem cl45 : callable Tryz.prog 45 = true := by kernel_rfl
theorem fo30_0 : foO Tryz.prog 30 0 = some 0 := by kernel_rfl
theorem fo30_3 : foO Tryz.prog 30 3 = some 3 := by kernel_rfl
theorem fo30_4 : foO Tryz.prog 30 4 = some 4 := by kernel_rfl
theorem fo30_5 : foO Tryz.prog 30 5 = some 5 := by kernel_rfl
theorem fo30_6 : foO Tryz.prog 30 6 = some 6 := by kernel_rfl
theorem inf3 : infO Tryz.prog 3 = some (some (.int .i64 0), 1, 8) := by kernel_rfl
theorem sz3 : szO Tryz.prog 3 = some 1 := by kernel_rfl
theorem ze3 : zeO Tryz.prog 3 = some (.int .i64 0) := by kernel_rfl
theorem zV_fl (l : List Int) : zV l = fl intL l := map_fl (fun _ => rfl) l
theorem sortZ (l : List Int) (p : Option Addr) (n c : Nat) (hn : l.length = n) (hn2 : n ≤ 1000000) (w : World) (HS : S w [Rw 3 1 p n c (fl intL l)]) :
    Calls Tryz.prog 45 #[.slice p n c] w fun e w' => e = .returned (.tuple #[]) ∧ S w' ([Rw 3 1 p n c (fl intL (sortI l))] ++ [Old w (fps [Rw 3 1 p n c (fl intL l)])]) := by
  have h := sortInts_s l p n c hn hn2 w (by rw [zV_fl]; exact HS)
  rw [zV_fl, zV_fl] at h; exact h
theorem sortI_of {l m : List Int} (h : m.Perm l) (hs : m.Pairwise (· ≤ ·)) : m = sortI l :=
  List.Perm.eq_of_pairwise (fun a b _ _ h1 h2 => Int.le_antisymm h1 h2) hs (sortI_le l) (h.trans (sortI_perm l).symm)
theorem sortI_mem {l : List Int} {x : Int} : x ∈ sortI l ↔ x ∈ l := (sortI_perm l).mem_iff
def numB (x : Int) : Bool := decide (0 ≤ x) && decide (x ≤ 1000000000)
def validR (x : Rv) : Bool := numB x.id && numB x.frm && numB x.to && decide (-1 ≤ x.lt) && decide (x.lt ≤ 1000000000) && numB x.since
open Classical in
noncomputable def askE (seed : ByteArray) (l : List Rv) : Int := if 100 < seed.size ∨ 200 < l.length ∨ l.any (fun x => !validR x) = true then 1 else if (l.map Rv.id).Nodup then 0 else 6
def slotsV (r : Int) : Int × Int := if r < 0 ∨ 1000000000 < r then (0, 7) else if r < 10000 then (2, 0) else if r < 20000 then (3, 0) else (min (4 + (r - 20000) / 20000) 50, 0)
theorem no_takeP {α : Type} {P : α → Prop} {l : List α} {k : Nat} {x : α} (h : ∀ y ∈ l.take k, P y) (hx : l[k]? = some x) (hq : P x) : ∀ y ∈ l.take (k + 1), P y := fun y hy => by
  rw [List.take_add_one, hx] at hy
  rcases List.mem_append.1 hy with hy | hy
  · exact h y hy
  · have e := Option.some.inj (Option.mem_toList.1 hy); rw [← e]; exact hq
theorem at_mem {l : List Int} {j : Nat} {x : Int} (h : l[j]? = some x) : x ∈ l := List.mem_of_getElem? h
theorem take_snocL {α : Type} {l : List α} {k : Nat} {x : α} (h : l[k]? = some x) : l.take (k + 1) = l.take k ++ [x] := by rw [List.take_add_one, h]; rfl
set_option maxRecDepth 20000 in
set_option maxHeartbeats 4000000 in
theorem in_r (l : List Int) (p : Option Addr) (n c : Nat) (x : Int) (hn : n ≤ 9223372036854775807)  (w : World) (hr : Reads w p n c 1 (fl intL l)) : Calls Tryz.prog 34 #[.slice p n c, .int .i64 x] w fun e w' => e = .returned (.bool (decide (x ∈ l))) ∧ S w' [Old w no] := by
 have H0 := S.old w
 have hnl := hr.lenL intE
 refine enter 17 Tryz.func34 rfl rfl rfl ?_
 refine g_weak [(0, .slice p n c), (1, .int .i64 x)] ⟨rfl, rfl, trivial⟩ ?_
 refine w_s ?_
 refine w_a ?_
 refine w_e ?_
 refine g_seq ?_
 refine w_s ?_
 refine w_m ?_
 refine w_v (v := .int .i64 ((n : Int))) (x_lenl rfl rfl Tryz.underlying24) ?_
 refine w_m ?_
 refine w_e ?_
 refine g_block ?_
 refine g_loop (ι := Nat) (fun i => [(1, .int .i64 x), (7, .slice p n c), (8, .int .i64 ((n : Int))), (9, .int .i64 ((i : Int)))]) (fun i wx => (i ≤ n) ∧ (∀ y ∈ l.take i, ¬ y = x) ∧ S wx [Old w no]) (fun i => n - i) (0) ⟨rfl, rfl, rfl, rfl, trivial⟩ ⟨Nat.zero_le _, (fun y hy => by simp at hy), H0⟩ ?_
 rintro i wq1 ⟨hi, hno, H2⟩
 refine g_weak [(1, .int .i64 x), (7, .slice p n c), (8, .int .i64 ((n : Int))), (9, .int .i64 ((i : Int)))] ⟨rfl, rfl, rfl, rfl, trivial⟩ ?_
 refine w_s ?_
 refine w_b ?_
 refine w_e ?_
 refine g_seq ?_
 by_cases hb3 : ((i : Int) : Int) < (n : Int)
 ·
  refine g_cond_t rfl (decide_eq_true hb3) ?_
  refine g_skip ?_
  refine g_then ?_
  refine g_seq ?_
  refine g_block ?_
  refine w_s ?_
  refine w_v (v := .pointer ((p).map fun q => q.add (i * 1))) (x_idxR i (H2.exReads (k := 0) rfl hr (fun _ _ _ h => h)) rfl rfl rfl Tryz.underlying24 sz3 (by omega)) ?_
  have hlq := (H2.exReads (k := 0) rfl hr (fun _ _ _ h => h)).lenL intE
  obtain ⟨x4, hx4⟩ := ex_at (l := l) (j := i) (by omega)
  clear hlq
  refine w_v (v := .int .i64 x4) (x_loadR1 i (H2.exReads (k := 0) rfl hr (fun _ _ _ h => h)) (by omega) rfl rfl Tryz.underlying3 rfl (intE.flAt1 hx4 rfl)) ?_
  refine w_a ?_
  refine w_e ?_
  refine w_s ?_
  refine w_r2 ?_
  refine w_b ?_
  refine w_e ?_
  by_cases hb5 : (x4 : Int) = x
  ·
   refine g_cond_t rfl (decide_eq_true hb5) ?_
   refine w_s ?_
   refine w_a ?_
   refine w_e ?_
   refine g_ret ?_
   refine g_in_ret ?_
   refine g_then_ret ?_
   refine g_then_ret ?_
   refine g_in_ret ?_
   refine g_then_ret ?_
   refine fin_ret [.tmp 4] [.bool true] rfl ⟨rfl, trivial⟩ ?_
   have hm : x ∈ l := by have h9 := at_mem hx4; have h8 := hb5; first | (rw [← h8]; exact h9) | (rw [h8]; exact h9)
   exact ⟨by rw [decide_eq_true hm]; rfl, H2.mask [true]⟩
  ·
   refine g_cond_f rfl (decide_eq_false hb5) ?_
   refine g_skip ?_
   refine g_in ?_
   refine g_then ?_
   refine g_region ?_
   refine w_b (v := .int .i64 (((i + 1 : Nat) : Int))) (hb := (b_add (by rw [w64 (by omega)]; omega))) ?_
   refine w_m ?_
   refine w_e ?_
   refine g_round (i := (i)) ((i + 1)) ?_ ?_ ?_
   · exact ⟨rfl, rfl, rfl, rfl, trivial⟩
   · exact ⟨by omega, (no_takeP hno hx4 hb5), H2⟩
   · (try dsimp only); omega
 ·
  refine g_cond_f rfl (decide_eq_false hb3) ?_
  refine g_exit ?_
  refine g_then_exit ?_
  refine g_then_exit ?_
  refine g_in_hit ?_
  refine g_then ?_
  refine w_s ?_
  refine w_a ?_
  refine w_e ?_
  refine g_ret ?_
  refine fin_ret [.tmp 4] [.bool false] rfl ⟨rfl, trivial⟩ ?_
  rw [List.take_of_length_le (by omega)] at hno
  have hm : ¬ x ∈ l := fun h => hno x h rfl
  exact ⟨by rw [decide_eq_false hm]; rfl, H2.mask [true]⟩
set_option maxRecDepth 20000 in
set_option maxHeartbeats 4000000 in
theorem same_i (l : List Int) (hl : l.length ≤ 9223372036854775807) (p : Option Addr) (n c : Nat) (q : Option Addr) (m d : Nat)  (w : World) (hr : Reads w p n c 1 (fl intL l)) (hq : Reads w q m d 1 (fl intL l)) : Calls Tryz.prog 11 #[.slice p n c, .slice q m d] w fun e w' => e = .returned (.bool true) ∧ S w' [Old w no] := by
 have H0 := S.old w
 have hnl := hr.lenL intE
 have hml := hq.lenL intE
 refine enter 26 Tryz.func11 rfl rfl rfl ?_
 refine g_weak [(0, .slice p n c), (1, .slice q m d)] ⟨rfl, rfl, trivial⟩ ?_
 refine w_s ?_
 refine w_a ?_
 refine w_e ?_
 refine g_seq ?_
 refine w_s ?_
 refine w_m ?_
 refine w_v (v := .int .i64 ((n : Int))) (x_lenl rfl rfl Tryz.underlying24) ?_
 refine w_m ?_
 refine w_v (v := .int .i64 ((m : Int))) (x_lenl rfl rfl Tryz.underlying24) ?_
 refine w_b (v := .bool (!decide (((n : Int) : Int) = (m : Int)))) (hb := b_neq) ?_
 refine w_e ?_
 by_cases hb1 : ((n : Int) : Int) = (m : Int)
 ·
  refine g_cond_f rfl (nf hb1) ?_
  refine g_skip ?_
  refine g_then ?_
  refine g_seq ?_
  refine w_s ?_
  refine w_m ?_
  refine w_v (v := .int .i64 ((n : Int))) (x_lenl rfl rfl Tryz.underlying24) ?_
  refine w_m ?_
  refine w_e ?_
  refine g_block ?_
  refine g_loop (ι := Nat) (fun k => [(0, .slice p n c), (1, .slice q m d), (12, .int .i64 ((n : Int))), (13, .int .i64 ((k : Int)))]) (fun k wx => (k ≤ n) ∧ S wx [Old w no]) (fun k => n - k) (0) ⟨rfl, rfl, rfl, rfl, trivial⟩ ⟨Nat.zero_le _, H0⟩ ?_
  rintro k wq2 ⟨hk, H3⟩
  refine g_weak [(0, .slice p n c), (1, .slice q m d), (12, .int .i64 ((n : Int))), (13, .int .i64 ((k : Int)))] ⟨rfl, rfl, rfl, rfl, trivial⟩ ?_
  refine w_s ?_
  refine w_b ?_
  refine w_e ?_
  refine g_seq ?_
  by_cases hb4 : ((k : Int) : Int) < (n : Int)
  ·
   refine g_cond_t rfl (decide_eq_true hb4) ?_
   refine g_skip ?_
   refine g_then ?_
   refine g_seq ?_
   refine g_block ?_
   refine w_s ?_
   refine w_r2 ?_
   refine w_e ?_
   refine g_seq ?_
   refine g_quiet (by kernel_rfl) (by kernel_rfl) H3 ?_
   refine q_val (v := .slice p n c) (wt0 rfl) rfl rfl (fun wx H => x_move rfl rfl) ?_
   refine q_val (v := .int .i64 ((k : Int))) (wt0 rfl) rfl rfl (fun wx H => x_move rfl rfl) ?_
   refine q_val (v := .pointer ((p).map fun q => q.add (k * 1))) (wt0 rfl) rfl rfl (fun wx H => x_idxP k ((H3.exReads (k := 0) rfl hr (fun _ _ _ h => h)).some (by omega)) rfl rfl rfl Tryz.underlying24 sz3 (by omega)) ?_
   have hlq := (H3.exReads (k := 0) rfl hr (fun _ _ _ h => h)).lenL intE
   obtain ⟨x5, hx5⟩ := ex_at (l := l) (j := k) (by omega)
   clear hlq
   refine q_val (v := .int .i64 x5) (wt0 rfl) rfl rfl (fun wx H => x_loadR1 k (H.exReads (k := 0) rfl hr (fun _ _ _ h => h)) (by omega) rfl rfl Tryz.underlying3 rfl (intE.flAt1 hx5 rfl)) ?_
   refine q_val (v := .slice q m d) (wt0 rfl) rfl rfl (fun wx H => x_move rfl rfl) ?_
   refine q_val (v := .int .i64 ((k : Int))) (wt0 rfl) rfl rfl (fun wx H => x_move rfl rfl) ?_
   refine q_val (v := .pointer ((q).map fun q => q.add (k * 1))) (wt0 rfl) rfl rfl (fun wx H => x_idxP k ((H3.exReads (k := 0) rfl hq (fun _ _ _ h => h)).some (by omega)) rfl rfl rfl Tryz.underlying24 sz3 (by omega)) ?_
   refine q_val (v := .int .i64 x5) (wt0 rfl) rfl rfl (fun wx H => x_loadR1 k (H.exReads (k := 0) rfl hq (fun _ _ _ h => h)) (by omega) rfl rfl Tryz.underlying3 rfl (intE.flAt1 hx5 rfl)) ?_
   refine q_val (v := .bool (!decide ((x5 : Int) = x5))) (wt0 rfl) rfl rfl (fun wx H => x_bin rfl rfl rfl b_neq) ?_
   refine q_nil (fun wq6 H7 => ?_)
   refine g_then ?_
   refine g_cond_f rfl (nf rfl) ?_
   refine g_skip ?_
   refine g_in ?_
   refine g_then ?_
   refine g_weak [(0, .slice p n c), (1, .slice q m d), (12, .int .i64 ((n : Int))), (13, .int .i64 ((k : Int)))] ⟨rfl, rfl, rfl, rfl, trivial⟩ ?_
   refine g_region ?_
   refine w_b (v := .int .i64 (((k + 1 : Nat) : Int))) (hb := (b_add (by rw [w64 (by omega)]; omega))) ?_
   refine w_m ?_
   refine w_e ?_
   refine g_round (i := (k)) ((k + 1)) ?_ ?_ ?_
   · exact ⟨rfl, rfl, rfl, rfl, trivial⟩
   · exact ⟨by omega, H7⟩
   · (try dsimp only); omega
  ·
   refine g_cond_f rfl (decide_eq_false hb4) ?_
   refine g_exit ?_
   refine g_then_exit ?_
   refine g_then_exit ?_
   refine g_in_hit ?_
   refine g_then ?_
   refine w_s ?_
   refine w_a ?_
   refine w_e ?_
   refine g_ret ?_
   refine fin_ret [.tmp 4] [.bool true] rfl ⟨rfl, trivial⟩ ?_
   exact ⟨rfl, H3.mask [true]⟩
 ·
  refine g_cond_t rfl (nt hb1) ?_
  refine w_s ?_
  refine w_a ?_
  refine w_e ?_
  refine g_ret ?_
  refine g_then_ret ?_
  refine fin_ret [.tmp 4] [.bool false] rfl ⟨rfl, trivial⟩ ?_
  omega
/-- In order up to i, but for what stands at k. -/
structure Asc (l cur : List Int) (i k : Nat) : Prop where
  perm : cur.Perm l
  le : ∀ a b, a < b → b ≤ i → a ≠ k → b ≠ k → cur.getD a 0 ≤ cur.getD b 0
  up : ∀ b, k < b → b ≤ i → cur.getD k 0 ≤ cur.getD b 0
theorem Asc.start {l cur : List Int} {i : Nat} (hp : cur.Perm l) (hs : ∀ a b, a < b → b < i → cur.getD a 0 ≤ cur.getD b 0) : Asc l cur i i :=
  ⟨hp, fun a b h1 h2 _ h4 => hs a b h1 (by omega), fun b h1 h2 => by omega⟩
theorem Asc.stop {l cur : List Int} {i k : Nat} (h : Asc l cur i k) (hk : k ≤ i) (hc : k = 0 ∨ ¬ cur.getD k 0 < cur.getD (k - 1) 0) : ∀ a b, a < b → b < i + 1 → cur.getD a 0 ≤ cur.getD b 0 := fun a b h1 h2 => by
  by_cases ha : a = k
  · subst ha; exact h.up b h1 (by omega)
  · by_cases hb : b = k
    · subst hb
      rcases hc with hc | hc
      · omega
      · by_cases e : a = b - 1
        · subst e; omega
        · have := h.le a (b - 1) (by omega) (by omega) ha (by omega)
          omega
    · exact h.le a b h1 (by omega) ha hb
theorem getD_set2 {l : List Int} {i j : Nat} {x : Int} (hi : i < l.length) : (l.set i x).getD j 0 = if j = i then x else l.getD j 0 := by
  rw [List.getD_eq_getElem?_getD, List.getD_eq_getElem?_getD]
  by_cases h : j = i
  · subst h; rw [if_pos rfl, List.getElem?_set_self hi]; rfl
  · rw [if_neg h, List.getElem?_set_ne (Ne.symm h)]
theorem Asc.go {l cur : List Int} {i k : Nat} (h : Asc l cur i k) (hk : 0 < k) (hki : k ≤ i) (hi : i < cur.length) (hc : cur.getD k 0 < cur.getD (k - 1) 0) : Asc l ((cur.set k (cur.getD (k - 1) 0)).set (k - 1) (cur.getD k 0)) i (k - 1) := by
  have hg : ∀ j, ((cur.set k (cur.getD (k - 1) 0)).set (k - 1) (cur.getD k 0)).getD j 0 = if j = k - 1 then cur.getD k 0 else if j = k then cur.getD (k - 1) 0 else cur.getD j 0 := fun j => by
    rw [getD_set2 (by rw [List.length_set]; omega)]
    by_cases e : j = k - 1
    · rw [if_pos e, if_pos e]
    · rw [if_neg e, if_neg e, getD_set2 (by omega)]
  refine ⟨(swp_perm (d := (0 : Int)) (l := cur) (i := k) (j := k - 1) (by omega) (by omega)).trans h.perm, fun a b h1 h2 h3 h4 => ?_, fun b h1 h2 => ?_⟩
  · rw [hg a, hg b, if_neg h3, if_neg h4]
    by_cases ea : a = k
    · subst ea
      rw [if_pos rfl, if_neg (by omega)]
      exact h.le (a - 1) b (by omega) h2 (by omega) (by omega)
    · rw [if_neg ea]
      by_cases eb : b = k
      · subst eb
        rw [if_pos rfl]
        exact h.le a (b - 1) (by omega) (by omega) ea (by omega)
      · rw [if_neg eb]; exact h.le a b h1 h2 ea eb
  · rw [hg (k - 1), hg b, if_pos rfl, if_neg (by omega)]
    by_cases eb : b = k
    · subst eb; rw [if_pos rfl]; omega
    · rw [if_neg eb]; exact h.up b (by omega) h2
theorem asc_done {l cur : List Int} (hp : cur.Perm l) (hs : ∀ a b, a < b → b < cur.length → cur.getD a 0 ≤ cur.getD b 0) : cur = sortI l := by
  refine sortI_of hp (List.pairwise_iff_getElem.2 fun i j hi hj hij => ?_)
  have := hs i j hij hj
  rw [List.getD_eq_getElem?_getD, List.getD_eq_getElem?_getD, List.getElem?_eq_getElem hi, List.getElem?_eq_getElem hj] at this
  exact this
set_option maxRecDepth 20000 in
set_option maxHeartbeats 4000000 in
theorem asc_r (l : List Int) (p : Option Addr) (n c : Nat) (hn2 : n ≤ 1000000)  (w : World) (HS : S w [Rw 3 1 p n c (fl intL l)]) : Calls Tryz.prog 35 #[.slice p n c] w fun e w' => e = .returned (.slice p n c) ∧ S w' ([Rw 3 1 p n c (fl intL (sortI l))] ++ [Old w (fps [Rw 3 1 p n c (fl intL l)])]) := by
 have H0 := HS.beginI
 have hn := (HS.rwReads (k := 0) rfl).lenL intE
 refine enter 45 Tryz.func35 rfl rfl rfl ?_
 refine g_weak [(0, .slice p n c)] ⟨rfl, trivial⟩ ?_
 refine w_s ?_
 refine w_a ?_
 refine w_e ?_
 refine g_seq ?_
 refine w_s ?_
 refine w_m ?_
 refine w_v (v := .int .i64 ((n : Int))) (x_lenl rfl rfl Tryz.underlying24) ?_
 refine w_m ?_
 refine w_e ?_
 refine g_block ?_
 refine g_loop (ι := Nat × List Int) (fun (i, cur) => [(0, .slice p n c), (6, .int .i64 ((n : Int))), (7, .int .i64 ((i : Int)))]) (fun (i, cur) wx => (i ≤ n) ∧ (cur.length = n) ∧ (cur.Perm l) ∧ (∀ a b, a < b → b < i → cur.getD a 0 ≤ cur.getD b 0) ∧ S wx [Rw 3 1 p n c (fl intL cur), Old w (fps [Rw 3 1 p n c (fl intL l)])]) (fun (i, cur) => n - i) (0, l) ⟨rfl, rfl, rfl, trivial⟩ ⟨Nat.zero_le _, hn.symm, (.refl _), (fun a b _ h => by omega), (H0.takes [0, 1] (by decide))⟩ ?_
 rintro ⟨i, cur⟩ wq1 ⟨hi, hcl, hpm, hso, H2⟩
 refine g_weak [(0, .slice p n c), (6, .int .i64 ((n : Int))), (7, .int .i64 ((i : Int)))] ⟨rfl, rfl, rfl, trivial⟩ ?_
 refine w_s ?_
 refine w_b ?_
 refine w_e ?_
 refine g_seq ?_
 by_cases hb3 : ((i : Int) : Int) < (n : Int)
 ·
  refine g_cond_t rfl (decide_eq_true hb3) ?_
  refine g_skip ?_
  refine g_then ?_
  refine g_seq ?_
  refine g_block ?_
  refine w_s ?_
  refine w_r2 ?_
  refine w_e ?_
  refine w_s ?_
  refine w_r2 ?_
  refine w_e ?_
  refine g_block ?_
  refine g_loop (ι := Nat × List Int) (fun (k, cur2) => [(0, .slice p n c), (4, .int .i64 ((k : Int))), (6, .int .i64 ((n : Int))), (7, .int .i64 ((i : Int)))]) (fun (k, cur2) wx => (k ≤ i) ∧ (cur2.length = n) ∧ (Asc l cur2 i k) ∧ S wx [Rw 3 1 p n c (fl intL cur2), Old w (fps [Rw 3 1 p n c (fl intL l)])]) (fun (k, cur2) => k) (i, cur) ⟨rfl, rfl, rfl, rfl, trivial⟩ ⟨Nat.le_refl _, hcl, (Asc.start hpm hso), (H2.takes [0, 1] (by decide))⟩ ?_
  rintro ⟨k, cur2⟩ wq4 ⟨hk, hcl2, hA, H5⟩
  refine g_weak [(0, .slice p n c), (4, .int .i64 ((k : Int))), (6, .int .i64 ((n : Int))), (7, .int .i64 ((i : Int)))] ⟨rfl, rfl, rfl, rfl, trivial⟩ ?_
  refine g_seq ?_
  refine g_seq ?_
  refine g_quiet (by kernel_rfl) (by kernel_rfl) H5 ?_
  refine q_val (v := .int .i64 ((k : Int))) (wt0 rfl) rfl rfl (fun wx H => x_move rfl rfl) ?_
  refine q_val (v := .bool (decide ((0 : Int) < (k : Int)))) (wt0 rfl) rfl rfl (fun wx H => x_bin rfl rfl rfl b_gtr) ?_
  refine q_val (v := .bool (decide ((0 : Int) < (k : Int)))) (wt0 rfl) rfl rfl (fun wx H => x_move rfl rfl) ?_
  by_cases hb6 : (0 : Int) < (k : Int)
  ·
   refine q_val (v := .slice p n c) (wt1 rfl rfl rfl rfl (decide_eq_true hb6)) rfl rfl (fun wx H => x_move rfl rfl) ?_
   refine q_val (v := .int .i64 ((k : Int))) (wt1 rfl rfl rfl rfl (decide_eq_true hb6)) rfl rfl (fun wx H => x_move rfl rfl) ?_
   refine q_val (v := .pointer ((p).map fun q => q.add (k * 1))) (wt1 rfl rfl rfl rfl (decide_eq_true hb6)) rfl rfl (fun wx H => x_idxP k ((H5.rwReads (k := 0) rfl).some (by omega)) rfl rfl rfl Tryz.underlying24 sz3 (by omega)) ?_
   have hx7 : cur2[k]? = some (cur2.getD k 0) := by rw [List.getD_eq_getElem?_getD, List.getElem?_eq_getElem (by first | omega | (simp only [List.length_set]; omega))]; rfl
   refine q_val (v := .int .i64 ((cur2.getD k 0))) (wt1 rfl rfl rfl rfl (decide_eq_true hb6)) rfl rfl (fun wx H => x_loadR1 k (H.rwReads (k := 0) rfl) (by omega) rfl rfl Tryz.underlying3 rfl (intE.flAt1 hx7 rfl)) ?_
   refine q_val (v := .slice p n c) (wt1 rfl rfl rfl rfl (decide_eq_true hb6)) rfl rfl (fun wx H => x_move rfl rfl) ?_
   refine q_val (v := .int .i64 ((k : Int))) (wt1 rfl rfl rfl rfl (decide_eq_true hb6)) rfl rfl (fun wx H => x_move rfl rfl) ?_
   refine q_val (v := .int .i64 (((k - 1 : Nat) : Int))) (wt1 rfl rfl rfl rfl (decide_eq_true hb6)) rfl rfl (fun wx H => x_bin rfl rfl rfl (b_subN (a := k) (b := 1) (by omega))) ?_
   refine q_val (v := .pointer ((p).map fun q => q.add ((k - 1) * 1))) (wt1 rfl rfl rfl rfl (decide_eq_true hb6)) rfl rfl (fun wx H => x_idxP (k - 1) ((H5.rwReads (k := 0) rfl).some (by omega)) rfl rfl rfl Tryz.underlying24 sz3 (by omega)) ?_
   have hx8 : cur2[(k - 1)]? = some (cur2.getD (k - 1) 0) := by rw [List.getD_eq_getElem?_getD, List.getElem?_eq_getElem (by first | omega | (simp only [List.length_set]; omega))]; rfl
   refine q_val (v := .int .i64 ((cur2.getD (k - 1) 0))) (wt1 rfl rfl rfl rfl (decide_eq_true hb6)) rfl rfl (fun wx H => x_loadR1 (k - 1) (H.rwReads (k := 0) rfl) (by omega) rfl rfl Tryz.underlying3 rfl (intE.flAt1 hx8 rfl)) ?_
   refine q_val (v := .bool (decide (((cur2.getD k 0) : Int) < (cur2.getD (k - 1) 0)))) (wt1 rfl rfl rfl rfl (decide_eq_true hb6)) rfl rfl (fun wx H => x_bin rfl rfl rfl b_lss) ?_
   refine q_val (v := .bool (decide (((cur2.getD k 0) : Int) < (cur2.getD (k - 1) 0)))) (wt0 rfl) rfl rfl (fun wx H => x_pick_t rfl rfl (decide_eq_true hb6) rfl) ?_
   refine q_nil (fun wq9 H10 => ?_)
   refine g_then ?_
   by_cases hb11 : ((cur2.getD k 0) : Int) < (cur2.getD (k - 1) 0)
   ·
    refine g_cond_t rfl (decide_eq_true hb11) ?_
    refine g_skip ?_
    refine g_then ?_
    refine g_seq ?_
    refine g_block ?_
    refine g_anyY [] (fun wx => S wx [Rw 3 1 p n c (fl intL cur2), Old w (fps [Rw 3 1 p n c (fl intL l)])]) (fun wx => S wx [Old w (fps [Rw 3 1 p n c (fl intL l)])]) [15, 17] (by kernel_rfl) H10 (fun wq12 H13 => ?_)
    refine w_y 0 rfl (wt0 rfl) rfl rfl rfl (by kernel_rfl) (fun _ => x_move rfl rfl) ?_
    refine w_y 1 rfl (wt0 rfl) rfl rfl rfl (by kernel_rfl) (fun _ => x_move rfl rfl) ?_
    refine w_y 2 rfl (wt0 rfl) rfl rfl rfl (by kernel_rfl) (fun _ => x_move rfl rfl) ?_
    refine w_y 3 rfl (wt0 rfl) rfl rfl rfl (by kernel_rfl) (fun _ => x_move rfl rfl) ?_
    refine w_y (v := .int .i64 (((k - 1 : Nat) : Int))) 4 rfl (wt0 rfl) rfl rfl rfl (by kernel_rfl) (fun _ => x_bin rfl rfl rfl (b_subN (a := k) (b := 1) (by omega))) ?_
    refine w_y 5 rfl (wt0 rfl) rfl rfl rfl (by kernel_rfl) (fun _ => x_move rfl rfl) ?_
    refine w_y 6 rfl (wt0 rfl) rfl rfl rfl (by kernel_rfl) (fun _ => x_move rfl rfl) ?_
    refine w_y (v := .int .i64 (((k - 1 : Nat) : Int))) 7 rfl (wt0 rfl) rfl rfl rfl (by kernel_rfl) (fun _ => x_bin rfl rfl rfl (b_subN (a := k) (b := 1) (by omega))) ?_
    refine w_y (v := .pointer ((p).map fun q => q.add ((k - 1) * 1))) 8 rfl (wt0 rfl) rfl rfl rfl (by kernel_rfl) (fun _ => x_idxP (k - 1) ((H13.rwReads (k := 0) rfl).some (by omega)) rfl rfl rfl Tryz.underlying24 sz3 (by omega)) ?_
    have hx14 : cur2[(k - 1)]? = some (cur2.getD (k - 1) 0) := by rw [List.getD_eq_getElem?_getD, List.getElem?_eq_getElem (by first | omega | (simp only [List.length_set]; omega))]; rfl
    refine y_take (v := .int .i64 ((cur2.getD (k - 1) 0))) 9 rfl (wt0 rfl) rfl rfl rfl (by kernel_rfl) (by kernel_rfl) (by kernel_rfl) (by kernel_rfl) (by kernel_rfl) H13 (fun wx H => x_loadR1 (k - 1) (H.rwReads (k := 0) rfl) (by omega) rfl rfl Tryz.underlying3 rfl (intE.flAt1 hx14 rfl)) ?_
    refine w_y 10 rfl (wt0 rfl) rfl rfl rfl (by kernel_rfl) (fun _ => x_move rfl rfl) ?_
    refine w_y 11 rfl (wt0 rfl) rfl rfl rfl (by kernel_rfl) (fun _ => x_move rfl rfl) ?_
    refine w_y (v := .pointer ((p).map fun q => q.add (k * 1))) 12 rfl (wt0 rfl) rfl rfl rfl (by kernel_rfl) (fun _ => x_idxP k ((H13.rwReads (k := 0) rfl).some (by omega)) rfl rfl rfl Tryz.underlying24 sz3 (by omega)) ?_
    have hx15 : cur2[k]? = some (cur2.getD k 0) := by rw [List.getD_eq_getElem?_getD, List.getElem?_eq_getElem (by first | omega | (simp only [List.length_set]; omega))]; rfl
    refine y_take (v := .int .i64 ((cur2.getD k 0))) 13 rfl (wt0 rfl) rfl rfl rfl (by kernel_rfl) (by kernel_rfl) (by kernel_rfl) (by kernel_rfl) (by kernel_rfl) H13 (fun wx H => x_loadR1 k (H.rwReads (k := 0) rfl) (by omega) rfl rfl Tryz.underlying3 rfl (intE.flAt1 hx15 rfl)) ?_
    refine w_y (v := .pointer ((p).map fun q => q.add (k * 1))) 14 rfl (wt0 rfl) rfl rfl rfl (by kernel_rfl) (fun _ => x_idxP k ((H13.rwReads (k := 0) rfl).some (by omega)) rfl rfl rfl Tryz.underlying24 sz3 (by omega)) ?_
    refine y_one (i := 15) (by kernel_rfl) rfl ?_
    refine s_stoL (j := k) intE (cur2.getD (k - 1) 0) H13 0 (wt0 rfl) rfl rfl rfl rfl rfl rfl sz3 (by omega) ?_
    intro wq16 H17
    refine y_kt rfl (H17.mask [false, true]) ?_
    refine w_y (v := .pointer ((p).map fun q => q.add ((k - 1) * 1))) 16 rfl (wt0 rfl) rfl rfl rfl (by kernel_rfl) (fun _ => x_idxP (k - 1) ((H17.rwReads (k := 0) rfl).some (by omega)) rfl rfl rfl Tryz.underlying24 sz3 (by omega)) ?_
    refine y_one (i := 17) (by kernel_rfl) rfl ?_
    refine s_stoL (j := (k - 1)) intE (cur2.getD k 0) H17 0 (wt0 rfl) rfl rfl rfl rfl rfl rfl sz3 (by omega) ?_
    intro wq18 H19
    refine y_kt rfl (H19.mask [false, true]) ?_
    refine y_done (by kernel_rfl) ?_
    refine g_in ?_
    refine g_then ?_
    refine g_weak [(0, .slice p n c), (4, .int .i64 ((k : Int))), (6, .int .i64 ((n : Int))), (7, .int .i64 ((i : Int))), (14, .slice p n c), (15, .int .i64 ((k : Int))), (16, .pointer ((p).map fun q => q.add (k * 1))), (17, .int .i64 ((cur2.getD k 0))), (18, .slice p n c), (19, .int .i64 ((k : Int))), (20, .int .i64 (((k - 1 : Nat) : Int))), (21, .pointer ((p).map fun q => q.add ((k - 1) * 1))), (22, .int .i64 ((cur2.getD (k - 1) 0))), (23, .bool (decide (((cur2.getD k 0) : Int) < (cur2.getD (k - 1) 0))))] ⟨rfl, rfl, rfl, rfl, rfl, rfl, rfl, rfl, rfl, rfl, rfl, rfl, rfl, rfl, trivial⟩ ?_
    refine g_region ?_
    refine w_m ?_
    refine w_b (v := .int .i64 (((k - 1 : Nat) : Int))) (hb := (b_subN (a := k) (b := 1) (by omega))) ?_
    refine w_a ?_
    refine w_e ?_
    refine g_round (i := (k, cur2)) ((k - 1), ((cur2.set k (cur2.getD (k - 1) 0)).set (k - 1) (cur2.getD k 0))) ?_ ?_ ?_
    · exact ⟨rfl, rfl, rfl, rfl, trivial⟩
    · exact ⟨by omega, (by simp only [List.length_set]; exact hcl2), (hA.go (by omega) hk (by omega) hb11), (H19.takes [0, 1] (by decide))⟩
    · (try dsimp only); omega
   ·
    refine g_cond_f rfl (decide_eq_false hb11) ?_
    refine g_exit ?_
    have hwhy : k = 0 ∨ ¬ cur2.getD k 0 < cur2.getD (k - 1) 0 := (.inr hb11)
    refine g_then_exit ?_
    refine g_then_exit ?_
    refine g_in_hit ?_
    refine g_in ?_
    refine g_then ?_
    refine g_region ?_
    refine w_b (v := .int .i64 (((i + 1 : Nat) : Int))) (hb := (b_add (by rw [w64 (by omega)]; omega))) ?_
    refine w_m ?_
    refine w_e ?_
    refine g_round (i := (i, cur)) ((i + 1), cur2) ?_ ?_ ?_
    · exact ⟨rfl, rfl, rfl, trivial⟩
    · exact ⟨by omega, hcl2, hA.perm, (hA.stop hk hwhy), (H10.takes [0, 1] (by decide))⟩
    · (try dsimp only); omega
  ·
   refine q_not (wn1 rfl rfl rfl rfl (decide_eq_false hb6)) rfl rfl ?_
   refine q_not (wn1 rfl rfl rfl rfl (decide_eq_false hb6)) rfl rfl ?_
   refine q_not (wn1 rfl rfl rfl rfl (decide_eq_false hb6)) rfl rfl ?_
   refine q_not (wn1 rfl rfl rfl rfl (decide_eq_false hb6)) rfl rfl ?_
   refine q_not (wn1 rfl rfl rfl rfl (decide_eq_false hb6)) rfl rfl ?_
   refine q_not (wn1 rfl rfl rfl rfl (decide_eq_false hb6)) rfl rfl ?_
   refine q_not (wn1 rfl rfl rfl rfl (decide_eq_false hb6)) rfl rfl ?_
   refine q_not (wn1 rfl rfl rfl rfl (decide_eq_false hb6)) rfl rfl ?_
   refine q_not (wn1 rfl rfl rfl rfl (decide_eq_false hb6)) rfl rfl ?_
   refine q_not (wn1 rfl rfl rfl rfl (decide_eq_false hb6)) rfl rfl ?_
   refine q_val (v := .bool false) (wt0 rfl) rfl rfl (fun wx H => x_pick_f rfl rfl (decide_eq_false hb6) rfl) ?_
   refine q_nil (fun wq20 H21 => ?_)
   refine g_then ?_
   refine g_cond_f rfl rfl ?_
   refine g_exit ?_
   have hwhy : k = 0 ∨ ¬ cur2.getD k 0 < cur2.getD (k - 1) 0 := (.inl (by omega))
   refine g_then_exit ?_
   refine g_then_exit ?_
   refine g_in_hit ?_
   refine g_in ?_
   refine g_then ?_
   refine g_region ?_
   refine w_b (v := .int .i64 (((i + 1 : Nat) : Int))) (hb := (b_add (by rw [w64 (by omega)]; omega))) ?_
   refine w_m ?_
   refine w_e ?_
   refine g_round (i := (i, cur)) ((i + 1), cur2) ?_ ?_ ?_
   · exact ⟨rfl, rfl, rfl, trivial⟩
   · exact ⟨by omega, hcl2, hA.perm, (hA.stop hk hwhy), (H21.takes [0, 1] (by decide))⟩
   · (try dsimp only); omega
 ·
  refine g_cond_f rfl (decide_eq_false hb3) ?_
  refine g_exit ?_
  refine g_then_exit ?_
  refine g_then_exit ?_
  refine g_in_hit ?_
  refine g_then ?_
  refine w_s ?_
  refine w_r2 ?_
  refine w_e ?_
  refine g_ret ?_
  refine fin_ret [.tmp 2] [.slice p n c] rfl ⟨rfl, trivial⟩ ?_
  have hin : i = n := by omega
  have hd : cur = sortI l := asc_done hpm (by rw [hcl, ← hin]; exact hso)
  exact ⟨rfl, by rw [← hd]; exact H2.takes [0, 1] (by decide)⟩
set_option maxRecDepth 20000 in
set_option maxHeartbeats 4000000 in
theorem ids_s (l : List Rv) (p : Option Addr) (n c : Nat) (hn2 : n ≤ 1000000)  (w : World) (hr : Reads w p n c 10 (fl rvL l)) : Calls Tryz.prog 31 #[.slice p n c] w fun e w' => ∃ p' c', e = .returned (.slice p' (sortI (l.map Rv.id)).length c') ∧ S w' ([Rw 3 1 p' (sortI (l.map Rv.id)).length c' (fl intL (sortI (l.map Rv.id)))] ++ [Old w no]) := by
 have H0 := S.old w
 have hnl := hr.lenL rvE
 refine enter 21 Tryz.func31 rfl rfl rfl ?_
 refine g_weak [(0, .slice p n c)] ⟨rfl, trivial⟩ ?_
 refine w_s ?_
 refine w_a ?_
 refine w_e ?_
 refine w_s ?_
 have H1 := H0.nilFl 3 1 intL
 refine w_a ?_
 refine w_e ?_
 refine g_seq ?_
 refine w_s ?_
 refine w_m ?_
 refine w_v (v := .int .i64 ((n : Int))) (x_lenl rfl rfl Tryz.underlying22) ?_
 refine w_m ?_
 refine w_e ?_
 refine g_block ?_
 refine g_loop (ι := Nat × Option Addr × Nat) (fun (i, po, co) => [(3, .slice po i co), (6, .slice p n c), (7, .int .i64 ((n : Int))), (8, .int .i64 ((i : Int)))]) (fun (i, po, co) wx => (i ≤ n) ∧ S wx [Rw 3 1 po i co (fl intL ((l.take i).map Rv.id)), Old w no]) (fun (i, po, co) => n - i) (0, none, 0) ⟨rfl, rfl, rfl, rfl, trivial⟩ ⟨Nat.zero_le _, (by rw [List.take_zero, List.map_nil]; exact H1.takes [0, 1] (by decide))⟩ ?_
 rintro ⟨i, po, co⟩ wq2 ⟨hi, H3⟩
 refine g_weak [(3, .slice po i co), (6, .slice p n c), (7, .int .i64 ((n : Int))), (8, .int .i64 ((i : Int)))] ⟨rfl, rfl, rfl, rfl, trivial⟩ ?_
 refine w_s ?_
 refine w_b ?_
 refine w_e ?_
 refine g_seq ?_
 by_cases hb4 : ((i : Int) : Int) < (n : Int)
 ·
  refine g_cond_t rfl (decide_eq_true hb4) ?_
  refine g_skip ?_
  refine g_then ?_
  refine g_seq ?_
  refine g_block ?_
  refine w_s ?_
  refine w_v (v := .pointer ((p).map fun q => q.add (i * 10))) (x_idxR i (H3.exReads (k := 1) rfl hr (fun _ _ _ h => h)) rfl rfl rfl Tryz.underlying22 sz30 (by omega)) ?_
  have hlq := (H3.exReads (k := 1) rfl hr (fun _ _ _ h => h)).lenL rvE
  obtain ⟨x5, hx5⟩ := ex_at (l := l) (j := i) (by omega)
  clear hlq
  refine w_v (v := .agg #[.int .i64 (x5.id), .bool x5.intr, .bool x5.chk, .int .i64 (x5.frm), .int .i64 (x5.to), .int .i64 (x5.lt), .int .i64 (x5.since), .bool x5.snb, .bool x5.now, .bool x5.seed]) (x_loadRA (vs := rvL x5) i (H3.exReads (k := 1) rfl hr (fun _ _ _ h => h)) (by omega) rfl rfl Tryz.underlying30 rfl sz30 (by rfl) (rvE.flAt hx5)) ?_
  refine l_of (s_alloc H3 (wt0 rfl) rfl rfl rfl ze30 ?_)
  intro g6 wq7 H8
  refine l_of (w_st #[.int .i64 (x5.id), .bool x5.intr, .bool x5.chk, .int .i64 (x5.frm), .int .i64 (x5.to), .int .i64 (x5.lt), .int .i64 (x5.since), .bool x5.snb, .bool x5.now, .bool x5.seed] H8 0 ?_)
  intro wq9 H10
  refine w_e ?_
  refine g_region ?_
  refine w_r2 ?_
  refine w_1 H10 0 ?_
  refine l_of (s_buildSlice H10 (wt0 rfl) rfl rfl rfl (vs := [.int .i64 (x5.id)]) rfl Tryz.underlying24 sz3 ze3 rfl rfl (cells := #[.int .i64 (x5.id)]) (by kernel_rfl) ?_)
  intro g11 wq12 H13
  refine l_of (s_appB (m := 1) (l := ((l.take i).map Rv.id)) (l2 := [x5.id]) intE H13 2 (j0 := 0) rfl rfl ⟨rfl, Nat.le_refl _⟩ (wt0 rfl) rfl rfl rfl rfl rfl rfl Tryz.underlying24 inf3 rfl (by decide) (by omega) ?_)
  intro p14 c15 wq16 H17
  refine w_a ?_
  refine g_nil ?_
  refine g_in ?_
  refine g_then ?_
  refine g_region ?_
  refine w_b (v := .int .i64 (((i + 1 : Nat) : Int))) (hb := (b_add (by rw [w64 (by omega)]; omega))) ?_
  refine w_m ?_
  refine w_e ?_
  refine g_round (i := (i, po, co)) ((i + 1), p14, c15) ?_ ?_ ?_
  · exact ⟨rfl, rfl, rfl, rfl, trivial⟩
  · exact ⟨by omega, (by rw [take_snocL hx5, List.map_append]; exact H17.takes [2, 3] (by decide))⟩
  · (try dsimp only); omega
 ·
  refine g_cond_f rfl (decide_eq_false hb4) ?_
  refine g_exit ?_
  refine g_then_exit ?_
  refine g_then_exit ?_
  refine g_in_hit ?_
  refine g_then ?_
  refine w_s ?_
  refine w_m ?_
  refine l_of (s_call (wt0 rfl) (x_call' rfl rfl cl45) (sortZ ((l.take i).map Rv.id) po i co (by rw [List.length_map, List.length_take]; omega) (by omega) _ (H3.takes [0] (by decide))) ?_)
  rintro _ wq18 ⟨rfl, H19⟩
  replace H19 : S wq18 [Rw 3 1 po i co (fl intL (sortI ((l.take i).map Rv.id))), Old w no] := by have h := H3.absorbI [0] H19; exact h
  refine b_ret rfl rfl ?_
  refine w_e ?_
  refine w_s ?_
  refine w_r2 ?_
  refine w_e ?_
  refine g_ret ?_
  refine fin_ret [.tmp 2] [.slice po i co] rfl ⟨rfl, trivial⟩ ?_
  have hsl : (sortI (l.map Rv.id)).length = i := by rw [sortI_len, List.length_map]; omega
  have htk : l.take i = l := List.take_of_length_le (by omega)
  rw [htk] at H19
  exact ⟨_, _, by rw [hsl]; rfl, by rw [hsl]; exact H19.takes [0, 1] (by decide)⟩
set_option maxRecDepth 20000 in
set_option maxHeartbeats 4000000 in
theorem has1_s (b : Nat) (r x : Rv)  (w : World) (HS : S w [Ob b (.cells #[.int .i64 (r.id), .bool r.intr, .bool r.chk, .int .i64 (r.frm), .int .i64 (r.to), .int .i64 (r.lt), .int .i64 (r.since), .bool r.snb, .bool r.now, .bool r.seed] 30 (0, 0))]) : Calls Tryz.prog 44 #[.agg #[.int .i64 (x.id), .bool x.intr, .bool x.chk, .int .i64 (x.frm), .int .i64 (x.to), .int .i64 (x.lt), .int .i64 (x.since), .bool x.snb, .bool x.now, .bool x.seed], .pointer (some ⟨b, 0, none⟩)] w fun e w' => e = .returned (.bool (decide (x.id = r.id))) ∧ S w' ([Ob b (.cells #[.int .i64 (r.id), .bool r.intr, .bool r.chk, .int .i64 (r.frm), .int .i64 (r.to), .int .i64 (r.lt), .int .i64 (r.since), .bool r.snb, .bool r.now, .bool r.seed] 30 (0, 0))] ++ [Old w (fps [Ob b (.cells #[.int .i64 (r.id), .bool r.intr, .bool r.chk, .int .i64 (r.frm), .int .i64 (r.to), .int .i64 (r.lt), .int .i64 (r.since), .bool r.snb, .bool r.now, .bool r.seed] 30 (0, 0))])]) := by
 have H0 := HS.beginI
 refine enter 9 Tryz.func44 rfl rfl rfl ?_
 refine g_weak [(0, .agg #[.int .i64 (x.id), .bool x.intr, .bool x.chk, .int .i64 (x.frm), .int .i64 (x.to), .int .i64 (x.lt), .int .i64 (x.since), .bool x.snb, .bool x.now, .bool x.seed]), (1, .pointer (some ⟨b, 0, none⟩))] ⟨rfl, rfl, trivial⟩ ?_
 refine w_s ?_
 refine l_of (s_box H0 (wt0 rfl) rfl rfl rfl rfl ?_)
 intro g1 wq2 H3
 refine w_a ?_
 refine w_e ?_
 refine w_s ?_
 refine w_f 0 ?_
 refine w_1 H3 0 ?_
 refine w_f 0 ?_
 refine w_1 H3 1 ?_
 refine w_b ?_
 refine w_a ?_
 refine w_e ?_
 refine g_ret ?_
 refine fin_ret [.tmp 3] [.bool (decide ((x.id : Int) = r.id))] rfl ⟨rfl, trivial⟩ ?_
 exact ⟨rfl, H3.takes [1, 2] (by decide)⟩
theorem has1_f (b : Nat) (r : Rv) : FunC Tryz.prog 44 #[] #[.pointer (some ⟨b, 0, none⟩)] (Big [Ob b (.cells #[.int .i64 (r.id), .bool r.intr, .bool r.chk, .int .i64 (r.frm), .int .i64 (r.to), .int .i64 (r.lt), .int .i64 (r.since), .bool r.snb, .bool r.now, .bool r.seed] 30 (0, 0))]) (fun x : Rv => [x.v]) (fun x => .bool ((fun x : Rv => decide (x.id = r.id)) x)) (fun _ => True) :=
  FunC.ofBig (by kernel_rfl) fun x _ w HS => has1_s b r x w HS
set_option maxRecDepth 20000 in
set_option maxHeartbeats 4000000 in
theorem has_s (l : List Rv) (p : Option Addr) (n c : Nat) (hn : n ≤ 9223372036854775807) (r : Rv)  (w : World) (hr : Reads w p n c 10 (fl rvL l)) : Calls Tryz.prog 30 #[.slice p n c, .agg #[.int .i64 (r.id), .bool r.intr, .bool r.chk, .int .i64 (r.frm), .int .i64 (r.to), .int .i64 (r.lt), .int .i64 (r.since), .bool r.snb, .bool r.now, .bool r.seed]] w fun e w' => e = .returned (.bool (decide (r.id ∈ l.map Rv.id))) ∧ S w' [Old w no] := by
 have H0 := S.old w
 refine enter 8 Tryz.func30 rfl rfl rfl ?_
 refine g_weak [(0, .slice p n c), (1, .agg #[.int .i64 (r.id), .bool r.intr, .bool r.chk, .int .i64 (r.frm), .int .i64 (r.to), .int .i64 (r.lt), .int .i64 (r.since), .bool r.snb, .bool r.now, .bool r.seed])] ⟨rfl, rfl, trivial⟩ ?_
 refine w_s ?_
 refine l_of (s_box H0 (wt0 rfl) rfl rfl rfl rfl ?_)
 intro g1 wq2 H3
 refine w_a ?_
 refine w_e ?_
 refine w_s ?_
 refine w_m ?_
 refine w_v (v := .func (.func 44) #[] #[.pointer (some ⟨g1, 0, none⟩)]) (x_makeFunc rfl rfl rfl) ?_
 have H4 : S wq2 [(Big [Ob g1 (.cells #[.int .i64 (r.id), .bool r.intr, .bool r.chk, .int .i64 (r.frm), .int .i64 (r.to), .int .i64 (r.lt), .int .i64 (r.since), .bool r.snb, .bool r.now, .bool r.seed] 30 (0, 0))]), Old w no] := S.big (L := [Ob g1 (.cells #[.int .i64 (r.id), .bool r.intr, .bool r.chk, .int .i64 (r.frm), .int .i64 (r.to), .int .i64 (r.lt), .int .i64 (r.since), .bool r.snb, .bool r.now, .bool r.seed] 30 (0, 0))]) (H3.takes [0, 1] (by decide))
 refine l_of (s_call (wt0 rfl) (x_call' rfl rfl cl28) (contF_r l p n c hn (fun x : Rv => decide (x.id = r.id)) 44 #[] #[.pointer (some ⟨g1, 0, none⟩)] (Big [Ob g1 (.cells #[.int .i64 (r.id), .bool r.intr, .bool r.chk, .int .i64 (r.frm), .int .i64 (r.to), .int .i64 (r.lt), .int .i64 (r.since), .bool r.snb, .bool r.now, .bool r.seed] 30 (0, 0))]) (fun _ => True) (has1_f g1 r) (fun _ _ => trivial) _ (H4.takes [0] (by decide)) (H4.exReads (k := 1) rfl hr (fun _ _ _ h => h)) (H4.apartOld (i := 1) (k := 0) rfl rfl (by decide) hr (by decide) (fun _ _ _ h => h))) ?_)
 rintro _ wq5 ⟨rfl, H6⟩
 replace H6 : S wq5 [(Big [Ob g1 (.cells #[.int .i64 (r.id), .bool r.intr, .bool r.chk, .int .i64 (r.frm), .int .i64 (r.to), .int .i64 (r.lt), .int .i64 (r.since), .bool r.snb, .bool r.now, .bool r.seed] 30 (0, 0))]), Old w no] := by have h := H4.absorbI [0] H6; exact h
 refine b_ret rfl rfl ?_
 refine w_a ?_
 refine w_e ?_
 refine g_ret ?_
 refine fin_ret [.tmp 4] [.bool ((l.any (fun x : Rv => decide (x.id = r.id))))] rfl ⟨rfl, trivial⟩ ?_
 have hb : l.any (fun x : Rv => decide (x.id = r.id)) = decide (r.id ∈ l.map Rv.id) := by rw [Bool.eq_iff_iff, List.any_eq_true, decide_eq_true_iff, List.mem_map]; exact ⟨fun ⟨x, h1, h2⟩ => ⟨x, h1, of_decide_eq_true h2⟩, fun ⟨x, h1, h2⟩ => ⟨x, h1, decide_eq_true h2⟩⟩
 exact ⟨by rw [hb]; rfl, H6.mask [false, true]⟩
set_option maxRecDepth 20000 in
set_option maxHeartbeats 4000000 in
theorem valid1_s (x y : Int)  (w : World) : Calls Tryz.prog 26 #[.int .i64 x, .int .i64 y] w fun e w' => e = .returned (.bool (decide (y ≤ x) && decide (x ≤ 1000000000))) ∧ S w' [Old w no] := by
 have H0 := S.old w
 refine enter 12 Tryz.func26 rfl rfl rfl ?_
 refine g_weak [(0, .int .i64 x), (1, .int .i64 y)] ⟨rfl, rfl, trivial⟩ ?_
 refine w_s ?_
 refine w_a ?_
 refine w_e ?_
 refine w_s ?_
 refine w_r2 ?_
 refine w_b ?_
 refine w_m ?_
 by_cases hb1 : (y : Int) ≤ x
 ·
  refine w_g (decide_eq_true hb1) xm ?_
  refine w_g (decide_eq_true hb1) (x_bin rfl rfl rfl b_leq) ?_
  refine w_v (v := .bool (decide ((x : Int) ≤ 1000000000))) (x_pick_t rfl rfl (decide_eq_true hb1) rfl) ?_
  refine w_a ?_
  refine w_e ?_
  refine g_ret ?_
  refine fin_ret [.tmp 4] [.bool (decide ((x : Int) ≤ 1000000000))] rfl ⟨rfl, trivial⟩ ?_
  exact ⟨by simp [hb1, tupled], H0.mask [true]⟩
 ·
  refine w_n (decide_eq_false hb1) ?_
  refine w_n (decide_eq_false hb1) ?_
  refine w_v (v := .bool false) (x_pick_f rfl rfl (decide_eq_false hb1) rfl) ?_
  refine w_a ?_
  refine w_e ?_
  refine g_ret ?_
  refine fin_ret [.tmp 4] [.bool false] rfl ⟨rfl, trivial⟩ ?_
  exact ⟨by simp [hb1, tupled], H0.mask [true]⟩
set_option maxRecDepth 20000 in
set_option maxHeartbeats 4000000 in
theorem number_r (x : Int)  (w : World) : Calls Tryz.prog 27 #[.int .i64 x] w fun e w' => e = .returned (.bool (numB x)) ∧ S w' [Old w no] := by
 have H0 := S.old w
 refine enter 9 Tryz.func27 rfl rfl rfl ?_
 refine g_weak [(0, .int .i64 x)] ⟨rfl, trivial⟩ ?_
 refine w_s ?_
 refine w_a ?_
 refine w_e ?_
 refine w_s ?_
 refine w_m ?_
 refine w_b ?_
 refine w_m ?_
 by_cases hb1 : (0 : Int) ≤ x
 ·
  refine w_g (decide_eq_true hb1) xm ?_
  refine w_g (decide_eq_true hb1) (x_bin rfl rfl rfl b_leq) ?_
  refine w_v (v := .bool (decide ((x : Int) ≤ 1000000000))) (x_pick_t rfl rfl (decide_eq_true hb1) rfl) ?_
  refine w_a ?_
  refine w_e ?_
  refine g_ret ?_
  refine fin_ret [.tmp 2] [.bool (decide ((x : Int) ≤ 1000000000))] rfl ⟨rfl, trivial⟩ ?_
  exact ⟨by unfold numB; simp [hb1, tupled], H0.mask [true]⟩
 ·
  refine w_n (decide_eq_false hb1) ?_
  refine w_n (decide_eq_false hb1) ?_
  refine w_v (v := .bool false) (x_pick_f rfl rfl (decide_eq_false hb1) rfl) ?_
  refine w_a ?_
  refine w_e ?_
  refine g_ret ?_
  refine fin_ret [.tmp 2] [.bool false] rfl ⟨rfl, trivial⟩ ?_
  exact ⟨by unfold numB; simp [hb1, tupled], H0.mask [true]⟩
set_option maxRecDepth 20000 in
set_option maxHeartbeats 4000000 in
theorem valid_s (x : Rv)  (w : World) : Calls Tryz.prog 14 #[.agg #[.int .i64 (x.id), .bool x.intr, .bool x.chk, .int .i64 (x.frm), .int .i64 (x.to), .int .i64 (x.lt), .int .i64 (x.since), .bool x.snb, .bool x.now, .bool x.seed]] w fun e w' => e = .returned (.bool (validR x)) ∧ S w' [Old w no] := by
 have H0 := S.old w
 refine enter 32 Tryz.func14 rfl rfl rfl ?_
 refine g_weak [(0, .agg #[.int .i64 (x.id), .bool x.intr, .bool x.chk, .int .i64 (x.frm), .int .i64 (x.to), .int .i64 (x.lt), .int .i64 (x.since), .bool x.snb, .bool x.now, .bool x.seed])] ⟨rfl, trivial⟩ ?_
 refine w_s ?_
 refine l_of (s_box H0 (wt0 rfl) rfl rfl rfl rfl ?_)
 intro g1 wq2 H3
 refine w_a ?_
 refine w_e ?_
 refine w_s ?_
 refine w_a ?_
 refine w_e ?_
 refine w_s ?_
 refine w_r2 ?_
 refine w_1 H3 0 ?_
 refine l_of (s_call0 H3 (wt0 rfl) (x_call rfl rfl rfl cl26) (valid1_s x.id 0 _) rfl rfl ?_)
 intro wq4 H5
 refine w_m ?_
 rcases Bool.eq_false_or_eq_true ((decide (0 ≤ x.id) && decide (x.id ≤ 1000000000))) with hb6 | hb6
 ·
  refine w_g hb6 xm ?_
  refine w_g hb6 (xf 3) ?_
  refine w_g hb6 (xl H5 0) ?_
  refine l_of (s_call0 H5 (wt1 rfl rfl rfl rfl hb6) (x_call rfl rfl rfl cl26) (valid1_s x.frm 0 _) rfl rfl ?_)
  intro wq7 H8
  refine w_v (v := .bool ((decide (0 ≤ x.frm) && decide (x.frm ≤ 1000000000)))) (x_pick_t rfl rfl hb6 rfl) ?_
  refine w_m ?_
  rcases Bool.eq_false_or_eq_true ((decide (0 ≤ x.frm) && decide (x.frm ≤ 1000000000))) with hb9 | hb9
  ·
   refine w_g hb9 xm ?_
   refine w_g hb9 (xf 4) ?_
   refine w_g hb9 (xl H8 0) ?_
   refine l_of (s_call0 H8 (wt1 rfl rfl rfl rfl hb9) (x_call rfl rfl rfl cl26) (valid1_s x.to 0 _) rfl rfl ?_)
   intro wq10 H11
   refine w_v (v := .bool ((decide (0 ≤ x.to) && decide (x.to ≤ 1000000000)))) (x_pick_t rfl rfl hb9 rfl) ?_
   refine w_m ?_
   rcases Bool.eq_false_or_eq_true ((decide (0 ≤ x.to) && decide (x.to ≤ 1000000000))) with hb12 | hb12
   ·
    refine w_g hb12 xm ?_
    refine w_g hb12 (xf 5) ?_
    refine w_g hb12 (xl H11 0) ?_
    refine l_of (s_call0 H11 (wt1 rfl rfl rfl rfl hb12) (x_call rfl rfl rfl cl26) (valid1_s x.lt (-1) _) rfl rfl ?_)
    intro wq13 H14
    refine w_v (v := .bool ((decide (-1 ≤ x.lt) && decide (x.lt ≤ 1000000000)))) (x_pick_t rfl rfl hb12 rfl) ?_
    refine w_m ?_
    rcases Bool.eq_false_or_eq_true ((decide (-1 ≤ x.lt) && decide (x.lt ≤ 1000000000))) with hb15 | hb15
    ·
     refine w_g hb15 xm ?_
     refine w_g hb15 (xf 6) ?_
     refine w_g hb15 (xl H14 0) ?_
     refine l_of (s_call0 H14 (wt1 rfl rfl rfl rfl hb15) (x_call rfl rfl rfl cl26) (valid1_s x.since 0 _) rfl rfl ?_)
     intro wq16 H17
     refine w_v (v := .bool ((decide (0 ≤ x.since) && decide (x.since ≤ 1000000000)))) (x_pick_t rfl rfl hb15 rfl) ?_
     refine w_a ?_
     refine w_e ?_
     refine g_weak [(2, .bool ((decide (0 ≤ x.since) && decide (x.since ≤ 1000000000))))] ⟨rfl, trivial⟩ ?_
     refine g_ret ?_
     refine fin_ret [.tmp 2] [.bool ((decide (0 ≤ x.since) && decide (x.since ≤ 1000000000)))] rfl ⟨rfl, trivial⟩ ?_
     exact ⟨by unfold validR; try unfold numB at *; simp [hb6, hb9, hb12, hb15, tupled, Bool.and_assoc], H17.mask [false, true]⟩
    ·
     refine w_n hb15 ?_
     refine w_n hb15 ?_
     refine w_n hb15 ?_
     refine w_n hb15 ?_
     refine w_v (v := .bool false) (x_pick_f rfl rfl hb15 rfl) ?_
     refine w_a ?_
     refine w_e ?_
     refine g_weak [(2, .bool false)] ⟨rfl, trivial⟩ ?_
     refine g_ret ?_
     refine fin_ret [.tmp 2] [.bool false] rfl ⟨rfl, trivial⟩ ?_
     exact ⟨by unfold validR; try unfold numB at *; simp [hb6, hb9, hb12, hb15, tupled, Bool.and_assoc], H14.mask [false, true]⟩
   ·
    refine w_n hb12 ?_
    refine w_n hb12 ?_
    refine w_n hb12 ?_
    refine w_n hb12 ?_
    refine w_v (v := .bool false) (x_pick_f rfl rfl hb12 rfl) ?_
    refine w_m ?_
    refine w_n rfl ?_
    refine w_n rfl ?_
    refine w_n rfl ?_
    refine w_n rfl ?_
    refine w_v (v := .bool false) (x_pick_f rfl rfl rfl rfl) ?_
    refine w_a ?_
    refine w_e ?_
    refine g_weak [(2, .bool false)] ⟨rfl, trivial⟩ ?_
    refine g_ret ?_
    refine fin_ret [.tmp 2] [.bool false] rfl ⟨rfl, trivial⟩ ?_
    exact ⟨by unfold validR; try unfold numB at *; simp [hb6, hb9, hb12, tupled, Bool.and_assoc], H11.mask [false, true]⟩
  ·
   refine w_n hb9 ?_
   refine w_n hb9 ?_
   refine w_n hb9 ?_
   refine w_n hb9 ?_
   refine w_v (v := .bool false) (x_pick_f rfl rfl hb9 rfl) ?_
   refine w_m ?_
   refine w_n rfl ?_
   refine w_n rfl ?_
   refine w_n rfl ?_
   refine w_n rfl ?_
   refine w_v (v := .bool false) (x_pick_f rfl rfl rfl rfl) ?_
   refine w_m ?_
   refine w_n rfl ?_
   refine w_n rfl ?_
   refine w_n rfl ?_
   refine w_n rfl ?_
   refine w_v (v := .bool false) (x_pick_f rfl rfl rfl rfl) ?_
   refine w_a ?_
   refine w_e ?_
   refine g_weak [(2, .bool false)] ⟨rfl, trivial⟩ ?_
   refine g_ret ?_
   refine fin_ret [.tmp 2] [.bool false] rfl ⟨rfl, trivial⟩ ?_
   exact ⟨by unfold validR; try unfold numB at *; simp [hb6, hb9, tupled, Bool.and_assoc], H8.mask [false, true]⟩
 ·
  refine w_n hb6 ?_
  refine w_n hb6 ?_
  refine w_n hb6 ?_
  refine w_n hb6 ?_
  refine w_v (v := .bool false) (x_pick_f rfl rfl hb6 rfl) ?_
  refine w_m ?_
  refine w_n rfl ?_
  refine w_n rfl ?_
  refine w_n rfl ?_
  refine w_n rfl ?_
  refine w_v (v := .bool false) (x_pick_f rfl rfl rfl rfl) ?_
  refine w_m ?_
  refine w_n rfl ?_
  refine w_n rfl ?_
  refine w_n rfl ?_
  refine w_n rfl ?_
  refine w_v (v := .bool false) (x_pick_f rfl rfl rfl rfl) ?_
  refine w_m ?_
  refine w_n rfl ?_
  refine w_n rfl ?_
  refine w_n rfl ?_
  refine w_n rfl ?_
  refine w_v (v := .bool false) (x_pick_f rfl rfl rfl rfl) ?_
  refine w_a ?_
  refine w_e ?_
  refine g_weak [(2, .bool false)] ⟨rfl, trivial⟩ ?_
  refine g_ret ?_
  refine fin_ret [.tmp 2] [.bool false] rfl ⟨rfl, trivial⟩ ?_
  exact ⟨by unfold validR; try unfold numB at *; simp [hb6, tupled, Bool.and_assoc], H5.mask [false, true]⟩
set_option maxRecDepth 20000 in
set_option maxHeartbeats 4000000 in
theorem valid_r (x : Rv)  (w : World) : Calls Tryz.prog 15 #[.agg #[.int .i64 (x.id), .bool x.intr, .bool x.chk, .int .i64 (x.frm), .int .i64 (x.to), .int .i64 (x.lt), .int .i64 (x.since), .bool x.snb, .bool x.now, .bool x.seed]] w fun e w' => e = .returned (.bool (validR x)) ∧ S w' [Old w no] := by
 have H0 := S.old w
 refine enter 31 Tryz.func15 rfl rfl rfl ?_
 refine g_weak [(0, .agg #[.int .i64 (x.id), .bool x.intr, .bool x.chk, .int .i64 (x.frm), .int .i64 (x.to), .int .i64 (x.lt), .int .i64 (x.since), .bool x.snb, .bool x.now, .bool x.seed])] ⟨rfl, trivial⟩ ?_
 refine w_s ?_
 refine l_of (s_box H0 (wt0 rfl) rfl rfl rfl rfl ?_)
 intro g1 wq2 H3
 refine w_a ?_
 refine w_e ?_
 refine w_s ?_
 refine w_f 0 ?_
 refine w_1 H3 0 ?_
 refine l_of (s_call0 H3 (wt0 rfl) (x_call' rfl rfl cl27) (number_r x.id _) rfl rfl ?_)
 intro wq4 H5
 refine w_m ?_
 rcases Bool.eq_false_or_eq_true ((numB x.id)) with hb6 | hb6
 ·
  refine w_g hb6 (xf 3) ?_
  refine w_g hb6 (xl H5 0) ?_
  refine l_of (s_call0 H5 (wt1 rfl rfl rfl rfl hb6) (x_call' rfl rfl cl27) (number_r x.frm _) rfl rfl ?_)
  intro wq7 H8
  refine w_v (v := .bool ((numB x.frm))) (x_pick_t rfl rfl hb6 rfl) ?_
  refine w_m ?_
  rcases Bool.eq_false_or_eq_true ((numB x.frm)) with hb9 | hb9
  ·
   refine w_g hb9 (xf 4) ?_
   refine w_g hb9 (xl H8 0) ?_
   refine l_of (s_call0 H8 (wt1 rfl rfl rfl rfl hb9) (x_call' rfl rfl cl27) (number_r x.to _) rfl rfl ?_)
   intro wq10 H11
   refine w_v (v := .bool ((numB x.to))) (x_pick_t rfl rfl hb9 rfl) ?_
   refine w_m ?_
   rcases Bool.eq_false_or_eq_true ((numB x.to)) with hb12 | hb12
   ·
    refine w_g hb12 (xf 5) ?_
    refine w_g hb12 (xl H11 0) ?_
    refine w_g hb12 (x_bin rfl rfl rfl b_geq) ?_
    refine w_v (v := .bool (decide ((-1 : Int) ≤ x.lt))) (x_pick_t rfl rfl hb12 rfl) ?_
    refine w_m ?_
    by_cases hb13 : (-1 : Int) ≤ x.lt
    ·
     refine w_g (decide_eq_true hb13) (xf 5) ?_
     refine w_g (decide_eq_true hb13) (xl H11 0) ?_
     refine w_g (decide_eq_true hb13) (x_bin rfl rfl rfl b_leq) ?_
     refine w_v (v := .bool (decide ((x.lt : Int) ≤ 1000000000))) (x_pick_t rfl rfl (decide_eq_true hb13) rfl) ?_
     refine w_m ?_
     by_cases hb14 : (x.lt : Int) ≤ 1000000000
     ·
      refine w_g (decide_eq_true hb14) (xf 6) ?_
      refine w_g (decide_eq_true hb14) (xl H11 0) ?_
      refine l_of (s_call0 H11 (wt1 rfl rfl rfl rfl (decide_eq_true hb14)) (x_call' rfl rfl cl27) (number_r x.since _) rfl rfl ?_)
      intro wq15 H16
      refine w_v (v := .bool ((numB x.since))) (x_pick_t rfl rfl (decide_eq_true hb14) rfl) ?_
      refine w_a ?_
      refine w_e ?_
      refine g_weak [(2, .bool ((numB x.since)))] ⟨rfl, trivial⟩ ?_
      refine g_ret ?_
      refine fin_ret [.tmp 2] [.bool ((numB x.since))] rfl ⟨rfl, trivial⟩ ?_
      exact ⟨by unfold validR; try unfold numB at *; simp [hb6, hb9, hb12, hb13, hb14, tupled, Bool.and_assoc], H16.mask [false, true]⟩
     ·
      refine w_n (decide_eq_false hb14) ?_
      refine w_n (decide_eq_false hb14) ?_
      refine w_n (decide_eq_false hb14) ?_
      refine w_v (v := .bool false) (x_pick_f rfl rfl (decide_eq_false hb14) rfl) ?_
      refine w_a ?_
      refine w_e ?_
      refine g_weak [(2, .bool false)] ⟨rfl, trivial⟩ ?_
      refine g_ret ?_
      refine fin_ret [.tmp 2] [.bool false] rfl ⟨rfl, trivial⟩ ?_
      exact ⟨by unfold validR; try unfold numB at *; simp [hb6, hb9, hb12, hb13, hb14, tupled, Bool.and_assoc], H11.mask [false, true]⟩
    ·
     refine w_n (decide_eq_false hb13) ?_
     refine w_n (decide_eq_false hb13) ?_
     refine w_n (decide_eq_false hb13) ?_
     refine w_v (v := .bool false) (x_pick_f rfl rfl (decide_eq_false hb13) rfl) ?_
     refine w_m ?_
     refine w_n rfl ?_
     refine w_n rfl ?_
     refine w_n rfl ?_
     refine w_v (v := .bool false) (x_pick_f rfl rfl rfl rfl) ?_
     refine w_a ?_
     refine w_e ?_
     refine g_weak [(2, .bool false)] ⟨rfl, trivial⟩ ?_
     refine g_ret ?_
     refine fin_ret [.tmp 2] [.bool false] rfl ⟨rfl, trivial⟩ ?_
     exact ⟨by unfold validR; try unfold numB at *; simp [hb6, hb9, hb12, hb13, tupled, Bool.and_assoc], H11.mask [false, true]⟩
   ·
    refine w_n hb12 ?_
    refine w_n hb12 ?_
    refine w_n hb12 ?_
    refine w_v (v := .bool false) (x_pick_f rfl rfl hb12 rfl) ?_
    refine w_m ?_
    refine w_n rfl ?_
    refine w_n rfl ?_
    refine w_n rfl ?_
    refine w_v (v := .bool false) (x_pick_f rfl rfl rfl rfl) ?_
    refine w_m ?_
    refine w_n rfl ?_
    refine w_n rfl ?_
    refine w_n rfl ?_
    refine w_v (v := .bool false) (x_pick_f rfl rfl rfl rfl) ?_
    refine w_a ?_
    refine w_e ?_
    refine g_weak [(2, .bool false)] ⟨rfl, trivial⟩ ?_
    refine g_ret ?_
    refine fin_ret [.tmp 2] [.bool false] rfl ⟨rfl, trivial⟩ ?_
    exact ⟨by unfold validR; try unfold numB at *; simp [hb6, hb9, hb12, tupled, Bool.and_assoc], H11.mask [false, true]⟩
  ·
   refine w_n hb9 ?_
   refine w_n hb9 ?_
   refine w_n hb9 ?_
   refine w_v (v := .bool false) (x_pick_f rfl rfl hb9 rfl) ?_
   refine w_m ?_
   refine w_n rfl ?_
   refine w_n rfl ?_
   refine w_n rfl ?_
   refine w_v (v := .bool false) (x_pick_f rfl rfl rfl rfl) ?_
   refine w_m ?_
   refine w_n rfl ?_
   refine w_n rfl ?_
   refine w_n rfl ?_
   refine w_v (v := .bool false) (x_pick_f rfl rfl rfl rfl) ?_
   refine w_m ?_
   refine w_n rfl ?_
   refine w_n rfl ?_
   refine w_n rfl ?_
   refine w_v (v := .bool false) (x_pick_f rfl rfl rfl rfl) ?_
   refine w_a ?_
   refine w_e ?_
   refine g_weak [(2, .bool false)] ⟨rfl, trivial⟩ ?_
   refine g_ret ?_
   refine fin_ret [.tmp 2] [.bool false] rfl ⟨rfl, trivial⟩ ?_
   exact ⟨by unfold validR; try unfold numB at *; simp [hb6, hb9, tupled, Bool.and_assoc], H8.mask [false, true]⟩
 ·
  refine w_n hb6 ?_
  refine w_n hb6 ?_
  refine w_n hb6 ?_
  refine w_v (v := .bool false) (x_pick_f rfl rfl hb6 rfl) ?_
  refine w_m ?_
  refine w_n rfl ?_
  refine w_n rfl ?_
  refine w_n rfl ?_
  refine w_v (v := .bool false) (x_pick_f rfl rfl rfl rfl) ?_
  refine w_m ?_
  refine w_n rfl ?_
  refine w_n rfl ?_
  refine w_n rfl ?_
  refine w_v (v := .bool false) (x_pick_f rfl rfl rfl rfl) ?_
  refine w_m ?_
  refine w_n rfl ?_
  refine w_n rfl ?_
  refine w_n rfl ?_
  refine w_v (v := .bool false) (x_pick_f rfl rfl rfl rfl) ?_
  refine w_m ?_
  refine w_n rfl ?_
  refine w_n rfl ?_
  refine w_n rfl ?_
  refine w_v (v := .bool false) (x_pick_f rfl rfl rfl rfl) ?_
  refine w_a ?_
  refine w_e ?_
  refine g_weak [(2, .bool false)] ⟨rfl, trivial⟩ ?_
  refine g_ret ?_
  refine fin_ret [.tmp 2] [.bool false] rfl ⟨rfl, trivial⟩ ?_
  exact ⟨by unfold validR; try unfold numB at *; simp [hb6, tupled, Bool.and_assoc], H5.mask [false, true]⟩
end Go.Proofs.YthfglkkjkpdkpaaGreatDoor
