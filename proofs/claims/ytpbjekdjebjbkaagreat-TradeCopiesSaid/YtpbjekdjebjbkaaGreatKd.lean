import Derived.Test.YtpbjekdjebjbkaaGreatFk
import Derived.Test.YtpbjekdjebjbkaaGreatKb
import Derived.Test.YtpbjekdjebjbkaaGreatSj
import Derived.Test.YtpbjekdjebjbkaaGreatMj
set_option linter.unusedSimpArgs false
set_option linter.unusedVariables false
namespace Go.Proofs.YtpbjekdjebjbkaaGreat
open Go.RowKit

theorem cl119 : callable Tryz.prog 119 = true := by kernel_rfl
theorem cl60 : callable Tryz.prog 60 = true := by kernel_rfl
theorem fo102_0 : foO Tryz.prog 102 0 = some 0 := by kernel_rfl
theorem inf3 : infO Tryz.prog 3 = some (some (.int .i64 0), 1, 8) := by kernel_rfl
theorem ze3 : zeO Tryz.prog 3 = some (.int .i64 0) := by kernel_rfl
theorem zV_fl (l : List Int) : zV l = fl intL l := map_fl (fun _ => rfl) l
theorem sortZ (l : List Int) (p : Option Addr) (n c : Nat) (hn : l.length = n) (hn2 : n ≤ 1000000) (w : World) (HS : S w [Rw 3 1 p n c (fl intL l)]) :
    Calls Tryz.prog 60 #[.slice p n c] w fun e w' => e = .returned (.tuple #[]) ∧ S w' ([Rw 3 1 p n c (fl intL (sortI l))] ++ [Old w (fps [Rw 3 1 p n c (fl intL l)])]) := by
  have h := sortInts_s l p n c hn hn2 w (by rw [zV_fl]; exact HS)
  rw [zV_fl, zV_fl] at h; exact h
def numB (x : Int) : Bool := decide (0 ≤ x) && decide (x ≤ 1000000000)
def validR (x : Rv) : Bool := (decide (0 ≤ x.id) && decide (x.id ≤ 99)) && numB x.frm && numB x.to && decide (-1 ≤ x.lt) && decide (x.lt ≤ 1000000000) && numB x.since
open Classical in
noncomputable def askE (seed : ByteArray) (l : List Rv) : Int := if 100 < seed.size ∨ 200 < l.length ∨ l.any (fun x => !validR x) = true then 1 else if (l.map Rv.id).Nodup then 0 else 6
def slotsV (r : Int) : Int × Int := if r < 0 ∨ 1000000000 < r then (0, 7) else if r < 10000 then (2, 0) else if r < 20000 then (3, 0) else (min (4 + (r - 20000) / 20000) 50, 0)
theorem no_takeP {α : Type} {P : α → Prop} {l : List α} {k : Nat} {x : α} (h : ∀ y ∈ l.take k, P y) (hx : l[k]? = some x) (hq : P x) : ∀ y ∈ l.take (k + 1), P y := fun y hy => by
  rw [List.take_add_one, hx] at hy
  rcases List.mem_append.1 hy with hy | hy
  · exact h y hy
  · have e := Option.some.inj (Option.mem_toList.1 hy); rw [← e]; exact hq
theorem take_snocL {α : Type} {l : List α} {k : Nat} {x : α} (h : l[k]? = some x) : l.take (k + 1) = l.take k ++ [x] := by rw [List.take_add_one, h]; rfl
/-- In order up to i, but for what stands at k. -/
structure Asc (l cur : List Int) (i k : Nat) : Prop where
  perm : cur.Perm l
  le : ∀ a b, a < b → b ≤ i → a ≠ k → b ≠ k → cur.getD a 0 ≤ cur.getD b 0
  up : ∀ b, k < b → b ≤ i → cur.getD k 0 ≤ cur.getD b 0
theorem Asc.stop {l cur : List Int} {i k : Nat} (h : Asc l cur i k) (hk : k ≤ i) (hc : k = 0 ∨ ¬ cur.getD k 0 < cur.getD (k - 1) 0) : ∀ a b, a < b → b < i + 1 → cur.getD a 0 ≤ cur.getD b 0 := fun a b h1 h2 => by
  by_cases ha : a = k
  · subst ha; exact h.up b h1 (by omega)
  · by_cases hb : b = k
    · subst hb
      rcases hc with hc | hc
      · omega
      · by_cases e : a = b - 1
        · subst e; omega
        · have := h.le a (b - 1) (by omega) (by omega) ha (by omega)
          omega
    · exact h.le a b h1 (by omega) ha hb
theorem getD_set2 {l : List Int} {i j : Nat} {x : Int} (hi : i < l.length) : (l.set i x).getD j 0 = if j = i then x else l.getD j 0 := by
  rw [List.getD_eq_getElem?_getD, List.getD_eq_getElem?_getD]
  by_cases h : j = i
  · subst h; rw [if_pos rfl, List.getElem?_set_self hi]; rfl
  · rw [if_neg h, List.getElem?_set_ne (Ne.symm h)]
theorem Asc.go {l cur : List Int} {i k : Nat} (h : Asc l cur i k) (hk : 0 < k) (hki : k ≤ i) (hi : i < cur.length) (hc : cur.getD k 0 < cur.getD (k - 1) 0) : Asc l ((cur.set k (cur.getD (k - 1) 0)).set (k - 1) (cur.getD k 0)) i (k - 1) := by
  have hg : ∀ j, ((cur.set k (cur.getD (k - 1) 0)).set (k - 1) (cur.getD k 0)).getD j 0 = if j = k - 1 then cur.getD k 0 else if j = k then cur.getD (k - 1) 0 else cur.getD j 0 := fun j => by
    rw [getD_set2 (by rw [List.length_set]; omega)]
    by_cases e : j = k - 1
    · rw [if_pos e, if_pos e]
    · rw [if_neg e, if_neg e, getD_set2 (by omega)]
  refine ⟨(swp_perm (d := (0 : Int)) (l := cur) (i := k) (j := k - 1) (by omega) (by omega)).trans h.perm, fun a b h1 h2 h3 h4 => ?_, fun b h1 h2 => ?_⟩
  · rw [hg a, hg b, if_neg h3, if_neg h4]
    by_cases ea : a = k
    · subst ea
      rw [if_pos rfl, if_neg (by omega)]
      exact h.le (a - 1) b (by omega) h2 (by omega) (by omega)
    · rw [if_neg ea]
      by_cases eb : b = k
      · subst eb
        rw [if_pos rfl]
        exact h.le a (b - 1) (by omega) (by omega) ea (by omega)
      · rw [if_neg eb]; exact h.le a b h1 h2 ea eb
  · rw [hg (k - 1), hg b, if_pos rfl, if_neg (by omega)]
    by_cases eb : b = k
    · subst eb; rw [if_pos rfl]; omega
    · rw [if_neg eb]; exact h.up b (by omega) h2
set_option maxRecDepth 20000 in
set_option maxHeartbeats 4000000 in
theorem ids_s (l : List Rv) (p : Option Addr) (n c : Nat) (hn2 : n ≤ 1000000)  (w : World) (hr : Reads w p n c 10 (fl rvL l)) : Calls Tryz.prog 55 #[.slice p n c] w fun e w' => ∃ p' c', e = .returned (.slice p' (sortI (l.map Rv.id)).length c') ∧ S w' ([Rw 3 1 p' (sortI (l.map Rv.id)).length c' (fl intL (sortI (l.map Rv.id)))] ++ [Old w no]) := by
 have H0 := S.old w
 have hnl := hr.lenL rvE
 refine enter 21 Tryz.func55 rfl rfl rfl ?_
 refine g_weak [(0, .slice p n c)] ⟨rfl, trivial⟩ ?_
 refine w_s ?_
 refine w_a ?_
 refine w_e ?_
 refine w_s ?_
 have H1 : S w [Rw 3 1 none 0 0 (fl intL ([] : List Int)), Old w no] := H0.nilFl 3 1 intL
 refine w_a ?_
 refine w_e ?_
 refine g_seq ?_
 refine w_s ?_
 refine w_m ?_
 refine w_v (v := .int .i64 ((n : Int))) (x_lenl rfl rfl Tryz.underlying98) ?_
 refine w_m ?_
 refine w_e ?_
 refine g_block ?_
 refine g_loop (ι := Nat × Option Addr × Nat) (fun (i, po, co) => [(3, .slice po i co), (6, .slice p n c), (7, .int .i64 ((n : Int))), (8, .int .i64 ((i : Int)))]) (fun (i, po, co) wx => (i ≤ n) ∧ S wx [Rw 3 1 po i co (fl intL ((l.take i).map Rv.id)), Old w no]) (fun (i, po, co) => n - i) (0, none, 0) ⟨rfl, rfl, rfl, rfl, trivial⟩ ⟨Nat.zero_le _, (by rw [List.take_zero, List.map_nil]; exact H1.takes [0, 1] (by decide))⟩ ?_
 rintro ⟨i, po, co⟩ wq2 ⟨hi, H3⟩
 refine g_weak [(3, .slice po i co), (6, .slice p n c), (7, .int .i64 ((n : Int))), (8, .int .i64 ((i : Int)))] ⟨rfl, rfl, rfl, rfl, trivial⟩ ?_
 refine w_s ?_
 refine w_b ?_
 refine w_e ?_
 refine g_seq ?_
 by_cases hb4 : ((i : Int) : Int) < (n : Int)
 ·
  refine g_cond_t rfl (decide_eq_true hb4) ?_
  refine g_skip ?_
  refine g_then ?_
  refine g_seq ?_
  refine g_block ?_
  refine w_s ?_
  refine w_v (v := .pointer ((p).map fun q => q.add (i * 10))) (x_idxR i (H3.exReads (k := 1) rfl hr (fun _ _ _ h => h)) rfl rfl rfl Tryz.underlying98 sz102 (by omega)) ?_
  have hlq := (H3.exReads (k := 1) rfl hr (fun _ _ _ h => h)).lenL rvE
  obtain ⟨x5, hx5⟩ := ex_at (l := l) (j := i) (by omega)
  clear hlq
  refine w_v (v := .agg #[.int .i64 (x5.id), .bool x5.intr, .bool x5.chk, .int .i64 (x5.frm), .int .i64 (x5.to), .int .i64 (x5.lt), .int .i64 (x5.since), .bool x5.snb, .bool x5.now, .bool x5.seed]) (x_loadRA (vs := rvL x5) i (H3.exReads (k := 1) rfl hr (fun _ _ _ h => h)) (by omega) rfl rfl Tryz.underlying102 rfl sz102 (by rfl) (rvE.flAt hx5)) ?_
  refine l_of (s_alloc H3 (wt0 rfl) rfl rfl rfl ze102 ?_)
  intro g6 wq7 H8
  refine l_of (w_st #[.int .i64 (x5.id), .bool x5.intr, .bool x5.chk, .int .i64 (x5.frm), .int .i64 (x5.to), .int .i64 (x5.lt), .int .i64 (x5.since), .bool x5.snb, .bool x5.now, .bool x5.seed] H8 0 ?_)
  intro wq9 H10
  refine w_e ?_
  refine g_region ?_
  refine w_r2 ?_
  refine w_1 H10 0 ?_
  refine l_of (s_buildSlice H10 (wt0 rfl) rfl rfl rfl (vs := [.int .i64 (x5.id)]) rfl Tryz.underlying34 sz3 ze3 rfl rfl (cells := #[.int .i64 (x5.id)]) (by kernel_rfl) ?_)
  intro g11 wq12 H13
  refine l_of (s_appB (m := 1) (l := ((l.take i).map Rv.id)) (l2 := [x5.id]) intE H13 2 (j0 := 0) rfl rfl ⟨rfl, Nat.le_refl _⟩ (wt0 rfl) rfl rfl rfl rfl rfl rfl Tryz.underlying34 inf3 rfl (by decide) (by omega) ?_)
  intro p14 c15 wq16 H17
  refine w_a ?_
  refine g_nil ?_
  refine g_in ?_
  refine g_then ?_
  refine g_region ?_
  refine w_b (v := .int .i64 (((i + 1 : Nat) : Int))) (hb := (b_add (by rw [w64 (by omega)]; omega))) ?_
  refine w_m ?_
  refine w_e ?_
  refine g_round (i := (i, po, co)) ((i + 1), p14, c15) ?_ ?_ ?_
  · exact ⟨rfl, rfl, rfl, rfl, trivial⟩
  · exact ⟨by omega, (by rw [take_snocL hx5, List.map_append]; exact H17.takes [2, 3] (by decide))⟩
  · (try dsimp only); omega
 ·
  refine g_cond_f rfl (decide_eq_false hb4) ?_
  refine g_exit ?_
  refine g_then_exit ?_
  refine g_then_exit ?_
  refine g_in_hit ?_
  refine g_then ?_
  refine w_s ?_
  refine w_m ?_
  refine l_of (s_call (wt0 rfl) (x_call' rfl rfl cl60) (sortZ ((l.take i).map Rv.id) po i co (by rw [List.length_map, List.length_take]; omega) (by omega) _ (H3.takes [0] (by decide))) ?_)
  rintro _ wq18 ⟨rfl, H19⟩
  replace H19 : S wq18 [Rw 3 1 po i co (fl intL (sortI ((l.take i).map Rv.id))), Old w no] := by have h := H3.absorbI [0] H19; exact h
  refine b_ret rfl rfl ?_
  refine w_e ?_
  refine w_s ?_
  refine w_r2 ?_
  refine w_e ?_
  refine g_ret ?_
  refine fin_ret [.tmp 2] [.slice po i co] rfl ⟨rfl, trivial⟩ ?_
  have hsl : (sortI (l.map Rv.id)).length = i := by rw [sortI_len, List.length_map]; omega
  have htk : l.take i = l := List.take_of_length_le (by omega)
  rw [htk] at H19
  exact ⟨_, _, by rw [hsl]; rfl, by rw [hsl]; exact H19.takes [0, 1] (by decide)⟩
set_option maxRecDepth 20000 in
set_option maxHeartbeats 4000000 in
theorem has1_s (b : Nat) (r x : Rv)  (w : World) (HS : S w [Ob b (.cells #[.int .i64 (r.id), .bool r.intr, .bool r.chk, .int .i64 (r.frm), .int .i64 (r.to), .int .i64 (r.lt), .int .i64 (r.since), .bool r.snb, .bool r.now, .bool r.seed] 102 (0, 0))]) : Calls Tryz.prog 120 #[.agg #[.int .i64 (x.id), .bool x.intr, .bool x.chk, .int .i64 (x.frm), .int .i64 (x.to), .int .i64 (x.lt), .int .i64 (x.since), .bool x.snb, .bool x.now, .bool x.seed], .pointer (some ⟨b, 0, none⟩)] w fun e w' => e = .returned (.bool (decide (x.id = r.id))) ∧ S w' ([Ob b (.cells #[.int .i64 (r.id), .bool r.intr, .bool r.chk, .int .i64 (r.frm), .int .i64 (r.to), .int .i64 (r.lt), .int .i64 (r.since), .bool r.snb, .bool r.now, .bool r.seed] 102 (0, 0))] ++ [Old w (fps [Ob b (.cells #[.int .i64 (r.id), .bool r.intr, .bool r.chk, .int .i64 (r.frm), .int .i64 (r.to), .int .i64 (r.lt), .int .i64 (r.since), .bool r.snb, .bool r.now, .bool r.seed] 102 (0, 0))])]) := by
 have H0 := HS.beginI
 refine enter 9 Tryz.func120 rfl rfl rfl ?_
 refine g_weak [(0, .agg #[.int .i64 (x.id), .bool x.intr, .bool x.chk, .int .i64 (x.frm), .int .i64 (x.to), .int .i64 (x.lt), .int .i64 (x.since), .bool x.snb, .bool x.now, .bool x.seed]), (1, .pointer (some ⟨b, 0, none⟩))] ⟨rfl, rfl, trivial⟩ ?_
 refine w_s ?_
 refine l_of (s_box H0 (wt0 rfl) rfl rfl rfl rfl ?_)
 intro g1 wq2 H3
 refine w_a ?_
 refine w_e ?_
 refine w_s ?_
 refine w_f 0 ?_
 refine w_1 H3 0 ?_
 refine w_f 0 ?_
 refine w_1 H3 1 ?_
 refine w_b ?_
 refine w_a ?_
 refine w_e ?_
 refine g_ret ?_
 refine fin_ret [.tmp 3] [.bool (decide ((x.id : Int) = r.id))] rfl ⟨rfl, trivial⟩ ?_
 exact ⟨rfl, H3.takes [1, 2] (by decide)⟩
theorem has1_f (b : Nat) (r : Rv) : FunC Tryz.prog 120 #[] #[.pointer (some ⟨b, 0, none⟩)] (Big [Ob b (.cells #[.int .i64 (r.id), .bool r.intr, .bool r.chk, .int .i64 (r.frm), .int .i64 (r.to), .int .i64 (r.lt), .int .i64 (r.since), .bool r.snb, .bool r.now, .bool r.seed] 102 (0, 0))]) (fun x : Rv => [x.v]) (fun x => .bool ((fun x : Rv => decide (x.id = r.id)) x)) (fun _ => True) :=
  FunC.ofBig (by kernel_rfl) fun x _ w HS => has1_s b r x w HS
set_option maxRecDepth 20000 in
set_option maxHeartbeats 4000000 in
theorem has_s (l : List Rv) (p : Option Addr) (n c : Nat) (hn : n ≤ 9223372036854775807) (r : Rv)  (w : World) (hr : Reads w p n c 10 (fl rvL l)) : Calls Tryz.prog 97 #[.slice p n c, .agg #[.int .i64 (r.id), .bool r.intr, .bool r.chk, .int .i64 (r.frm), .int .i64 (r.to), .int .i64 (r.lt), .int .i64 (r.since), .bool r.snb, .bool r.now, .bool r.seed]] w fun e w' => e = .returned (.bool (decide (r.id ∈ l.map Rv.id))) ∧ S w' [Old w no] := by
 have H0 := S.old w
 refine enter 8 Tryz.func97 rfl rfl rfl ?_
 refine g_weak [(0, .slice p n c), (1, .agg #[.int .i64 (r.id), .bool r.intr, .bool r.chk, .int .i64 (r.frm), .int .i64 (r.to), .int .i64 (r.lt), .int .i64 (r.since), .bool r.snb, .bool r.now, .bool r.seed])] ⟨rfl, rfl, trivial⟩ ?_
 refine w_s ?_
 refine l_of (s_box H0 (wt0 rfl) rfl rfl rfl rfl ?_)
 intro g1 wq2 H3
 refine w_a ?_
 refine w_e ?_
 refine w_s ?_
 refine w_m ?_
 refine w_v (v := .func (.func 120) #[] #[.pointer (some ⟨g1, 0, none⟩)]) (x_makeFunc rfl rfl rfl) ?_
 have H4 : S wq2 [(Big [Ob g1 (.cells #[.int .i64 (r.id), .bool r.intr, .bool r.chk, .int .i64 (r.frm), .int .i64 (r.to), .int .i64 (r.lt), .int .i64 (r.since), .bool r.snb, .bool r.now, .bool r.seed] 102 (0, 0))]), Old w no] := S.big (L := [Ob g1 (.cells #[.int .i64 (r.id), .bool r.intr, .bool r.chk, .int .i64 (r.frm), .int .i64 (r.to), .int .i64 (r.lt), .int .i64 (r.since), .bool r.snb, .bool r.now, .bool r.seed] 102 (0, 0))]) (H3.takes [0, 1] (by decide))
 refine l_of (s_call (wt0 rfl) (x_call' rfl rfl cl119) (contF_r l p n c hn (fun x : Rv => decide (x.id = r.id)) 120 #[] #[.pointer (some ⟨g1, 0, none⟩)] (Big [Ob g1 (.cells #[.int .i64 (r.id), .bool r.intr, .bool r.chk, .int .i64 (r.frm), .int .i64 (r.to), .int .i64 (r.lt), .int .i64 (r.since), .bool r.snb, .bool r.now, .bool r.seed] 102 (0, 0))]) (fun _ => True) (has1_f g1 r) (fun _ _ => trivial) _ (H4.takes [0] (by decide)) (H4.exReads (k := 1) rfl hr (fun _ _ _ h => h)) (H4.apartOld (i := 1) (k := 0) rfl rfl (by decide) hr (by decide) (fun _ _ _ h => h))) ?_)
 rintro _ wq5 ⟨rfl, H6⟩
 replace H6 : S wq5 [(Big [Ob g1 (.cells #[.int .i64 (r.id), .bool r.intr, .bool r.chk, .int .i64 (r.frm), .int .i64 (r.to), .int .i64 (r.lt), .int .i64 (r.since), .bool r.snb, .bool r.now, .bool r.seed] 102 (0, 0))]), Old w no] := by have h := H4.absorbI [0] H6; exact h
 refine b_ret rfl rfl ?_
 refine w_a ?_
 refine w_e ?_
 refine g_ret ?_
 refine fin_ret [.tmp 4] [.bool ((l.any (fun x : Rv => decide (x.id = r.id))))] rfl ⟨rfl, trivial⟩ ?_
 have hb : l.any (fun x : Rv => decide (x.id = r.id)) = decide (r.id ∈ l.map Rv.id) := by rw [Bool.eq_iff_iff, List.any_eq_true, decide_eq_true_iff, List.mem_map]; exact ⟨fun ⟨x, h1, h2⟩ => ⟨x, h1, of_decide_eq_true h2⟩, fun ⟨x, h1, h2⟩ => ⟨x, h1, decide_eq_true h2⟩⟩
 exact ⟨by rw [hb]; rfl, H6.mask [false, true]⟩
end Go.Proofs.YtpbjekdjebjbkaaGreat
namespace Go.Proofs.YtpbjekdjebjbkaaGreat
open Go.RowKit

theorem FunC.pure {β : Type} {P : Program} {g : Nat} {fi ca : Array Value} {av : β → List Value} {rv : β → Value} {D : β → Prop} (hg : callable P g = true) (h : ∀ b, D b → ∀ w, Calls P g (fi.toList ++ av b ++ ca.toList).toArray w fun e w' => e = .returned (rv b) ∧ S w' [Old w no]) : FunC P g fi ca (Big []) av rv D :=
  FunC.ofBig hg fun b hb w _ => (h b hb w).mono fun e w' ⟨h1, h2⟩ => ⟨h1, by
    rw [show fps [] = no from funext fun k => propext ⟨fun ⟨it, h3, _⟩ => (List.not_mem_nil h3).elim, False.elim⟩]; exact h2⟩
set_option maxRecDepth 20000 in
set_option maxHeartbeats 4000000 in
set_option maxRecDepth 20000 in
set_option maxHeartbeats 4000000 in
theorem front_s (l : List Rv) (p : Option Addr) (n c : Nat) (hn2 : n ≤ 9223372036854775807) (m : Int)  (w : World) (hr : Reads w p n c 10 (fl rvL l)) : Calls Tryz.prog 75 #[.slice p n c, .int .i64 m] w fun e w' => e = .returned (.slice p (min n m.toNat) c) ∧ S w' [Old w no] := by
  have H0 := S.old w
  have hnl := hr.lenL rvE
  refine enter 12 Tryz.func75 rfl rfl rfl ?_
  refine g_weak [(0, .slice p n c), (1, .int .i64 m)] ⟨rfl, rfl, trivial⟩ ?_
  refine g_seq ?_
  refine g_region ?_
  refine l_of (s_val (v := .slice none 0 0) (wt0 rfl) rfl rfl (x_assign rfl rfl) ?_)
  refine g_nil ?_
  refine g_then ?_
  refine g_seq ?_
  refine g_region ?_
  refine l_of (s_val (v := .slice p n c) (wt0 rfl) rfl rfl (x_move rfl rfl) ?_)
  refine l_of (s_val (v := .slice p n c) (wt0 rfl) rfl rfl (x_move rfl rfl) ?_)
  refine l_of (s_val (v := .int .i64 ((n : Int))) (wt0 rfl) rfl rfl (x_lenl rfl rfl Tryz.underlying98) ?_)
  refine l_of (s_val (v := .int .i64 m) (wt0 rfl) rfl rfl (x_move rfl rfl) ?_)
  refine l_of (s_val (v := .int .i64 ((m.toNat : Int))) (wt0 rfl) rfl rfl (ex_cast (x_max rfl rfl rfl) (by rw [show max m 0 = (m.toNat : Int) from by omega])) ?_)
  refine l_of (s_val (v := .int .i64 (((min n m.toNat : Nat) : Int))) (wt0 rfl) rfl rfl (ex_cast (x_min rfl rfl rfl) (by rw [show min (n : Int) (m.toNat : Int) = ((min n m.toNat : Nat) : Int) from by omega])) ?_)
  have hnc := (H0.exReads (k := 0) rfl hr (fun _ _ _ h => h)).2.1
  refine l_of (s_val (v := .slice p (min n m.toNat) c) (wt0 rfl) rfl rfl (ex_cast (x_sliceH (min n m.toNat) rfl rfl rfl Tryz.underlying98 sz102 (by omega)) (by rw [cutP0])) ?_)
  refine l_of (s_val (v := .slice p (min n m.toNat) c) (wt0 rfl) rfl rfl (x_assign rfl rfl) ?_)
  refine g_nil ?_
  refine g_then ?_
  refine g_ret ?_
  refine fin_ret [.tmp 4] [.slice p (min n m.toNat) c] rfl ⟨rfl, trivial⟩ ?_
  exact ⟨rfl, H0.mask [true]⟩
end Go.Proofs.YtpbjekdjebjbkaaGreat
