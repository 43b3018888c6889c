import Derived.Test.YthfglkkjkpdkpaaGreatDoorKd
import Derived.Test.YthfglkkjkpdkpaaGreatDoorGg
set_option linter.unusedSimpArgs false
set_option linter.unusedVariables false
namespace Go.Proofs.YthfglkkjkpdkpaaGreatDoor
open Go.RowKit

theorem cl38 : callable Tryz.prog 38 = true := by kernel_rfl
theorem cl48 : callable Tryz.prog 48 = true := by kernel_rfl
theorem cl51 : callable Tryz.prog 51 = true := by kernel_rfl
theorem cl58 : callable Tryz.prog 58 = true := by kernel_rfl
theorem fo30_1 : foO Tryz.prog 30 1 = some 1 := by kernel_rfl
theorem fo30_8 : foO Tryz.prog 30 8 = some 8 := by kernel_rfl
theorem fo62_1 : foO Tryz.prog 62 1 = some 1 := by kernel_rfl
theorem fo62_3 : foO Tryz.prog 62 3 = some 3 := by kernel_rfl
theorem sz39 : szO Tryz.prog 39 = some 1 := by kernel_rfl
theorem sz59 : szO Tryz.prog 59 = some 4 := by kernel_rfl
theorem ze39 : zeO Tryz.prog 39 = some (.nilFunc) := by kernel_rfl
theorem ze59 : zeO Tryz.prog 59 = some (.agg #[.nilFunc, .nilFunc, .nilFunc, .nilFunc]) := by kernel_rfl
theorem ze74 : zeO Tryz.prog 74 = some (.nilFunc) := by kernel_rfl
theorem S.staysOld {w w0 : World} {L : List Item} {i k1 k2 size n c : Nat} {N : Nat → Prop} {p : Option Addr} {xs : List Value} {X1 X2 : Item} (h : S w L) (hi : L[i]? = some (Old w0 N)) (hk1 : L[k1]? = some X1) (hk2 : L[k2]? = some X2) (hn1 : i ≠ k1) (hn2 : i ≠ k2) (hr : Reads w0 p n c size xs) (hs : 0 < size) (hN : 0 < n → ∀ a, p = some a → ¬ N a.block) : ∀ w1, S w1 [X1, X2, Old w (fps [X1, X2])] → Reads w1 p n c size xs := fun w1 h1 =>
  h1.exReads (k := 2) rfl (h.exReads hi hr hN) fun hn a ha hf => by
    obtain ⟨it, hm, hfp⟩ := hf
    obtain ⟨k1', k2', k3⟩ := hr
    obtain ⟨b, hb, hc⟩ := k3 hn
    have hab : b = a := by rw [ha] at hb; exact (Option.some.inj hb).symm
    subst hab
    have hlen : 0 < xs.length := by rw [k1']; exact Nat.mul_pos hn hs
    have hcell := hc 0 xs[0] (List.getElem?_eq_getElem hlen)
    have hlt : b.block < w0.heap.size := by
      have h0 : b.add 0 = b := by unfold Addr.add; simp
      rw [h0] at hcell
      refine Decidable.byContradiction fun hn9 => ?_
      unfold World.cell? at hcell
      rw [Array.getElem?_eq_none (by omega)] at hcell
      cases hcell
    rcases List.mem_cons.1 hm with rfl | hm
    · exact pair_of h.2 hi hk1 hn1 b.block ⟨hlt, hN hn b ha⟩ hfp
    · rw [List.mem_singleton] at hm; subst hm
      exact pair_of h.2 hi hk2 hn2 b.block ⟨hlt, hN hn b ha⟩ hfp
/-- What validR says of the numbers. -/
def DV (x : Rv) : Prop := (0 ≤ x.id ∧ x.id ≤ 1000000000) ∧ (0 ≤ x.frm ∧ x.frm ≤ 1000000000) ∧ (0 ≤ x.to ∧ x.to ≤ 1000000000) ∧ (-1 ≤ x.lt ∧ x.lt ≤ 1000000000) ∧ (0 ≤ x.since ∧ x.since ≤ 1000000000)
theorem validR_D {x : Rv} (h : validR x = true) : DV x := by
  unfold validR numB at h
  simp only [Bool.and_eq_true, decide_eq_true_eq] at h
  unfold DV; omega
def stB (x : Rv) : Bool := (x.intr && x.now) && decide (x.to < 16384)
def stN (x : Rv) : Int := if stB x = true then 0 else 1
def lastN (x : Rv) : Int := if stB x = true then 0 else x.lt
def qI (x : Rv) : Bool := x.intr
def c3 (x y : Rv) : Int := if stN x - stN y ≠ 0 then stN x - stN y else if lastN x - lastN y ≠ 0 then lastN x - lastN y else x.id - y.id
noncomputable def sorted3 (l : List Rv) : List Rv := srt Rv.zero c3 (l.filter qI)
set_option maxRecDepth 20000 in
set_option maxHeartbeats 4000000 in
set_option maxRecDepth 20000 in
set_option maxHeartbeats 4000000 in
theorem byID_s (x : Rv)  (w : World) : Calls Tryz.prog 55 #[.agg #[.int .i64 (x.id), .bool x.intr, .bool x.chk, .int .i64 (x.frm), .int .i64 (x.to), .int .i64 (x.lt), .int .i64 (x.since), .bool x.snb, .bool x.now, .bool x.seed]] w fun e w' => e = .returned (.int .i64 x.id) ∧ S w' [Old w no] := by
  have H0 := S.old w
  refine enter 5 Tryz.func55 rfl rfl rfl ?_
  refine g_weak [(0, .agg #[.int .i64 (x.id), .bool x.intr, .bool x.chk, .int .i64 (x.frm), .int .i64 (x.to), .int .i64 (x.lt), .int .i64 (x.since), .bool x.snb, .bool x.now, .bool x.seed])] ⟨rfl, trivial⟩ ?_
  refine g_seq ?_
  refine g_region ?_
  refine l_of (s_box H0 (wt0 rfl) rfl rfl rfl rfl ?_)
  intro g1 wq2 H3
  refine l_of (s_val (v := .int .i64 0) (wt0 rfl) rfl rfl (x_assign rfl rfl) ?_)
  refine g_nil ?_
  refine g_then ?_
  refine g_seq ?_
  refine g_region ?_
  refine l_of (s_val (v := .pointer (some ⟨g1, 0, none⟩)) (wt0 rfl) rfl rfl (x_fieldAddr rfl rfl fo30_0 rfl) ?_)
  refine l_of (s_val (v := .int .i64 (x.id)) (wt0 rfl) rfl rfl (x_load1 H3 0 rfl rfl Tryz.underlying3 rfl rfl rfl) ?_)
  refine l_of (s_val (v := .int .i64 (x.id)) (wt0 rfl) rfl rfl (x_assign rfl rfl) ?_)
  refine g_nil ?_
  refine g_then ?_
  refine g_ret ?_
  refine fin_ret [.tmp 2] [.int .i64 (x.id)] rfl ⟨rfl, trivial⟩ ?_
  exact ⟨rfl, H3.mask [false, true]⟩
theorem byID_f (D : Rv → Prop) : FunC Tryz.prog 55 #[] #[] (Big []) (fun x : Rv => [x.v]) (fun x => .int .i64 (Rv.id x)) D :=
  FunC.pure (by kernel_rfl) fun x _ w => byID_s x w
set_option maxRecDepth 20000 in
set_option maxHeartbeats 4000000 in
set_option maxRecDepth 20000 in
set_option maxHeartbeats 4000000 in
theorem stays_s (x : Rv)  (w : World) : Calls Tryz.prog 63 #[.agg #[.int .i64 (x.id), .bool x.intr, .bool x.chk, .int .i64 (x.frm), .int .i64 (x.to), .int .i64 (x.lt), .int .i64 (x.since), .bool x.snb, .bool x.now, .bool x.seed]] w fun e w' => e = .returned (.bool (stB x)) ∧ S w' [Old w no] := by
  have H0 := S.old w
  refine enter 14 Tryz.func63 rfl rfl rfl ?_
  refine g_weak [(0, .agg #[.int .i64 (x.id), .bool x.intr, .bool x.chk, .int .i64 (x.frm), .int .i64 (x.to), .int .i64 (x.lt), .int .i64 (x.since), .bool x.snb, .bool x.now, .bool x.seed])] ⟨rfl, trivial⟩ ?_
  refine g_seq ?_
  refine g_region ?_
  refine l_of (s_box H0 (wt0 rfl) rfl rfl rfl rfl ?_)
  intro g1 wq2 H3
  refine l_of (s_val (v := .bool false) (wt0 rfl) rfl rfl (x_assign rfl rfl) ?_)
  refine g_nil ?_
  refine g_then ?_
  refine g_seq ?_
  refine g_region ?_
  refine l_of (s_val (v := .pointer (some ⟨g1, 1, none⟩)) (wt0 rfl) rfl rfl (x_fieldAddr rfl rfl fo30_1 rfl) ?_)
  refine l_of (s_val (v := .bool x.intr) (wt0 rfl) rfl rfl (x_load1 H3 0 rfl rfl Tryz.underlying4 rfl rfl rfl) ?_)
  refine l_of (s_val (v := .bool x.intr) (wt0 rfl) rfl rfl (x_move rfl rfl) ?_)
  rcases Bool.eq_false_or_eq_true (x.intr) with hb4 | hb4
  · skip
    refine l_of (s_val (v := .pointer (some ⟨g1, 8, none⟩)) (wt1 rfl rfl rfl rfl hb4) rfl rfl (x_fieldAddr rfl rfl fo30_8 rfl) ?_)
    refine l_of (s_val (v := .bool x.now) (wt1 rfl rfl rfl rfl hb4) rfl rfl (x_load1 H3 0 rfl rfl Tryz.underlying4 rfl rfl rfl) ?_)
    refine l_of (s_val (v := .bool x.now) (wt0 rfl) rfl rfl (x_pick_t rfl rfl hb4 rfl) ?_)
    refine l_of (s_val (v := .bool x.now) (wt0 rfl) rfl rfl (x_move rfl rfl) ?_)
    rcases Bool.eq_false_or_eq_true (x.now) with hb5 | hb5
    · skip
      refine l_of (s_val (v := .pointer (some ⟨g1, 4, none⟩)) (wt1 rfl rfl rfl rfl hb5) rfl rfl (x_fieldAddr rfl rfl fo30_4 rfl) ?_)
      refine l_of (s_val (v := .int .i64 (x.to)) (wt1 rfl rfl rfl rfl hb5) rfl rfl (x_load1 H3 0 rfl rfl Tryz.underlying3 rfl rfl rfl) ?_)
      refine l_of (s_val (v := .bool (decide ((x.to : Int) < 16384))) (wt1 rfl rfl rfl rfl hb5) rfl rfl (x_bin rfl rfl rfl b_lss) ?_)
      refine l_of (s_val (v := .bool (decide ((x.to : Int) < 16384))) (wt0 rfl) rfl rfl (x_pick_t rfl rfl hb5 rfl) ?_)
      refine l_of (s_val (v := .bool (decide ((x.to : Int) < 16384))) (wt0 rfl) rfl rfl (x_assign rfl rfl) ?_)
      refine g_nil ?_
      refine g_then ?_
      refine g_weak [(2, .bool (decide ((x.to : Int) < 16384)))] ⟨rfl, trivial⟩ ?_
      refine g_ret ?_
      refine fin_ret [.tmp 2] [.bool (decide ((x.to : Int) < 16384))] rfl ⟨rfl, trivial⟩ ?_
      exact ⟨by unfold stB; simp [hb4, hb5, tupled], H3.mask [false, true]⟩
    · skip
      refine l_of (s_not (wn1 rfl rfl rfl rfl hb5) rfl rfl ?_)
      refine l_of (s_not (wn1 rfl rfl rfl rfl hb5) rfl rfl ?_)
      refine l_of (s_not (wn1 rfl rfl rfl rfl hb5) rfl rfl ?_)
      refine l_of (s_val (v := .bool false) (wt0 rfl) rfl rfl (x_pick_f rfl rfl hb5 rfl) ?_)
      refine l_of (s_val (v := .bool false) (wt0 rfl) rfl rfl (x_assign rfl rfl) ?_)
      refine g_nil ?_
      refine g_then ?_
      refine g_weak [(2, .bool false)] ⟨rfl, trivial⟩ ?_
      refine g_ret ?_
      refine fin_ret [.tmp 2] [.bool false] rfl ⟨rfl, trivial⟩ ?_
      exact ⟨by unfold stB; simp [hb4, hb5, tupled], H3.mask [false, true]⟩
  · skip
    refine l_of (s_not (wn1 rfl rfl rfl rfl hb4) rfl rfl ?_)
    refine l_of (s_not (wn1 rfl rfl rfl rfl hb4) rfl rfl ?_)
    refine l_of (s_val (v := .bool false) (wt0 rfl) rfl rfl (x_pick_f rfl rfl hb4 rfl) ?_)
    refine l_of (s_val (v := .bool false) (wt0 rfl) rfl rfl (x_move rfl rfl) ?_)
    refine l_of (s_not (wn1 rfl rfl rfl rfl rfl) rfl rfl ?_)
    refine l_of (s_not (wn1 rfl rfl rfl rfl rfl) rfl rfl ?_)
    refine l_of (s_not (wn1 rfl rfl rfl rfl rfl) rfl rfl ?_)
    refine l_of (s_val (v := .bool false) (wt0 rfl) rfl rfl (x_pick_f rfl rfl rfl rfl) ?_)
    refine l_of (s_val (v := .bool false) (wt0 rfl) rfl rfl (x_assign rfl rfl) ?_)
    refine g_nil ?_
    refine g_then ?_
    refine g_weak [(2, .bool false)] ⟨rfl, trivial⟩ ?_
    refine g_ret ?_
    refine fin_ret [.tmp 2] [.bool false] rfl ⟨rfl, trivial⟩ ?_
    exact ⟨by unfold stB; simp [hb4, tupled], H3.mask [false, true]⟩
theorem stays_f (D : Rv → Prop) : FunC Tryz.prog 63 #[] #[] (Big []) (fun x : Rv => [x.v]) (fun x => .bool (stB x)) D :=
  FunC.pure (by kernel_rfl) fun x _ w => stays_s x w
set_option maxRecDepth 20000 in
set_option maxHeartbeats 4000000 in
set_option maxRecDepth 20000 in
set_option maxHeartbeats 4000000 in
theorem intr_s (x : Rv)  (w : World) : Calls Tryz.prog 65 #[.agg #[.int .i64 (x.id), .bool x.intr, .bool x.chk, .int .i64 (x.frm), .int .i64 (x.to), .int .i64 (x.lt), .int .i64 (x.since), .bool x.snb, .bool x.now, .bool x.seed]] w fun e w' => e = .returned (.bool (qI x)) ∧ S w' [Old w no] := by
  have H0 := S.old w
  refine enter 5 Tryz.func65 rfl rfl rfl ?_
  refine g_weak [(0, .agg #[.int .i64 (x.id), .bool x.intr, .bool x.chk, .int .i64 (x.frm), .int .i64 (x.to), .int .i64 (x.lt), .int .i64 (x.since), .bool x.snb, .bool x.now, .bool x.seed])] ⟨rfl, trivial⟩ ?_
  refine g_seq ?_
  refine g_region ?_
  refine l_of (s_box H0 (wt0 rfl) rfl rfl rfl rfl ?_)
  intro g1 wq2 H3
  refine l_of (s_val (v := .bool false) (wt0 rfl) rfl rfl (x_assign rfl rfl) ?_)
  refine g_nil ?_
  refine g_then ?_
  refine g_seq ?_
  refine g_region ?_
  refine l_of (s_val (v := .pointer (some ⟨g1, 1, none⟩)) (wt0 rfl) rfl rfl (x_fieldAddr rfl rfl fo30_1 rfl) ?_)
  refine l_of (s_val (v := .bool x.intr) (wt0 rfl) rfl rfl (x_load1 H3 0 rfl rfl Tryz.underlying4 rfl rfl rfl) ?_)
  refine l_of (s_val (v := .bool x.intr) (wt0 rfl) rfl rfl (x_assign rfl rfl) ?_)
  refine g_nil ?_
  refine g_then ?_
  refine g_ret ?_
  refine fin_ret [.tmp 2] [.bool x.intr] rfl ⟨rfl, trivial⟩ ?_
  exact ⟨by unfold qI; simp [tupled], H3.mask [false, true]⟩
theorem intr_f (D : Rv → Prop) : FunC Tryz.prog 65 #[] #[] (Big []) (fun x : Rv => [x.v]) (fun x => .bool (qI x)) D :=
  FunC.pure (by kernel_rfl) fun x _ w => intr_s x w
set_option maxRecDepth 20000 in
set_option maxHeartbeats 4000000 in
set_option maxRecDepth 20000 in
set_option maxHeartbeats 4000000 in
theorem last_s (b : Nat) (gf : Nat) (figf cagf : Array Value) (X : Item) (q : Rv → Bool) (D : Rv → Prop) (hf : FunC Tryz.prog gf figf cagf X (fun x : Rv => [x.v]) (fun x => .bool (q x)) D) (x : Rv) (hx : D x)  (w : World) (HS : S w [Ob b (.cells #[.func (.func gf) figf cagf] 39 (0, 0)), X]) : Calls Tryz.prog 64 #[.agg #[.int .i64 (x.id), .bool x.intr, .bool x.chk, .int .i64 (x.frm), .int .i64 (x.to), .int .i64 (x.lt), .int .i64 (x.since), .bool x.snb, .bool x.now, .bool x.seed], .pointer (some ⟨b, 0, none⟩)] w fun e w' => e = .returned (.int .i64 (if q x = true then 0 else x.lt)) ∧ S w' ([Ob b (.cells #[.func (.func gf) figf cagf] 39 (0, 0)), X] ++ [Old w (fps [Ob b (.cells #[.func (.func gf) figf cagf] 39 (0, 0)), X])]) := by
  have H00 := HS.beginI
  have H0 : S w ([Ob b (.cells #[.func (.func gf) figf cagf] 39 (0, 0)), X, Old w (fps [Ob b (.cells #[.func (.func gf) figf cagf] 39 (0, 0)), X])]) := H00
  refine enter 9 Tryz.func64 rfl rfl rfl ?_
  refine g_weak [(0, .agg #[.int .i64 (x.id), .bool x.intr, .bool x.chk, .int .i64 (x.frm), .int .i64 (x.to), .int .i64 (x.lt), .int .i64 (x.since), .bool x.snb, .bool x.now, .bool x.seed]), (1, .pointer (some ⟨b, 0, none⟩))] ⟨rfl, rfl, trivial⟩ ?_
  refine g_seq ?_
  refine g_region ?_
  refine l_of (s_box H0 (wt0 rfl) rfl rfl rfl rfl ?_)
  intro g1 wq2 H3
  refine l_of (s_val (v := .int .i64 0) (wt0 rfl) rfl rfl (x_assign rfl rfl) ?_)
  refine g_nil ?_
  refine g_then ?_
  refine g_seq ?_
  refine g_seq ?_
  refine g_region ?_
  refine l_of (s_val (v := .func (.func gf) figf cagf) (wt0 rfl) rfl rfl (x_load1 H3 1 rfl rfl Tryz.underlying39 rfl rfl rfl) ?_)
  refine l_of (s_val (v := .agg #[.int .i64 (x.id), .bool x.intr, .bool x.chk, .int .i64 (x.frm), .int .i64 (x.to), .int .i64 (x.lt), .int .i64 (x.since), .bool x.snb, .bool x.now, .bool x.seed]) (wt0 rfl) rfl rfl (x_loadA H3 0 rfl rfl Tryz.underlying30 rfl sz30 rfl rfl rfl) ?_)
  refine l_of (s_call (wt0 rfl) (x_call rfl rfl rfl hf.ok) (hf.does x (hx) _ (H3.takes [2] (by decide))) ?_)
  rintro _ wq4 ⟨rfl, H5⟩
  replace H5 : S wq4 [X, Ob g1 (.cells #[.int .i64 (x.id), .bool x.intr, .bool x.chk, .int .i64 (x.frm), .int .i64 (x.to), .int .i64 (x.lt), .int .i64 (x.since), .bool x.snb, .bool x.now, .bool x.seed] 30 (0, 0)), Ob b (.cells #[.func (.func gf) figf cagf] 39 (0, 0)), Old w (fps [Ob b (.cells #[.func (.func gf) figf cagf] 39 (0, 0)), X])] := H3.absorbI (new := [X]) [2] H5
  refine b_ret rfl rfl ?_
  refine g_nil ?_
  refine g_then ?_
  rcases Bool.eq_false_or_eq_true (q x) with hb6 | hb6
  · skip
    refine g_cond_t rfl hb6 ?_
    refine g_seq ?_
    refine g_region ?_
    refine l_of (s_val (v := .int .i64 0) (wt0 rfl) rfl rfl (x_assign rfl rfl) ?_)
    refine g_nil ?_
    refine g_then ?_
    refine g_ret ?_
    refine g_then_ret ?_
    refine fin_ret [.tmp 3] [.int .i64 0] rfl ⟨rfl, trivial⟩ ?_
    exact ⟨by rw [if_pos hb6]; rfl, H5.takes [2, 0, 3] (by decide)⟩
  · skip
    refine g_cond_f rfl hb6 ?_
    refine g_skip ?_
    refine g_then ?_
    refine g_seq ?_
    refine g_region ?_
    refine l_of (s_val (v := .pointer (some ⟨g1, 5, none⟩)) (wt0 rfl) rfl rfl (x_fieldAddr rfl rfl fo30_5 rfl) ?_)
    refine l_of (s_val (v := .int .i64 (x.lt)) (wt0 rfl) rfl rfl (x_load1 H5 1 rfl rfl Tryz.underlying3 rfl rfl rfl) ?_)
    refine l_of (s_val (v := .int .i64 (x.lt)) (wt0 rfl) rfl rfl (x_assign rfl rfl) ?_)
    refine g_nil ?_
    refine g_then ?_
    refine g_ret ?_
    refine fin_ret [.tmp 3] [.int .i64 (x.lt)] rfl ⟨rfl, trivial⟩ ?_
    exact ⟨by rw [if_neg (by rw [hb6]; decide)]; rfl, H5.takes [2, 0, 3] (by decide)⟩
theorem last_f (b : Nat) (gf : Nat) (figf cagf : Array Value) (X : Item) (q : Rv → Bool) (D : Rv → Prop) (hf : FunC Tryz.prog gf figf cagf X (fun x : Rv => [x.v]) (fun x => .bool (q x)) D) : FunC Tryz.prog 64 #[] #[.pointer (some ⟨b, 0, none⟩)] (Big [Ob b (.cells #[.func (.func gf) figf cagf] 39 (0, 0)), X]) (fun x : Rv => [x.v]) (fun x => .int .i64 (if q x = true then 0 else x.lt)) D :=
  FunC.ofBig (by kernel_rfl) fun z hb w HS => last_s b gf figf cagf X q D hf _ hb w HS
set_option maxRecDepth 20000 in
set_option maxHeartbeats 4000000 in
set_option maxRecDepth 20000 in
set_option maxHeartbeats 4000000 in
theorem way3_s (round slots : Int) (seed : ByteArray) (l : List Rv) (p : Option Addr) (n c : Nat) (hn2 : n ≤ 1000000) (hval : ∀ x ∈ l, validR x = true)  (w : World) (hr : Reads w p n c 10 (fl rvL l)) : Calls Tryz.prog 62 #[.agg #[.int .i64 round, .int .i64 slots, .string seed, .slice p n c]] w fun e w' => ∃ p' c', e = .returned (.slice p' (min (sorted3 l).length slots.toNat) c') ∧ S w' ([Rw 30 10 p' (sorted3 l).length c' (fl rvL (sorted3 l))] ++ [Old w no]) := by
  have H0 := S.old w
  have hnl := hr.lenL rvE
  have hle3a := srt_len Rv.zero c3 (l.filter qI)
  have hle3b := List.length_filter_le qI l
  refine enter 21 Tryz.func62 rfl rfl rfl ?_
  refine g_weak [(0, .agg #[.int .i64 round, .int .i64 slots, .string seed, .slice p n c])] ⟨rfl, trivial⟩ ?_
  refine g_seq ?_
  refine g_region ?_
  refine l_of (s_box H0 (wt0 rfl) rfl rfl rfl rfl ?_)
  intro g1 wq2 H3
  refine l_of (s_val (v := .slice none 0 0) (wt0 rfl) rfl rfl (x_assign rfl rfl) ?_)
  refine g_nil ?_
  refine g_then ?_
  refine g_seq ?_
  refine g_region ?_
  refine l_of (s_alloc H3 (wt0 rfl) rfl rfl rfl ze39 ?_)
  intro g4 wq5 H6
  refine l_of (s_store H6 0 (wt0 rfl) rfl rfl rfl rfl rfl sz39 rfl rfl (cs' := #[.func (.func 63) #[] #[]]) rfl ?_)
  intro wq7 H8
  refine g_nil ?_
  refine g_then ?_
  refine g_seq ?_
  refine g_region ?_
  refine l_of (s_val (v := .func (.func 64) #[] #[.pointer (some ⟨g4, 0, none⟩)]) (wt0 rfl) rfl rfl (x_makeFunc rfl rfl rfl) ?_)
  refine l_of (s_call (wt0 rfl) (x_call' rfl rfl cl53) (less_s 64 #[] #[.pointer (some ⟨g4, 0, none⟩)] _) ?_)
  rintro _ wq10 ⟨bl9, rfl, H11⟩
  replace H11 : S wq10 [Ob bl9 (.cells #[.func (.func 64) #[] #[.pointer (some ⟨g4, 0, none⟩)]] 77 (0, 0)), Ob g4 (.cells #[.func (.func 63) #[] #[]] 39 (0, 0)), Ob g1 (.cells #[.int .i64 round, .int .i64 slots, .string seed, .slice p n c] 62 (0, 0)), Old w no] := H8.absorb (new := [Ob bl9 (.cells #[.func (.func 64) #[] #[.pointer (some ⟨g4, 0, none⟩)]] 77 (0, 0))]) H11
  refine b_ret rfl rfl ?_
  refine l_of (s_val (v := .func (.func 85) #[] #[.pointer (some ⟨bl9, 0, none⟩)]) (wt0 rfl) rfl rfl (x_assign rfl rfl) ?_)
  refine g_nil ?_
  refine g_then ?_
  refine g_seq ?_
  refine g_anyY [] (fun wx => S wx [Ob g4 (.cells #[.func (.func 63) #[] #[]] 39 (0, 0)), Ob g1 (.cells #[.int .i64 round, .int .i64 slots, .string seed, .slice p n c] 62 (0, 0))]) (fun wx => S wx [Ob g4 (.cells #[.func (.func 63) #[] #[]] 39 (0, 0)), Ob g1 (.cells #[.int .i64 round, .int .i64 slots, .string seed, .slice p n c] 62 (0, 0))]) [] (by kernel_rfl) H11 (fun wq12 H13 => ?_)
  refine y_pure (v := .pointer (some ⟨g1, 3, none⟩)) 0 rfl (wt0 rfl) rfl rfl rfl (by kernel_rfl) (by kernel_rfl) (by kernel_rfl) (by kernel_rfl) (fun wx => x_fieldAddr rfl rfl fo62_3 rfl) ?_
  refine y_take (v := .slice p n c) 1 rfl (wt0 rfl) rfl rfl rfl (by kernel_rfl) (by kernel_rfl) (by kernel_rfl) (by kernel_rfl) (by kernel_rfl) (H13.mask [false, true, true, false]) (fun wx H => x_load1 H 1 rfl rfl Tryz.underlying22 rfl rfl rfl) ?_
  refine y_take (v := .func (.func 63) #[] #[]) 2 rfl (wt0 rfl) rfl rfl rfl (by kernel_rfl) (by kernel_rfl) (by kernel_rfl) (by kernel_rfl) (by kernel_rfl) (H13.mask [false, true, true, false]) (fun wx H => x_load1 H 0 rfl rfl Tryz.underlying39 rfl rfl rfl) ?_
  refine y_pure (v := .func (.func 85) #[] #[.pointer (some ⟨bl9, 0, none⟩)]) 4 rfl (wt0 rfl) rfl rfl rfl (by kernel_rfl) (by kernel_rfl) (by kernel_rfl) (by kernel_rfl) (fun wx => x_move rfl rfl) ?_
  refine y_one (i := 3) (by kernel_rfl) rfl ?_
  refine s_call (wt0 rfl) (x_call' rfl rfl cl51) (ahead_s 63 #[] #[] _) ?_
  rintro _ wq16 ⟨bl14, bl15, rfl, H17⟩
  replace H17 : S wq16 [Ob bl14 (.cells #[.func (.func 84) #[] #[.pointer (some ⟨bl15, 0, none⟩)]] 77 (0, 0)), Ob bl15 (.cells #[.func (.func 63) #[] #[]] 39 (0, 0)), Ob bl9 (.cells #[.func (.func 64) #[] #[.pointer (some ⟨g4, 0, none⟩)]] 77 (0, 0)), Ob g4 (.cells #[.func (.func 63) #[] #[]] 39 (0, 0)), Ob g1 (.cells #[.int .i64 round, .int .i64 slots, .string seed, .slice p n c] 62 (0, 0)), Old w no] := H13.absorb (new := [Ob bl14 (.cells #[.func (.func 84) #[] #[.pointer (some ⟨bl15, 0, none⟩)]] 77 (0, 0)), Ob bl15 (.cells #[.func (.func 63) #[] #[]] 39 (0, 0))]) H17
  refine b_ret rfl rfl ?_
  refine y_k (H17.mask [false, false, false, true, true, false]) (H17.mask [false, false, false, true, true, false]) ?_
  refine y_one (i := 5) (by kernel_rfl) rfl ?_
  refine s_call (wt0 rfl) (x_call' rfl rfl cl53) (less_s 55 #[] #[] _) ?_
  rintro _ wq19 ⟨bl18, rfl, H20⟩
  replace H20 : S wq19 [Ob bl18 (.cells #[.func (.func 55) #[] #[]] 77 (0, 0)), Ob bl14 (.cells #[.func (.func 84) #[] #[.pointer (some ⟨bl15, 0, none⟩)]] 77 (0, 0)), Ob bl15 (.cells #[.func (.func 63) #[] #[]] 39 (0, 0)), Ob bl9 (.cells #[.func (.func 64) #[] #[.pointer (some ⟨g4, 0, none⟩)]] 77 (0, 0)), Ob g4 (.cells #[.func (.func 63) #[] #[]] 39 (0, 0)), Ob g1 (.cells #[.int .i64 round, .int .i64 slots, .string seed, .slice p n c] 62 (0, 0)), Old w no] := H17.absorb (new := [Ob bl18 (.cells #[.func (.func 55) #[] #[]] 77 (0, 0))]) H20
  refine b_ret rfl rfl ?_
  refine y_k (H20.mask [false, false, false, false, true, true, false]) (H20.mask [false, false, false, false, true, true, false]) ?_
  refine y_one (i := 6) (by kernel_rfl) rfl ?_
  refine s_buildSlice H20 (wt0 rfl) rfl rfl rfl (vs := [.func (.func 85) #[] #[.pointer (some ⟨bl14, 0, none⟩)], .func (.func 85) #[] #[.pointer (some ⟨bl9, 0, none⟩)], .func (.func 85) #[] #[.pointer (some ⟨bl18, 0, none⟩)]]) rfl Tryz.underlying89 sz74 ze74 rfl rfl (cells := #[.func (.func 85) #[] #[.pointer (some ⟨bl14, 0, none⟩)], .func (.func 85) #[] #[.pointer (some ⟨bl9, 0, none⟩)], .func (.func 85) #[] #[.pointer (some ⟨bl18, 0, none⟩)]]) (by kernel_rfl) ?_
  intro g21 wq22 H23
  refine y_k (H23.mask [false, false, false, false, false, true, true, false]) (H23.mask [false, false, false, false, false, true, true, false]) ?_
  refine y_one (i := 7) (by kernel_rfl) rfl ?_
  refine s_call (wt0 rfl) (x_call' rfl rfl cl48) (by_s (some ⟨g21, 0, none⟩) 3 3 _) ?_
  rintro _ wq25 ⟨bl24, rfl, H26⟩
  replace H26 : S wq25 [Ob bl24 (.cells #[.slice (some ⟨g21, 0, none⟩) (3) (3)] 89 (0, 0)), Ob g21 (.cells #[.func (.func 85) #[] #[.pointer (some ⟨bl14, 0, none⟩)], .func (.func 85) #[] #[.pointer (some ⟨bl9, 0, none⟩)], .func (.func 85) #[] #[.pointer (some ⟨bl18, 0, none⟩)]] 74 (0, 0)), Ob bl18 (.cells #[.func (.func 55) #[] #[]] 77 (0, 0)), Ob bl14 (.cells #[.func (.func 84) #[] #[.pointer (some ⟨bl15, 0, none⟩)]] 77 (0, 0)), Ob bl15 (.cells #[.func (.func 63) #[] #[]] 39 (0, 0)), Ob bl9 (.cells #[.func (.func 64) #[] #[.pointer (some ⟨g4, 0, none⟩)]] 77 (0, 0)), Ob g4 (.cells #[.func (.func 63) #[] #[]] 39 (0, 0)), Ob g1 (.cells #[.int .i64 round, .int .i64 slots, .string seed, .slice p n c] 62 (0, 0)), Old w no] := H23.absorb (new := [Ob bl24 (.cells #[.slice (some ⟨g21, 0, none⟩) (3) (3)] 89 (0, 0))]) H26
  refine b_ret rfl rfl ?_
  refine y_k (H26.mask [false, false, false, false, false, false, true, true, false]) (H26.mask [false, false, false, false, false, false, true, true, false]) ?_
  refine y_one (i := 8) (by kernel_rfl) rfl ?_
  have H27 : S wq25 [(Big []), Ob bl24 (.cells #[.slice (some ⟨g21, 0, none⟩) (3) (3)] 89 (0, 0)), Ob g21 (.cells #[.func (.func 85) #[] #[.pointer (some ⟨bl14, 0, none⟩)], .func (.func 85) #[] #[.pointer (some ⟨bl9, 0, none⟩)], .func (.func 85) #[] #[.pointer (some ⟨bl18, 0, none⟩)]] 74 (0, 0)), Ob bl18 (.cells #[.func (.func 55) #[] #[]] 77 (0, 0)), Ob bl14 (.cells #[.func (.func 84) #[] #[.pointer (some ⟨bl15, 0, none⟩)]] 77 (0, 0)), Ob bl15 (.cells #[.func (.func 63) #[] #[]] 39 (0, 0)), Ob bl9 (.cells #[.func (.func 64) #[] #[.pointer (some ⟨g4, 0, none⟩)]] 77 (0, 0)), Ob g4 (.cells #[.func (.func 63) #[] #[]] 39 (0, 0)), Ob g1 (.cells #[.int .i64 round, .int .i64 slots, .string seed, .slice p n c] 62 (0, 0)), Old w no] := H26.addNil
  have H28 : S wq25 [(Big [Ob bl15 (.cells #[.func (.func 63) #[] #[]] 39 (0, 0)), (Big [])]), Ob bl24 (.cells #[.slice (some ⟨g21, 0, none⟩) (3) (3)] 89 (0, 0)), Ob g21 (.cells #[.func (.func 85) #[] #[.pointer (some ⟨bl14, 0, none⟩)], .func (.func 85) #[] #[.pointer (some ⟨bl9, 0, none⟩)], .func (.func 85) #[] #[.pointer (some ⟨bl18, 0, none⟩)]] 74 (0, 0)), Ob bl18 (.cells #[.func (.func 55) #[] #[]] 77 (0, 0)), Ob bl14 (.cells #[.func (.func 84) #[] #[.pointer (some ⟨bl15, 0, none⟩)]] 77 (0, 0)), Ob bl9 (.cells #[.func (.func 64) #[] #[.pointer (some ⟨g4, 0, none⟩)]] 77 (0, 0)), Ob g4 (.cells #[.func (.func 63) #[] #[]] 39 (0, 0)), Ob g1 (.cells #[.int .i64 round, .int .i64 slots, .string seed, .slice p n c] 62 (0, 0)), Old w no] := S.big (L := [Ob bl15 (.cells #[.func (.func 63) #[] #[]] 39 (0, 0)), (Big [])]) (H27.takes [5, 0, 1, 2, 3, 4, 6, 7, 8, 9] (by decide))
  have H29 : S wq25 [(Big [Ob bl14 (.cells #[.func (.func 84) #[] #[.pointer (some ⟨bl15, 0, none⟩)]] 77 (0, 0)), (Big [Ob bl15 (.cells #[.func (.func 63) #[] #[]] 39 (0, 0)), (Big [])])]), Ob bl24 (.cells #[.slice (some ⟨g21, 0, none⟩) (3) (3)] 89 (0, 0)), Ob g21 (.cells #[.func (.func 85) #[] #[.pointer (some ⟨bl14, 0, none⟩)], .func (.func 85) #[] #[.pointer (some ⟨bl9, 0, none⟩)], .func (.func 85) #[] #[.pointer (some ⟨bl18, 0, none⟩)]] 74 (0, 0)), Ob bl18 (.cells #[.func (.func 55) #[] #[]] 77 (0, 0)), Ob bl9 (.cells #[.func (.func 64) #[] #[.pointer (some ⟨g4, 0, none⟩)]] 77 (0, 0)), Ob g4 (.cells #[.func (.func 63) #[] #[]] 39 (0, 0)), Ob g1 (.cells #[.int .i64 round, .int .i64 slots, .string seed, .slice p n c] 62 (0, 0)), Old w no] := S.big (L := [Ob bl14 (.cells #[.func (.func 84) #[] #[.pointer (some ⟨bl15, 0, none⟩)]] 77 (0, 0)), (Big [Ob bl15 (.cells #[.func (.func 63) #[] #[]] 39 (0, 0)), (Big [])])]) (H28.takes [4, 0, 1, 2, 3, 5, 6, 7, 8] (by decide))
  have H30 : S wq25 [(Big []), (Big [Ob bl14 (.cells #[.func (.func 84) #[] #[.pointer (some ⟨bl15, 0, none⟩)]] 77 (0, 0)), (Big [Ob bl15 (.cells #[.func (.func 63) #[] #[]] 39 (0, 0)), (Big [])])]), Ob bl24 (.cells #[.slice (some ⟨g21, 0, none⟩) (3) (3)] 89 (0, 0)), Ob g21 (.cells #[.func (.func 85) #[] #[.pointer (some ⟨bl14, 0, none⟩)], .func (.func 85) #[] #[.pointer (some ⟨bl9, 0, none⟩)], .func (.func 85) #[] #[.pointer (some ⟨bl18, 0, none⟩)]] 74 (0, 0)), Ob bl18 (.cells #[.func (.func 55) #[] #[]] 77 (0, 0)), Ob bl9 (.cells #[.func (.func 64) #[] #[.pointer (some ⟨g4, 0, none⟩)]] 77 (0, 0)), Ob g4 (.cells #[.func (.func 63) #[] #[]] 39 (0, 0)), Ob g1 (.cells #[.int .i64 round, .int .i64 slots, .string seed, .slice p n c] 62 (0, 0)), Old w no] := H29.addNil
  have H31 : S wq25 [(Big [Ob g4 (.cells #[.func (.func 63) #[] #[]] 39 (0, 0)), (Big [])]), (Big [Ob bl14 (.cells #[.func (.func 84) #[] #[.pointer (some ⟨bl15, 0, none⟩)]] 77 (0, 0)), (Big [Ob bl15 (.cells #[.func (.func 63) #[] #[]] 39 (0, 0)), (Big [])])]), Ob bl24 (.cells #[.slice (some ⟨g21, 0, none⟩) (3) (3)] 89 (0, 0)), Ob g21 (.cells #[.func (.func 85) #[] #[.pointer (some ⟨bl14, 0, none⟩)], .func (.func 85) #[] #[.pointer (some ⟨bl9, 0, none⟩)], .func (.func 85) #[] #[.pointer (some ⟨bl18, 0, none⟩)]] 74 (0, 0)), Ob bl18 (.cells #[.func (.func 55) #[] #[]] 77 (0, 0)), Ob bl9 (.cells #[.func (.func 64) #[] #[.pointer (some ⟨g4, 0, none⟩)]] 77 (0, 0)), Ob g1 (.cells #[.int .i64 round, .int .i64 slots, .string seed, .slice p n c] 62 (0, 0)), Old w no] := S.big (L := [Ob g4 (.cells #[.func (.func 63) #[] #[]] 39 (0, 0)), (Big [])]) (H30.takes [6, 0, 1, 2, 3, 4, 5, 7, 8] (by decide))
  have H32 : S wq25 [(Big [Ob bl9 (.cells #[.func (.func 64) #[] #[.pointer (some ⟨g4, 0, none⟩)]] 77 (0, 0)), (Big [Ob g4 (.cells #[.func (.func 63) #[] #[]] 39 (0, 0)), (Big [])])]), (Big [Ob bl14 (.cells #[.func (.func 84) #[] #[.pointer (some ⟨bl15, 0, none⟩)]] 77 (0, 0)), (Big [Ob bl15 (.cells #[.func (.func 63) #[] #[]] 39 (0, 0)), (Big [])])]), Ob bl24 (.cells #[.slice (some ⟨g21, 0, none⟩) (3) (3)] 89 (0, 0)), Ob g21 (.cells #[.func (.func 85) #[] #[.pointer (some ⟨bl14, 0, none⟩)], .func (.func 85) #[] #[.pointer (some ⟨bl9, 0, none⟩)], .func (.func 85) #[] #[.pointer (some ⟨bl18, 0, none⟩)]] 74 (0, 0)), Ob bl18 (.cells #[.func (.func 55) #[] #[]] 77 (0, 0)), Ob g1 (.cells #[.int .i64 round, .int .i64 slots, .string seed, .slice p n c] 62 (0, 0)), Old w no] := S.big (L := [Ob bl9 (.cells #[.func (.func 64) #[] #[.pointer (some ⟨g4, 0, none⟩)]] 77 (0, 0)), (Big [Ob g4 (.cells #[.func (.func 63) #[] #[]] 39 (0, 0)), (Big [])])]) (H31.takes [5, 0, 1, 2, 3, 4, 6, 7] (by decide))
  have H33 : S wq25 [(Big []), (Big [Ob bl9 (.cells #[.func (.func 64) #[] #[.pointer (some ⟨g4, 0, none⟩)]] 77 (0, 0)), (Big [Ob g4 (.cells #[.func (.func 63) #[] #[]] 39 (0, 0)), (Big [])])]), (Big [Ob bl14 (.cells #[.func (.func 84) #[] #[.pointer (some ⟨bl15, 0, none⟩)]] 77 (0, 0)), (Big [Ob bl15 (.cells #[.func (.func 63) #[] #[]] 39 (0, 0)), (Big [])])]), Ob bl24 (.cells #[.slice (some ⟨g21, 0, none⟩) (3) (3)] 89 (0, 0)), Ob g21 (.cells #[.func (.func 85) #[] #[.pointer (some ⟨bl14, 0, none⟩)], .func (.func 85) #[] #[.pointer (some ⟨bl9, 0, none⟩)], .func (.func 85) #[] #[.pointer (some ⟨bl18, 0, none⟩)]] 74 (0, 0)), Ob bl18 (.cells #[.func (.func 55) #[] #[]] 77 (0, 0)), Ob g1 (.cells #[.int .i64 round, .int .i64 slots, .string seed, .slice p n c] 62 (0, 0)), Old w no] := H32.addNil
  have H34 : S wq25 [(Big [Ob bl18 (.cells #[.func (.func 55) #[] #[]] 77 (0, 0)), (Big [])]), (Big [Ob bl9 (.cells #[.func (.func 64) #[] #[.pointer (some ⟨g4, 0, none⟩)]] 77 (0, 0)), (Big [Ob g4 (.cells #[.func (.func 63) #[] #[]] 39 (0, 0)), (Big [])])]), (Big [Ob bl14 (.cells #[.func (.func 84) #[] #[.pointer (some ⟨bl15, 0, none⟩)]] 77 (0, 0)), (Big [Ob bl15 (.cells #[.func (.func 63) #[] #[]] 39 (0, 0)), (Big [])])]), Ob bl24 (.cells #[.slice (some ⟨g21, 0, none⟩) (3) (3)] 89 (0, 0)), Ob g21 (.cells #[.func (.func 85) #[] #[.pointer (some ⟨bl14, 0, none⟩)], .func (.func 85) #[] #[.pointer (some ⟨bl9, 0, none⟩)], .func (.func 85) #[] #[.pointer (some ⟨bl18, 0, none⟩)]] 74 (0, 0)), Ob g1 (.cells #[.int .i64 round, .int .i64 slots, .string seed, .slice p n c] 62 (0, 0)), Old w no] := S.big (L := [Ob bl18 (.cells #[.func (.func 55) #[] #[]] 77 (0, 0)), (Big [])]) (H33.takes [5, 0, 1, 2, 3, 4, 6, 7] (by decide))
  have H35 : S wq25 [(Big [Ob bl24 (.cells #[.slice (some ⟨g21, 0, none⟩) (3) (3)] 89 (0, 0)), Ob g21 (.cells #[.func (.func 85) #[] #[.pointer (some ⟨bl14, 0, none⟩)], .func (.func 85) #[] #[.pointer (some ⟨bl9, 0, none⟩)], .func (.func 85) #[] #[.pointer (some ⟨bl18, 0, none⟩)]] 74 (0, 0)), (Big [Ob bl14 (.cells #[.func (.func 84) #[] #[.pointer (some ⟨bl15, 0, none⟩)]] 77 (0, 0)), (Big [Ob bl15 (.cells #[.func (.func 63) #[] #[]] 39 (0, 0)), (Big [])])]), (Big [Ob bl9 (.cells #[.func (.func 64) #[] #[.pointer (some ⟨g4, 0, none⟩)]] 77 (0, 0)), (Big [Ob g4 (.cells #[.func (.func 63) #[] #[]] 39 (0, 0)), (Big [])])]), (Big [Ob bl18 (.cells #[.func (.func 55) #[] #[]] 77 (0, 0)), (Big [])])]), Ob g1 (.cells #[.int .i64 round, .int .i64 slots, .string seed, .slice p n c] 62 (0, 0)), Old w no] := S.big (L := [Ob bl24 (.cells #[.slice (some ⟨g21, 0, none⟩) (3) (3)] 89 (0, 0)), Ob g21 (.cells #[.func (.func 85) #[] #[.pointer (some ⟨bl14, 0, none⟩)], .func (.func 85) #[] #[.pointer (some ⟨bl9, 0, none⟩)], .func (.func 85) #[] #[.pointer (some ⟨bl18, 0, none⟩)]] 74 (0, 0)), (Big [Ob bl14 (.cells #[.func (.func 84) #[] #[.pointer (some ⟨bl15, 0, none⟩)]] 77 (0, 0)), (Big [Ob bl15 (.cells #[.func (.func 63) #[] #[]] 39 (0, 0)), (Big [])])]), (Big [Ob bl9 (.cells #[.func (.func 64) #[] #[.pointer (some ⟨g4, 0, none⟩)]] 77 (0, 0)), (Big [Ob g4 (.cells #[.func (.func 63) #[] #[]] 39 (0, 0)), (Big [])])]), (Big [Ob bl18 (.cells #[.func (.func 55) #[] #[]] 77 (0, 0)), (Big [])])]) (H34.takes [3, 4, 2, 1, 0, 5, 6] (by decide))
  have H36 : S wq25 [(Big []), (Big [Ob bl24 (.cells #[.slice (some ⟨g21, 0, none⟩) (3) (3)] 89 (0, 0)), Ob g21 (.cells #[.func (.func 85) #[] #[.pointer (some ⟨bl14, 0, none⟩)], .func (.func 85) #[] #[.pointer (some ⟨bl9, 0, none⟩)], .func (.func 85) #[] #[.pointer (some ⟨bl18, 0, none⟩)]] 74 (0, 0)), (Big [Ob bl14 (.cells #[.func (.func 84) #[] #[.pointer (some ⟨bl15, 0, none⟩)]] 77 (0, 0)), (Big [Ob bl15 (.cells #[.func (.func 63) #[] #[]] 39 (0, 0)), (Big [])])]), (Big [Ob bl9 (.cells #[.func (.func 64) #[] #[.pointer (some ⟨g4, 0, none⟩)]] 77 (0, 0)), (Big [Ob g4 (.cells #[.func (.func 63) #[] #[]] 39 (0, 0)), (Big [])])]), (Big [Ob bl18 (.cells #[.func (.func 55) #[] #[]] 77 (0, 0)), (Big [])])]), Ob g1 (.cells #[.int .i64 round, .int .i64 slots, .string seed, .slice p n c] 62 (0, 0)), Old w no] := H35.addNil
  refine s_call (wt0 rfl) (x_call' rfl rfl cl38) (which_s l p n c (by omega) 65 #[] #[] (Big []) qI (fun _ => True) (intr_f _) 82 #[] #[.pointer (some ⟨bl24, 0, none⟩)] (Big [Ob bl24 (.cells #[.slice (some ⟨g21, 0, none⟩) (3) (3)] 89 (0, 0)), Ob g21 (.cells #[.func (.func 85) #[] #[.pointer (some ⟨bl14, 0, none⟩)], .func (.func 85) #[] #[.pointer (some ⟨bl9, 0, none⟩)], .func (.func 85) #[] #[.pointer (some ⟨bl18, 0, none⟩)]] 74 (0, 0)), (Big [Ob bl14 (.cells #[.func (.func 84) #[] #[.pointer (some ⟨bl15, 0, none⟩)]] 77 (0, 0)), (Big [Ob bl15 (.cells #[.func (.func 63) #[] #[]] 39 (0, 0)), (Big [])])]), (Big [Ob bl9 (.cells #[.func (.func 64) #[] #[.pointer (some ⟨g4, 0, none⟩)]] 77 (0, 0)), (Big [Ob g4 (.cells #[.func (.func 63) #[] #[]] 39 (0, 0)), (Big [])])]), (Big [Ob bl18 (.cells #[.func (.func 55) #[] #[]] 77 (0, 0)), (Big [])])]) c3 DV (by1_3f bl24 g21 DV 85 #[] #[.pointer (some ⟨bl14, 0, none⟩)] (Big [Ob bl14 (.cells #[.func (.func 84) #[] #[.pointer (some ⟨bl15, 0, none⟩)]] 77 (0, 0)), (Big [Ob bl15 (.cells #[.func (.func 63) #[] #[]] 39 (0, 0)), (Big [])])]) (fun x y : Rv => stN x - stN y) (less1_f bl14 84 #[] #[.pointer (some ⟨bl15, 0, none⟩)] (Big [Ob bl15 (.cells #[.func (.func 63) #[] #[]] 39 (0, 0)), (Big [])]) stN DV (ahead1_f bl15 63 #[] #[] (Big []) stB DV (stays_f DV)) (fun x y _ _ => by unfold stN; split <;> split <;> omega)) 85 #[] #[.pointer (some ⟨bl9, 0, none⟩)] (Big [Ob bl9 (.cells #[.func (.func 64) #[] #[.pointer (some ⟨g4, 0, none⟩)]] 77 (0, 0)), (Big [Ob g4 (.cells #[.func (.func 63) #[] #[]] 39 (0, 0)), (Big [])])]) (fun x y : Rv => lastN x - lastN y) (less1_f bl9 64 #[] #[.pointer (some ⟨g4, 0, none⟩)] (Big [Ob g4 (.cells #[.func (.func 63) #[] #[]] 39 (0, 0)), (Big [])]) lastN DV (last_f g4 63 #[] #[] (Big []) stB DV (stays_f DV)) (fun x y h1 h2 => by unfold DV at h1 h2; unfold lastN; split <;> split <;> omega)) 85 #[] #[.pointer (some ⟨bl18, 0, none⟩)] (Big [Ob bl18 (.cells #[.func (.func 55) #[] #[]] 77 (0, 0)), (Big [])]) (fun x y : Rv => Rv.id x - Rv.id y) (less1_f bl18 55 #[] #[] (Big []) Rv.id DV (byID_f DV) (fun x y h1 h2 => by unfold DV at h1 h2; omega))) (fun _ _ => trivial) (fun x hx => validR_D (hval x hx)) _ (H36.takes [0, 1] (by decide)) (H36.staysOld (i := 3) (k1 := 0) (k2 := 1) rfl rfl rfl (by decide) (by decide) hr (by decide) (fun _ _ _ h => h))) ?_
  rintro _ wq37 ⟨pw3, cw3, rfl, H38⟩
  replace H38 : S wq37 [Rw 30 10 pw3 ((srt Rv.zero c3 (l.filter qI)).length) cw3 (fl rvL (srt Rv.zero c3 (l.filter qI))), (Big []), (Big [Ob bl24 (.cells #[.slice (some ⟨g21, 0, none⟩) (3) (3)] 89 (0, 0)), Ob g21 (.cells #[.func (.func 85) #[] #[.pointer (some ⟨bl14, 0, none⟩)], .func (.func 85) #[] #[.pointer (some ⟨bl9, 0, none⟩)], .func (.func 85) #[] #[.pointer (some ⟨bl18, 0, none⟩)]] 74 (0, 0)), (Big [Ob bl14 (.cells #[.func (.func 84) #[] #[.pointer (some ⟨bl15, 0, none⟩)]] 77 (0, 0)), (Big [Ob bl15 (.cells #[.func (.func 63) #[] #[]] 39 (0, 0)), (Big [])])]), (Big [Ob bl9 (.cells #[.func (.func 64) #[] #[.pointer (some ⟨g4, 0, none⟩)]] 77 (0, 0)), (Big [Ob g4 (.cells #[.func (.func 63) #[] #[]] 39 (0, 0)), (Big [])])]), (Big [Ob bl18 (.cells #[.func (.func 55) #[] #[]] 77 (0, 0)), (Big [])])]), Ob g1 (.cells #[.int .i64 round, .int .i64 slots, .string seed, .slice p n c] 62 (0, 0)), Old w no] := H36.absorbI (new := [Rw 30 10 pw3 ((srt Rv.zero c3 (l.filter qI)).length) cw3 (fl rvL (srt Rv.zero c3 (l.filter qI))), (Big []), (Big [Ob bl24 (.cells #[.slice (some ⟨g21, 0, none⟩) (3) (3)] 89 (0, 0)), Ob g21 (.cells #[.func (.func 85) #[] #[.pointer (some ⟨bl14, 0, none⟩)], .func (.func 85) #[] #[.pointer (some ⟨bl9, 0, none⟩)], .func (.func 85) #[] #[.pointer (some ⟨bl18, 0, none⟩)]] 74 (0, 0)), (Big [Ob bl14 (.cells #[.func (.func 84) #[] #[.pointer (some ⟨bl15, 0, none⟩)]] 77 (0, 0)), (Big [Ob bl15 (.cells #[.func (.func 63) #[] #[]] 39 (0, 0)), (Big [])])]), (Big [Ob bl9 (.cells #[.func (.func 64) #[] #[.pointer (some ⟨g4, 0, none⟩)]] 77 (0, 0)), (Big [Ob g4 (.cells #[.func (.func 63) #[] #[]] 39 (0, 0)), (Big [])])]), (Big [Ob bl18 (.cells #[.func (.func 55) #[] #[]] 77 (0, 0)), (Big [])])])]) [0, 1] H38
  have H39 : S wq37 [Ob bl24 (.cells #[.slice (some ⟨g21, 0, none⟩) (3) (3)] 89 (0, 0)), Ob g21 (.cells #[.func (.func 85) #[] #[.pointer (some ⟨bl14, 0, none⟩)], .func (.func 85) #[] #[.pointer (some ⟨bl9, 0, none⟩)], .func (.func 85) #[] #[.pointer (some ⟨bl18, 0, none⟩)]] 74 (0, 0)), (Big [Ob bl14 (.cells #[.func (.func 84) #[] #[.pointer (some ⟨bl15, 0, none⟩)]] 77 (0, 0)), (Big [Ob bl15 (.cells #[.func (.func 63) #[] #[]] 39 (0, 0)), (Big [])])]), (Big [Ob bl9 (.cells #[.func (.func 64) #[] #[.pointer (some ⟨g4, 0, none⟩)]] 77 (0, 0)), (Big [Ob g4 (.cells #[.func (.func 63) #[] #[]] 39 (0, 0)), (Big [])])]), (Big [Ob bl18 (.cells #[.func (.func 55) #[] #[]] 77 (0, 0)), (Big [])]), Rw 30 10 pw3 ((srt Rv.zero c3 (l.filter qI)).length) cw3 (fl rvL (srt Rv.zero c3 (l.filter qI))), (Big []), Ob g1 (.cells #[.int .i64 round, .int .i64 slots, .string seed, .slice p n c] 62 (0, 0)), Old w no] := S.unbig (H38.takes [2, 0, 1, 3, 4] (by decide))
  have H40 : S wq37 [Ob bl14 (.cells #[.func (.func 84) #[] #[.pointer (some ⟨bl15, 0, none⟩)]] 77 (0, 0)), (Big [Ob bl15 (.cells #[.func (.func 63) #[] #[]] 39 (0, 0)), (Big [])]), Ob bl24 (.cells #[.slice (some ⟨g21, 0, none⟩) (3) (3)] 89 (0, 0)), Ob g21 (.cells #[.func (.func 85) #[] #[.pointer (some ⟨bl14, 0, none⟩)], .func (.func 85) #[] #[.pointer (some ⟨bl9, 0, none⟩)], .func (.func 85) #[] #[.pointer (some ⟨bl18, 0, none⟩)]] 74 (0, 0)), (Big [Ob bl9 (.cells #[.func (.func 64) #[] #[.pointer (some ⟨g4, 0, none⟩)]] 77 (0, 0)), (Big [Ob g4 (.cells #[.func (.func 63) #[] #[]] 39 (0, 0)), (Big [])])]), (Big [Ob bl18 (.cells #[.func (.func 55) #[] #[]] 77 (0, 0)), (Big [])]), Rw 30 10 pw3 ((srt Rv.zero c3 (l.filter qI)).length) cw3 (fl rvL (srt Rv.zero c3 (l.filter qI))), (Big []), Ob g1 (.cells #[.int .i64 round, .int .i64 slots, .string seed, .slice p n c] 62 (0, 0)), Old w no] := S.unbig (H39.takes [2, 0, 1, 3, 4, 5, 6, 7, 8] (by decide))
  have H41 : S wq37 [Ob bl15 (.cells #[.func (.func 63) #[] #[]] 39 (0, 0)), (Big []), Ob bl14 (.cells #[.func (.func 84) #[] #[.pointer (some ⟨bl15, 0, none⟩)]] 77 (0, 0)), Ob bl24 (.cells #[.slice (some ⟨g21, 0, none⟩) (3) (3)] 89 (0, 0)), Ob g21 (.cells #[.func (.func 85) #[] #[.pointer (some ⟨bl14, 0, none⟩)], .func (.func 85) #[] #[.pointer (some ⟨bl9, 0, none⟩)], .func (.func 85) #[] #[.pointer (some ⟨bl18, 0, none⟩)]] 74 (0, 0)), (Big [Ob bl9 (.cells #[.func (.func 64) #[] #[.pointer (some ⟨g4, 0, none⟩)]] 77 (0, 0)), (Big [Ob g4 (.cells #[.func (.func 63) #[] #[]] 39 (0, 0)), (Big [])])]), (Big [Ob bl18 (.cells #[.func (.func 55) #[] #[]] 77 (0, 0)), (Big [])]), Rw 30 10 pw3 ((srt Rv.zero c3 (l.filter qI)).length) cw3 (fl rvL (srt Rv.zero c3 (l.filter qI))), (Big []), Ob g1 (.cells #[.int .i64 round, .int .i64 slots, .string seed, .slice p n c] 62 (0, 0)), Old w no] := S.unbig (H40.takes [1, 0, 2, 3, 4, 5, 6, 7, 8, 9] (by decide))
  have H42 : S wq37 [Ob bl9 (.cells #[.func (.func 64) #[] #[.pointer (some ⟨g4, 0, none⟩)]] 77 (0, 0)), (Big [Ob g4 (.cells #[.func (.func 63) #[] #[]] 39 (0, 0)), (Big [])]), Ob bl15 (.cells #[.func (.func 63) #[] #[]] 39 (0, 0)), (Big []), Ob bl14 (.cells #[.func (.func 84) #[] #[.pointer (some ⟨bl15, 0, none⟩)]] 77 (0, 0)), Ob bl24 (.cells #[.slice (some ⟨g21, 0, none⟩) (3) (3)] 89 (0, 0)), Ob g21 (.cells #[.func (.func 85) #[] #[.pointer (some ⟨bl14, 0, none⟩)], .func (.func 85) #[] #[.pointer (some ⟨bl9, 0, none⟩)], .func (.func 85) #[] #[.pointer (some ⟨bl18, 0, none⟩)]] 74 (0, 0)), (Big [Ob bl18 (.cells #[.func (.func 55) #[] #[]] 77 (0, 0)), (Big [])]), Rw 30 10 pw3 ((srt Rv.zero c3 (l.filter qI)).length) cw3 (fl rvL (srt Rv.zero c3 (l.filter qI))), (Big []), Ob g1 (.cells #[.int .i64 round, .int .i64 slots, .string seed, .slice p n c] 62 (0, 0)), Old w no] := S.unbig (H41.takes [5, 0, 1, 2, 3, 4, 6, 7, 8, 9, 10] (by decide))
  have H43 : S wq37 [Ob g4 (.cells #[.func (.func 63) #[] #[]] 39 (0, 0)), (Big []), Ob bl9 (.cells #[.func (.func 64) #[] #[.pointer (some ⟨g4, 0, none⟩)]] 77 (0, 0)), Ob bl15 (.cells #[.func (.func 63) #[] #[]] 39 (0, 0)), (Big []), Ob bl14 (.cells #[.func (.func 84) #[] #[.pointer (some ⟨bl15, 0, none⟩)]] 77 (0, 0)), Ob bl24 (.cells #[.slice (some ⟨g21, 0, none⟩) (3) (3)] 89 (0, 0)), Ob g21 (.cells #[.func (.func 85) #[] #[.pointer (some ⟨bl14, 0, none⟩)], .func (.func 85) #[] #[.pointer (some ⟨bl9, 0, none⟩)], .func (.func 85) #[] #[.pointer (some ⟨bl18, 0, none⟩)]] 74 (0, 0)), (Big [Ob bl18 (.cells #[.func (.func 55) #[] #[]] 77 (0, 0)), (Big [])]), Rw 30 10 pw3 ((srt Rv.zero c3 (l.filter qI)).length) cw3 (fl rvL (srt Rv.zero c3 (l.filter qI))), (Big []), Ob g1 (.cells #[.int .i64 round, .int .i64 slots, .string seed, .slice p n c] 62 (0, 0)), Old w no] := S.unbig (H42.takes [1, 0, 2, 3, 4, 5, 6, 7, 8, 9, 10, 11] (by decide))
  have H44 : S wq37 [Ob bl18 (.cells #[.func (.func 55) #[] #[]] 77 (0, 0)), (Big []), Ob g4 (.cells #[.func (.func 63) #[] #[]] 39 (0, 0)), (Big []), Ob bl9 (.cells #[.func (.func 64) #[] #[.pointer (some ⟨g4, 0, none⟩)]] 77 (0, 0)), Ob bl15 (.cells #[.func (.func 63) #[] #[]] 39 (0, 0)), (Big []), Ob bl14 (.cells #[.func (.func 84) #[] #[.pointer (some ⟨bl15, 0, none⟩)]] 77 (0, 0)), Ob bl24 (.cells #[.slice (some ⟨g21, 0, none⟩) (3) (3)] 89 (0, 0)), Ob g21 (.cells #[.func (.func 85) #[] #[.pointer (some ⟨bl14, 0, none⟩)], .func (.func 85) #[] #[.pointer (some ⟨bl9, 0, none⟩)], .func (.func 85) #[] #[.pointer (some ⟨bl18, 0, none⟩)]] 74 (0, 0)), Rw 30 10 pw3 ((srt Rv.zero c3 (l.filter qI)).length) cw3 (fl rvL (srt Rv.zero c3 (l.filter qI))), (Big []), Ob g1 (.cells #[.int .i64 round, .int .i64 slots, .string seed, .slice p n c] 62 (0, 0)), Old w no] := S.unbig (H43.takes [8, 0, 1, 2, 3, 4, 5, 6, 7, 9, 10, 11, 12] (by decide))
  refine b_ret rfl rfl ?_
  refine y_k (H44.mask [false, false, true, false, false, false, false, false, false, false, false, false, true, false]) (H44.mask [false, false, true, false, false, false, false, false, false, false, false, false, true, false]) ?_
  refine y_pure (v := .slice pw3 ((srt Rv.zero c3 (l.filter qI)).length) cw3) 9 rfl (wt0 rfl) rfl rfl rfl (by kernel_rfl) (by kernel_rfl) (by kernel_rfl) (by kernel_rfl) (fun wx => x_assign rfl rfl) ?_
  refine y_done (by kernel_rfl) ?_
  refine g_then ?_
  refine g_weak [(1, .pointer (some ⟨g1, 0, none⟩)), (5, .slice pw3 ((srt Rv.zero c3 (l.filter qI)).length) cw3)] ⟨rfl, rfl, trivial⟩ ?_
  refine g_seq ?_
  refine g_region ?_
  refine l_of (s_val (v := .slice pw3 ((srt Rv.zero c3 (l.filter qI)).length) cw3) (wt0 rfl) rfl rfl (x_move rfl rfl) ?_)
  refine l_of (s_val (v := .pointer (some ⟨g1, 1, none⟩)) (wt0 rfl) rfl rfl (x_fieldAddr rfl rfl fo62_1 rfl) ?_)
  refine l_of (s_val (v := .int .i64 slots) (wt0 rfl) rfl rfl (x_load1 H44 12 rfl rfl Tryz.underlying3 rfl rfl rfl) ?_)
  refine l_of (s_call (wt0 rfl) (x_call' rfl rfl cl58) (front_s (srt Rv.zero c3 (l.filter qI)) pw3 ((srt Rv.zero c3 (l.filter qI)).length) cw3 (by omega) slots _ (H44.rwReads (k := 10) rfl)) ?_)
  rintro _ wq45 ⟨rfl, H46⟩
  replace H46 : S wq45 [Ob bl18 (.cells #[.func (.func 55) #[] #[]] 77 (0, 0)), (Big []), Ob g4 (.cells #[.func (.func 63) #[] #[]] 39 (0, 0)), (Big []), Ob bl9 (.cells #[.func (.func 64) #[] #[.pointer (some ⟨g4, 0, none⟩)]] 77 (0, 0)), Ob bl15 (.cells #[.func (.func 63) #[] #[]] 39 (0, 0)), (Big []), Ob bl14 (.cells #[.func (.func 84) #[] #[.pointer (some ⟨bl15, 0, none⟩)]] 77 (0, 0)), Ob bl24 (.cells #[.slice (some ⟨g21, 0, none⟩) (3) (3)] 89 (0, 0)), Ob g21 (.cells #[.func (.func 85) #[] #[.pointer (some ⟨bl14, 0, none⟩)], .func (.func 85) #[] #[.pointer (some ⟨bl9, 0, none⟩)], .func (.func 85) #[] #[.pointer (some ⟨bl18, 0, none⟩)]] 74 (0, 0)), Rw 30 10 pw3 ((srt Rv.zero c3 (l.filter qI)).length) cw3 (fl rvL (srt Rv.zero c3 (l.filter qI))), (Big []), Ob g1 (.cells #[.int .i64 round, .int .i64 slots, .string seed, .slice p n c] 62 (0, 0)), Old w no] := H44.absorb (new := []) H46
  refine b_ret rfl rfl ?_
  refine l_of (s_val (v := .slice pw3 (min (srt Rv.zero c3 (l.filter qI)).length slots.toNat) cw3) (wt0 rfl) rfl rfl (x_assign rfl rfl) ?_)
  refine g_nil ?_
  refine g_then ?_
  refine g_ret ?_
  refine fin_ret [.tmp 2] [.slice pw3 (min (srt Rv.zero c3 (l.filter qI)).length slots.toNat) cw3] rfl ⟨rfl, trivial⟩ ?_
  exact ⟨_, _, rfl, H46.takes [10, 13] (by decide)⟩
set_option maxRecDepth 20000 in
set_option maxHeartbeats 4000000 in
set_option maxRecDepth 20000 in
set_option maxHeartbeats 4000000 in
theorem ways_s  (w : World) : Calls Tryz.prog 32 #[] w fun e w' => e = .returned (.agg #[.func (.func 46) #[] #[], .func (.func 59) #[] #[], .func (.func 62) #[] #[], .func (.func 66) #[] #[]]) ∧ S w' [Old w no] := by
  have H0 := S.old w
  refine enter 2 Tryz.func32 rfl rfl rfl ?_
  refine g_weak [] trivial ?_
  refine g_seq ?_
  refine g_region ?_
  refine l_of (s_alloc H0 (wt0 rfl) rfl rfl rfl ze59 ?_)
  intro g1 wq2 H3
  refine g_nil ?_
  refine g_then ?_
  refine g_seq ?_
  refine g_region ?_
  refine l_of (s_val (v := .agg #[.func (.func 46) #[] #[], .func (.func 59) #[] #[], .func (.func 62) #[] #[], .func (.func 66) #[] #[]]) (wt0 rfl) rfl rfl (x_build (vs := [.func (.func 46) #[] #[], .func (.func 59) #[] #[], .func (.func 62) #[] #[], .func (.func 66) #[] #[]]) rfl rfl (cells := #[.func (.func 46) #[] #[], .func (.func 59) #[] #[], .func (.func 62) #[] #[], .func (.func 66) #[] #[]]) (by kernel_rfl)) ?_)
  refine l_of (s_store H3 0 (wt0 rfl) rfl rfl rfl rfl rfl sz59 rfl rfl (cs' := #[.func (.func 46) #[] #[], .func (.func 59) #[] #[], .func (.func 62) #[] #[], .func (.func 66) #[] #[]]) rfl ?_)
  intro wq4 H5
  refine g_nil ?_
  refine g_then ?_
  refine g_ret ?_
  refine fin_ret [.cell 0 59] [.agg #[.func (.func 46) #[] #[], .func (.func 59) #[] #[], .func (.func 62) #[] #[], .func (.func 66) #[] #[]]] rfl ⟨⟨_, rfl, run_loadA (H5.ob (k := 0) rfl) Tryz.underlying59 rfl sz59 rfl rfl⟩, trivial⟩ ?_
  exact ⟨rfl, H5.mask [false, true]⟩
end Go.Proofs.YthfglkkjkpdkpaaGreatDoor
