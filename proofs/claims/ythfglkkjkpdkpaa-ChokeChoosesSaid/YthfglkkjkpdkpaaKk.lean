import Derived.Test.YthfglkkjkpdkpaaKe
import Derived.Test.YthfglkkjkpdkpaaKi
set_option linter.unusedSimpArgs false
set_option linter.unusedVariables false
namespace Go.Proofs.Ythfglkkjkpdkpaa
open Go.RowKit

theorem cl37 : callable Try.prog 37 = true := by kernel_rfl
theorem fo30_1 : foO Try.prog 30 1 = some 1 := by kernel_rfl
theorem fo30_7 : foO Try.prog 30 7 = some 7 := by kernel_rfl
theorem fo30_9 : foO Try.prog 30 9 = some 9 := by kernel_rfl
theorem fo57_0 : foO Try.prog 57 0 = some 0 := by kernel_rfl
theorem fo57_2 : foO Try.prog 57 2 = some 2 := by kernel_rfl
theorem fo57_3 : foO Try.prog 57 3 = some 3 := by kernel_rfl
theorem fo57_5 : foO Try.prog 57 5 = some 5 := by kernel_rfl
theorem Apart.take {α : Type} {enc : α → List Value} {w : World} {X : Item} {p : Option Addr} {n c size : Nat} {l : List α} (h : Apart w X p n c size (fl enc l)) (E : Enc size enc) (k : Nat) (hk : k ≤ n) : Apart w X p k c size (fl enc (l.take k)) := fun w' h' => (h w' h').takeL E k hk
theorem S.staysRw {w : World} {L : List Item} {i k1 k2 e size n c : Nat} {p : Option Addr} {xs : List Value} {X1 X2 : Item} (h : S w L) (hi : L[i]? = some (Rw e size p n c xs)) (hk1 : L[k1]? = some X1) (hk2 : L[k2]? = some X2) (hn1 : i ≠ k1) (hn2 : i ≠ k2) : ∀ w1, S w1 [X1, X2, Old w (fps [X1, X2])] → Reads w1 p n c size xs := fun w1 h1 =>
  h1.exReads (k := 2) rfl (h.rwReads hi) fun hn a ha hf => by
    obtain ⟨it, hm, hfp⟩ := hf
    obtain ⟨_, _, _, k4⟩ := h.rw hi
    rcases k4 with ⟨h2, _, _⟩ | ⟨g, o, cur, h2, _, _, _⟩
    · rw [h2] at ha; cases ha
    · rw [h2] at ha; cases ha
      rcases List.mem_cons.1 hm with rfl | hm
      · exact pair_of h.2 hi hk1 hn1 g ⟨o, h2⟩ hfp
      · rw [List.mem_singleton] at hm; subst hm
        exact pair_of h.2 hi hk2 hn2 g ⟨o, h2⟩ hfp
def rtBad (r : Rt) : Bool := decide (r.peer < 0) || decide (r.gave < 0) || decide (r.got < 0) || decide (r.lt < 0)
open Classical in
noncomputable def rtErr (l : List Rt) (slots turn : Int) : Int := if 200 < l.length ∨ l.any rtBad = true then 1 else if ¬ (l.map Rt.peer).Nodup then 6 else if slots < 0 ∨ 100 < slots ∨ turn < 0 then 7 else 0
def toRv (sd : Bool) (r : Rt) : Rv := ⟨r.peer, r.wants, false, if sd = true then r.got else r.gave, 0, r.lt, 0, if sd = true then false else r.snb, false, false⟩
def cF (x y : Rv) : Int := if y.frm - x.frm ≠ 0 then y.frm - x.frm else if x.lt - y.lt ≠ 0 then x.lt - y.lt else x.id - y.id
def bhd (turn : Int) (x : Rv) : Int := if decide (turn < x.id) = true then 0 else 1
def cR (turn : Int) (x y : Rv) : Int := if x.lt - y.lt ≠ 0 then x.lt - y.lt else if bhd turn x - bhd turn y ≠ 0 then bhd turn x - bhd turn y else x.id - y.id
def q1 (x : Rv) : Bool := (x.intr && !x.seed) && !x.snb
def q2 (O : List Int) (x : Rv) : Bool := (x.intr && !x.seed) && !decide (x.id ∈ O)
def DR (x : Rv) : Prop := (0 ≤ x.id ∧ x.id ≤ 9223372036854775807) ∧ (0 ≤ x.frm ∧ x.frm ≤ 9223372036854775807) ∧ (0 ≤ x.lt ∧ x.lt ≤ 9223372036854775807)
def okR (r : Rt) : Prop := okI r.peer ∧ okI r.gave ∧ okI r.got ∧ okI r.lt
theorem toRv_D {l : List Rt} (hok : ∀ r ∈ l, okR r) (hb : l.any rtBad = false) (sd : Bool) : ∀ x ∈ l.map (toRv sd), DR x := fun x hx => by
  obtain ⟨r, hr, rfl⟩ := List.mem_map.1 hx
  obtain ⟨⟨_, h1⟩, ⟨_, h2⟩, ⟨_, h3⟩, ⟨_, h4⟩⟩ := hok r hr
  have h5 := (List.any_eq_false.1 hb) r hr
  unfold rtBad at h5
  simp only [Bool.or_eq_true, decide_eq_true_eq] at h5
  unfold DR toRv
  cases sd <;> simp <;> omega
noncomputable def allV (sd : Bool) (l : List Rt) : List Rv := l.map (toRv sd)
noncomputable def firstV (l : List Rt) (slots : Int) (sd : Bool) : List Rv := (srt Rv.zero cF ((l.map (toRv sd)).filter q1)).take (min (srt Rv.zero cF ((l.map (toRv sd)).filter q1)).length slots.toNat)
noncomputable def restV (l : List Rt) (slots : Int) (sd : Bool) (turn : Int) : List Rv := (srt Rv.zero (cR turn) ((l.map (toRv sd)).filter (q2 ((firstV l slots sd).map Rv.id)))).take (min (srt Rv.zero (cR turn) ((l.map (toRv sd)).filter (q2 ((firstV l slots sd).map Rv.id)))).length (1 : Int).toNat)
noncomputable def choL (l : List Rt) (slots : Int) (sd : Bool) (turn : Int) : List Int := sortI ((firstV l slots sd ++ restV l slots sd turn).map Rv.id)
noncomputable def choV (l : List Rt) (slots : Int) (sd : Bool) (turn : Int) : List Int := if rtErr l slots turn = 0 then choL l slots sd turn else []
theorem rt_1 {l : List Rt} {slots turn : Int} (h : 200 < l.length ∨ l.any rtBad = true) : rtErr l slots turn = 1 := by unfold rtErr; rw [if_pos h]
theorem rt_6 {l : List Rt} {slots turn : Int} (h : ¬ (200 < l.length ∨ l.any rtBad = true)) (h1 : ¬ (l.map Rt.peer).Nodup) : rtErr l slots turn = 6 := by unfold rtErr; rw [if_neg h, if_pos h1]
theorem rt_7 {l : List Rt} {slots turn : Int} (h : ¬ (200 < l.length ∨ l.any rtBad = true)) (h1 : (l.map Rt.peer).Nodup) (h2 : slots < 0 ∨ 100 < slots ∨ turn < 0) : rtErr l slots turn = 7 := by unfold rtErr; rw [if_neg h, if_neg (not_not_intro h1), if_pos h2]
theorem rt_0 {l : List Rt} {slots turn : Int} (h : ¬ (200 < l.length ∨ l.any rtBad = true)) (h1 : (l.map Rt.peer).Nodup) (h2 : ¬ (slots < 0 ∨ 100 < slots ∨ turn < 0)) : rtErr l slots turn = 0 := by unfold rtErr; rw [if_neg h, if_neg (not_not_intro h1), if_neg h2]
theorem cho_e {l : List Rt} {slots turn : Int} {sd : Bool} {e : Int} (h : rtErr l slots turn = e) (he : ¬ e = 0) : choV l slots sd turn = [] := by unfold choV; rw [h, if_neg he]
theorem cho_z {l : List Rt} {slots turn : Int} {sd : Bool} (h : rtErr l slots turn = 0) : choV l slots sd turn = choL l slots sd turn := by unfold choV; rw [h, if_pos rfl]
theorem nodupP_nxt {m : List Rt} {i : Nat} {x : Rt} (hx : m[i]? = some x) : ((m.take (i + 1)).map Rt.peer).Nodup ↔ ((m.take i).map Rt.peer).Nodup ∧ x.peer ∉ (m.take i).map Rt.peer := by
  rw [take_snocL hx, List.map_append, List.nodup_append]
  constructor
  · intro ⟨h1, _, h3⟩; exact ⟨h1, fun h => h3 _ h x.peer (by simp) rfl⟩
  · intro ⟨h1, h2⟩; exact ⟨h1, by simp, fun a ha b hb e => by simp at hb; subst e; subst hb; exact h2 ha⟩
theorem nodupP_of {m : List Rt} {i : Nat} {x : Rt} (hx : m[i]? = some x) (h : x.peer ∈ (m.take i).map Rt.peer) : ¬ (m.map Rt.peer).Nodup := fun hn => ((nodupP_nxt hx).1 (by rw [List.map_take]; exact hn.sublist (List.take_sublist ..))).2 h
theorem any_peer {m : List Rt} {x : Int} : m.any (fun y : Rt => decide (y.peer = x)) = decide (x ∈ m.map Rt.peer) := by
  rw [Bool.eq_iff_iff, List.any_eq_true, decide_eq_true_iff, List.mem_map]
  exact ⟨fun ⟨y, h1, h2⟩ => ⟨y, h1, of_decide_eq_true h2⟩, fun ⟨y, h1, h2⟩ => ⟨y, h1, decide_eq_true h2⟩⟩
theorem memP_nxt {m : List Rt} {i : Nat} {x : Rt} (hx : m[i]? = some x) (k : Int) : k ∈ (m.take (i + 1)).map Rt.peer ↔ k = x.peer ∨ k ∈ (m.take i).map Rt.peer := by
  rw [take_snocL hx, List.map_append, List.mem_append]
  simp [or_comm]
set_option maxRecDepth 20000 in
set_option maxHeartbeats 4000000 in
set_option maxRecDepth 20000 in
set_option maxHeartbeats 4000000 in
theorem bad1_s (x : Rt)  (w : World) : Calls Try.prog 33 #[.agg #[.int .i64 (x.peer), .bool x.wants, .int .i64 (x.gave), .int .i64 (x.got), .bool x.snb, .int .i64 (x.lt)]] w fun e w' => e = .returned (.bool (rtBad x)) ∧ S w' [Old w no] := by
  have H0 := S.old w
  refine enter 21 Try.func33 rfl rfl rfl ?_
  refine g_weak [(0, .agg #[.int .i64 (x.peer), .bool x.wants, .int .i64 (x.gave), .int .i64 (x.got), .bool x.snb, .int .i64 (x.lt)])] ⟨rfl, trivial⟩ ?_
  refine g_seq ?_
  refine g_region ?_
  refine l_of (s_box H0 (wt0 rfl) rfl rfl rfl rfl ?_)
  intro g1 wq2 H3
  refine l_of (s_val (v := .bool false) (wt0 rfl) rfl rfl (x_assign rfl rfl) ?_)
  refine g_nil ?_
  refine g_then ?_
  refine g_seq ?_
  refine g_region ?_
  refine l_of (s_val (v := .pointer (some ⟨g1, 0, none⟩)) (wt0 rfl) rfl rfl (x_fieldAddr rfl rfl fo57_0 rfl) ?_)
  refine l_of (s_val (v := .int .i64 (x.peer)) (wt0 rfl) rfl rfl (x_load1 H3 0 rfl rfl Try.underlying3 rfl rfl rfl) ?_)
  refine l_of (s_val (v := .bool (decide ((x.peer : Int) < 0))) (wt0 rfl) rfl rfl (x_bin rfl rfl rfl b_lss) ?_)
  refine l_of (s_val (v := .bool (decide ((x.peer : Int) < 0))) (wt0 rfl) rfl rfl (x_move rfl rfl) ?_)
  by_cases hb4 : (x.peer : Int) < 0
  · skip
    refine l_of (s_not (wn1 rfl rfl rfl rfl (decide_eq_true hb4)) rfl rfl ?_)
    refine l_of (s_not (wn1 rfl rfl rfl rfl (decide_eq_true hb4)) rfl rfl ?_)
    refine l_of (s_not (wn1 rfl rfl rfl rfl (decide_eq_true hb4)) rfl rfl ?_)
    refine l_of (s_val (v := .bool true) (wt0 rfl) rfl rfl (x_pick_t rfl rfl (decide_eq_true hb4) rfl) ?_)
    refine l_of (s_val (v := .bool true) (wt0 rfl) rfl rfl (x_move rfl rfl) ?_)
    refine l_of (s_not (wn1 rfl rfl rfl rfl rfl) rfl rfl ?_)
    refine l_of (s_not (wn1 rfl rfl rfl rfl rfl) rfl rfl ?_)
    refine l_of (s_not (wn1 rfl rfl rfl rfl rfl) rfl rfl ?_)
    refine l_of (s_val (v := .bool true) (wt0 rfl) rfl rfl (x_pick_t rfl rfl rfl rfl) ?_)
    refine l_of (s_val (v := .bool true) (wt0 rfl) rfl rfl (x_move rfl rfl) ?_)
    refine l_of (s_not (wn1 rfl rfl rfl rfl rfl) rfl rfl ?_)
    refine l_of (s_not (wn1 rfl rfl rfl rfl rfl) rfl rfl ?_)
    refine l_of (s_not (wn1 rfl rfl rfl rfl rfl) rfl rfl ?_)
    refine l_of (s_val (v := .bool true) (wt0 rfl) rfl rfl (x_pick_t rfl rfl rfl rfl) ?_)
    refine l_of (s_val (v := .bool true) (wt0 rfl) rfl rfl (x_assign rfl rfl) ?_)
    refine g_nil ?_
    refine g_then ?_
    refine g_weak [(2, .bool true)] ⟨rfl, trivial⟩ ?_
    refine g_ret ?_
    refine fin_ret [.tmp 2] [.bool true] rfl ⟨rfl, trivial⟩ ?_
    exact ⟨by unfold rtBad; simp [hb4, tupled], H3.mask [false, true]⟩
  · skip
    refine l_of (s_val (v := .pointer (some ⟨g1, 2, none⟩)) (wt1 rfl rfl rfl rfl (decide_eq_false hb4)) rfl rfl (x_fieldAddr rfl rfl fo57_2 rfl) ?_)
    refine l_of (s_val (v := .int .i64 (x.gave)) (wt1 rfl rfl rfl rfl (decide_eq_false hb4)) rfl rfl (x_load1 H3 0 rfl rfl Try.underlying3 rfl rfl rfl) ?_)
    refine l_of (s_val (v := .bool (decide ((x.gave : Int) < 0))) (wt1 rfl rfl rfl rfl (decide_eq_false hb4)) rfl rfl (x_bin rfl rfl rfl b_lss) ?_)
    refine l_of (s_val (v := .bool (decide ((x.gave : Int) < 0))) (wt0 rfl) rfl rfl (x_pick_f rfl rfl (decide_eq_false hb4) rfl) ?_)
    refine l_of (s_val (v := .bool (decide ((x.gave : Int) < 0))) (wt0 rfl) rfl rfl (x_move rfl rfl) ?_)
    by_cases hb5 : (x.gave : Int) < 0
    · skip
      refine l_of (s_not (wn1 rfl rfl rfl rfl (decide_eq_true hb5)) rfl rfl ?_)
      refine l_of (s_not (wn1 rfl rfl rfl rfl (decide_eq_true hb5)) rfl rfl ?_)
      refine l_of (s_not (wn1 rfl rfl rfl rfl (decide_eq_true hb5)) rfl rfl ?_)
      refine l_of (s_val (v := .bool true) (wt0 rfl) rfl rfl (x_pick_t rfl rfl (decide_eq_true hb5) rfl) ?_)
      refine l_of (s_val (v := .bool true) (wt0 rfl) rfl rfl (x_move rfl rfl) ?_)
      refine l_of (s_not (wn1 rfl rfl rfl rfl rfl) rfl rfl ?_)
      refine l_of (s_not (wn1 rfl rfl rfl rfl rfl) rfl rfl ?_)
      refine l_of (s_not (wn1 rfl rfl rfl rfl rfl) rfl rfl ?_)
      refine l_of (s_val (v := .bool true) (wt0 rfl) rfl rfl (x_pick_t rfl rfl rfl rfl) ?_)
      refine l_of (s_val (v := .bool true) (wt0 rfl) rfl rfl (x_assign rfl rfl) ?_)
      refine g_nil ?_
      refine g_then ?_
      refine g_weak [(2, .bool true)] ⟨rfl, trivial⟩ ?_
      refine g_ret ?_
      refine fin_ret [.tmp 2] [.bool true] rfl ⟨rfl, trivial⟩ ?_
      exact ⟨by unfold rtBad; simp [hb4, hb5, tupled], H3.mask [false, true]⟩
    · skip
      refine l_of (s_val (v := .pointer (some ⟨g1, 3, none⟩)) (wt1 rfl rfl rfl rfl (decide_eq_false hb5)) rfl rfl (x_fieldAddr rfl rfl fo57_3 rfl) ?_)
      refine l_of (s_val (v := .int .i64 (x.got)) (wt1 rfl rfl rfl rfl (decide_eq_false hb5)) rfl rfl (x_load1 H3 0 rfl rfl Try.underlying3 rfl rfl rfl) ?_)
      refine l_of (s_val (v := .bool (decide ((x.got : Int) < 0))) (wt1 rfl rfl rfl rfl (decide_eq_false hb5)) rfl rfl (x_bin rfl rfl rfl b_lss) ?_)
      refine l_of (s_val (v := .bool (decide ((x.got : Int) < 0))) (wt0 rfl) rfl rfl (x_pick_f rfl rfl (decide_eq_false hb5) rfl) ?_)
      refine l_of (s_val (v := .bool (decide ((x.got : Int) < 0))) (wt0 rfl) rfl rfl (x_move rfl rfl) ?_)
      by_cases hb6 : (x.got : Int) < 0
      · skip
        refine l_of (s_not (wn1 rfl rfl rfl rfl (decide_eq_true hb6)) rfl rfl ?_)
        refine l_of (s_not (wn1 rfl rfl rfl rfl (decide_eq_true hb6)) rfl rfl ?_)
        refine l_of (s_not (wn1 rfl rfl rfl rfl (decide_eq_true hb6)) rfl rfl ?_)
        refine l_of (s_val (v := .bool true) (wt0 rfl) rfl rfl (x_pick_t rfl rfl (decide_eq_true hb6) rfl) ?_)
        refine l_of (s_val (v := .bool true) (wt0 rfl) rfl rfl (x_assign rfl rfl) ?_)
        refine g_nil ?_
        refine g_then ?_
        refine g_weak [(2, .bool true)] ⟨rfl, trivial⟩ ?_
        refine g_ret ?_
        refine fin_ret [.tmp 2] [.bool true] rfl ⟨rfl, trivial⟩ ?_
        exact ⟨by unfold rtBad; simp [hb4, hb5, hb6, tupled], H3.mask [false, true]⟩
      · skip
        refine l_of (s_val (v := .pointer (some ⟨g1, 5, none⟩)) (wt1 rfl rfl rfl rfl (decide_eq_false hb6)) rfl rfl (x_fieldAddr rfl rfl fo57_5 rfl) ?_)
        refine l_of (s_val (v := .int .i64 (x.lt)) (wt1 rfl rfl rfl rfl (decide_eq_false hb6)) rfl rfl (x_load1 H3 0 rfl rfl Try.underlying3 rfl rfl rfl) ?_)
        refine l_of (s_val (v := .bool (decide ((x.lt : Int) < 0))) (wt1 rfl rfl rfl rfl (decide_eq_false hb6)) rfl rfl (x_bin rfl rfl rfl b_lss) ?_)
        refine l_of (s_val (v := .bool (decide ((x.lt : Int) < 0))) (wt0 rfl) rfl rfl (x_pick_f rfl rfl (decide_eq_false hb6) rfl) ?_)
        refine l_of (s_val (v := .bool (decide ((x.lt : Int) < 0))) (wt0 rfl) rfl rfl (x_assign rfl rfl) ?_)
        refine g_nil ?_
        refine g_then ?_
        refine g_weak [(2, .bool (decide ((x.lt : Int) < 0)))] ⟨rfl, trivial⟩ ?_
        refine g_ret ?_
        refine fin_ret [.tmp 2] [.bool (decide ((x.lt : Int) < 0))] rfl ⟨rfl, trivial⟩ ?_
        exact ⟨by unfold rtBad; simp [hb4, hb5, hb6, tupled], H3.mask [false, true]⟩
theorem bad1_f : FunC Try.prog 33 #[] #[] (Big []) (fun x : Rt => [x.v]) (fun x => .bool (rtBad x)) (fun _ => True) :=
  FunC.pure (by kernel_rfl) fun x _ w => bad1_s x w
set_option maxRecDepth 20000 in
set_option maxHeartbeats 4000000 in
set_option maxRecDepth 20000 in
set_option maxHeartbeats 4000000 in
theorem dup2_s (b : Nat) (r x : Rt)  (w : World) (HS : S w [Ob b (.cells #[.int .i64 (r.peer), .bool r.wants, .int .i64 (r.gave), .int .i64 (r.got), .bool r.snb, .int .i64 (r.lt)] 57 (0, 0))]) : Calls Try.prog 34 #[.agg #[.int .i64 (x.peer), .bool x.wants, .int .i64 (x.gave), .int .i64 (x.got), .bool x.snb, .int .i64 (x.lt)], .pointer (some ⟨b, 0, none⟩)] w fun e w' => e = .returned (.bool (decide (x.peer = r.peer))) ∧ S w' ([Ob b (.cells #[.int .i64 (r.peer), .bool r.wants, .int .i64 (r.gave), .int .i64 (r.got), .bool r.snb, .int .i64 (r.lt)] 57 (0, 0))] ++ [Old w (fps [Ob b (.cells #[.int .i64 (r.peer), .bool r.wants, .int .i64 (r.gave), .int .i64 (r.got), .bool r.snb, .int .i64 (r.lt)] 57 (0, 0))])]) := by
  have H00 := HS.beginI
  have H0 : S w ([Ob b (.cells #[.int .i64 (r.peer), .bool r.wants, .int .i64 (r.gave), .int .i64 (r.got), .bool r.snb, .int .i64 (r.lt)] 57 (0, 0)), Old w (fps [Ob b (.cells #[.int .i64 (r.peer), .bool r.wants, .int .i64 (r.gave), .int .i64 (r.got), .bool r.snb, .int .i64 (r.lt)] 57 (0, 0))])]) := H00
  refine enter 9 Try.func34 rfl rfl rfl ?_
  refine g_weak [(0, .agg #[.int .i64 (x.peer), .bool x.wants, .int .i64 (x.gave), .int .i64 (x.got), .bool x.snb, .int .i64 (x.lt)]), (1, .pointer (some ⟨b, 0, none⟩))] ⟨rfl, rfl, trivial⟩ ?_
  refine g_seq ?_
  refine g_region ?_
  refine l_of (s_box H0 (wt0 rfl) rfl rfl rfl rfl ?_)
  intro g1 wq2 H3
  refine l_of (s_val (v := .bool false) (wt0 rfl) rfl rfl (x_assign rfl rfl) ?_)
  refine g_nil ?_
  refine g_then ?_
  refine g_seq ?_
  refine g_region ?_
  refine l_of (s_val (v := .pointer (some ⟨g1, 0, none⟩)) (wt0 rfl) rfl rfl (x_fieldAddr rfl rfl fo57_0 rfl) ?_)
  refine l_of (s_val (v := .int .i64 (x.peer)) (wt0 rfl) rfl rfl (x_load1 H3 0 rfl rfl Try.underlying3 rfl rfl rfl) ?_)
  refine l_of (s_val (v := .pointer (some ⟨b, 0, none⟩)) (wt0 rfl) rfl rfl (x_fieldAddr rfl rfl fo57_0 rfl) ?_)
  refine l_of (s_val (v := .int .i64 (r.peer)) (wt0 rfl) rfl rfl (x_load1 H3 1 rfl rfl Try.underlying3 rfl rfl rfl) ?_)
  refine l_of (s_val (v := .bool (decide ((x.peer : Int) = r.peer))) (wt0 rfl) rfl rfl (x_bin rfl rfl rfl b_eql) ?_)
  refine l_of (s_val (v := .bool (decide ((x.peer : Int) = r.peer))) (wt0 rfl) rfl rfl (x_assign rfl rfl) ?_)
  refine g_nil ?_
  refine g_then ?_
  refine g_ret ?_
  refine fin_ret [.tmp 3] [.bool (decide ((x.peer : Int) = r.peer))] rfl ⟨rfl, trivial⟩ ?_
  exact ⟨rfl, H3.takes [1, 2] (by decide)⟩
theorem dup2_f (b : Nat) (r : Rt) : FunC Try.prog 34 #[] #[.pointer (some ⟨b, 0, none⟩)] (Big [Ob b (.cells #[.int .i64 (r.peer), .bool r.wants, .int .i64 (r.gave), .int .i64 (r.got), .bool r.snb, .int .i64 (r.lt)] 57 (0, 0))]) (fun x : Rt => [x.v]) (fun x => .bool ((fun y : Rt => decide (y.peer = r.peer)) x)) (fun _ => True) :=
  FunC.ofBig (by kernel_rfl) fun x _ w HS => dup2_s b r x w HS
set_option maxRecDepth 20000 in
set_option maxHeartbeats 4000000 in
set_option maxRecDepth 20000 in
set_option maxHeartbeats 4000000 in
theorem wants_s (x : Rv)  (w : World) : Calls Try.prog 37 #[.agg #[.int .i64 (x.id), .bool x.intr, .bool x.chk, .int .i64 (x.frm), .int .i64 (x.to), .int .i64 (x.lt), .int .i64 (x.since), .bool x.snb, .bool x.now, .bool x.seed]] w fun e w' => e = .returned (.bool (x.intr && !x.seed)) ∧ S w' [Old w no] := by
  have H0 := S.old w
  refine enter 10 Try.func37 rfl rfl rfl ?_
  refine g_weak [(0, .agg #[.int .i64 (x.id), .bool x.intr, .bool x.chk, .int .i64 (x.frm), .int .i64 (x.to), .int .i64 (x.lt), .int .i64 (x.since), .bool x.snb, .bool x.now, .bool x.seed])] ⟨rfl, trivial⟩ ?_
  refine g_seq ?_
  refine g_region ?_
  refine l_of (s_box H0 (wt0 rfl) rfl rfl rfl rfl ?_)
  intro g1 wq2 H3
  refine l_of (s_val (v := .bool false) (wt0 rfl) rfl rfl (x_assign rfl rfl) ?_)
  refine g_nil ?_
  refine g_then ?_
  refine g_seq ?_
  refine g_region ?_
  refine l_of (s_val (v := .pointer (some ⟨g1, 1, none⟩)) (wt0 rfl) rfl rfl (x_fieldAddr rfl rfl fo30_1 rfl) ?_)
  refine l_of (s_val (v := .bool x.intr) (wt0 rfl) rfl rfl (x_load1 H3 0 rfl rfl Try.underlying4 rfl rfl rfl) ?_)
  refine l_of (s_val (v := .bool x.intr) (wt0 rfl) rfl rfl (x_move rfl rfl) ?_)
  rcases Bool.eq_false_or_eq_true (x.intr) with hb4 | hb4
  · skip
    refine l_of (s_val (v := .pointer (some ⟨g1, 9, none⟩)) (wt1 rfl rfl rfl rfl hb4) rfl rfl (x_fieldAddr rfl rfl fo30_9 rfl) ?_)
    refine l_of (s_val (v := .bool x.seed) (wt1 rfl rfl rfl rfl hb4) rfl rfl (x_load1 H3 0 rfl rfl Try.underlying4 rfl rfl rfl) ?_)
    refine l_of (s_val (v := .bool (!(x.seed))) (wt1 rfl rfl rfl rfl hb4) rfl rfl (x_not (b := x.seed) rfl rfl) ?_)
    refine l_of (s_val (v := .bool (!(x.seed))) (wt0 rfl) rfl rfl (x_pick_t rfl rfl hb4 rfl) ?_)
    refine l_of (s_val (v := .bool (!(x.seed))) (wt0 rfl) rfl rfl (x_assign rfl rfl) ?_)
    refine g_nil ?_
    refine g_then ?_
    refine g_ret ?_
    refine fin_ret [.tmp 2] [.bool (!(x.seed))] rfl ⟨rfl, trivial⟩ ?_
    exact ⟨by simp [hb4, tupled], H3.mask [false, true]⟩
  · skip
    refine l_of (s_not (wn1 rfl rfl rfl rfl hb4) rfl rfl ?_)
    refine l_of (s_not (wn1 rfl rfl rfl rfl hb4) rfl rfl ?_)
    refine l_of (s_not (wn1 rfl rfl rfl rfl hb4) rfl rfl ?_)
    refine l_of (s_val (v := .bool false) (wt0 rfl) rfl rfl (x_pick_f rfl rfl hb4 rfl) ?_)
    refine l_of (s_val (v := .bool false) (wt0 rfl) rfl rfl (x_assign rfl rfl) ?_)
    refine g_nil ?_
    refine g_then ?_
    refine g_ret ?_
    refine fin_ret [.tmp 2] [.bool false] rfl ⟨rfl, trivial⟩ ?_
    exact ⟨by simp [hb4, tupled], H3.mask [false, true]⟩
set_option maxRecDepth 20000 in
set_option maxHeartbeats 4000000 in
set_option maxRecDepth 20000 in
set_option maxHeartbeats 4000000 in
theorem cho3_s (x : Rv)  (w : World) : Calls Try.prog 36 #[.agg #[.int .i64 (x.id), .bool x.intr, .bool x.chk, .int .i64 (x.frm), .int .i64 (x.to), .int .i64 (x.lt), .int .i64 (x.since), .bool x.snb, .bool x.now, .bool x.seed]] w fun e w' => e = .returned (.bool (q1 x)) ∧ S w' [Old w no] := by
  have H0 := S.old w
  refine enter 10 Try.func36 rfl rfl rfl ?_
  refine g_weak [(0, .agg #[.int .i64 (x.id), .bool x.intr, .bool x.chk, .int .i64 (x.frm), .int .i64 (x.to), .int .i64 (x.lt), .int .i64 (x.since), .bool x.snb, .bool x.now, .bool x.seed])] ⟨rfl, trivial⟩ ?_
  refine g_seq ?_
  refine g_region ?_
  refine l_of (s_box H0 (wt0 rfl) rfl rfl rfl rfl ?_)
  intro g1 wq2 H3
  refine l_of (s_val (v := .bool false) (wt0 rfl) rfl rfl (x_assign rfl rfl) ?_)
  refine g_nil ?_
  refine g_then ?_
  refine g_seq ?_
  refine g_region ?_
  refine l_of (s_val (v := .agg #[.int .i64 (x.id), .bool x.intr, .bool x.chk, .int .i64 (x.frm), .int .i64 (x.to), .int .i64 (x.lt), .int .i64 (x.since), .bool x.snb, .bool x.now, .bool x.seed]) (wt0 rfl) rfl rfl (x_loadA H3 0 rfl rfl Try.underlying30 rfl sz30 rfl rfl rfl) ?_)
  refine l_of (s_call (wt0 rfl) (x_call' rfl rfl cl37) (wants_s x _) ?_)
  rintro _ wq4 ⟨rfl, H5⟩
  replace H5 : S wq4 [Ob g1 (.cells #[.int .i64 (x.id), .bool x.intr, .bool x.chk, .int .i64 (x.frm), .int .i64 (x.to), .int .i64 (x.lt), .int .i64 (x.since), .bool x.snb, .bool x.now, .bool x.seed] 30 (0, 0)), Old w no] := H3.absorb (new := []) H5
  refine b_ret rfl rfl ?_
  refine l_of (s_val (v := .bool ((x.intr && !x.seed))) (wt0 rfl) rfl rfl (x_move rfl rfl) ?_)
  rcases Bool.eq_false_or_eq_true ((x.intr && !x.seed)) with hb6 | hb6
  · skip
    refine l_of (s_val (v := .pointer (some ⟨g1, 7, none⟩)) (wt1 rfl rfl rfl rfl hb6) rfl rfl (x_fieldAddr rfl rfl fo30_7 rfl) ?_)
    refine l_of (s_val (v := .bool x.snb) (wt1 rfl rfl rfl rfl hb6) rfl rfl (x_load1 H5 0 rfl rfl Try.underlying4 rfl rfl rfl) ?_)
    refine l_of (s_val (v := .bool (!(x.snb))) (wt1 rfl rfl rfl rfl hb6) rfl rfl (x_not (b := x.snb) rfl rfl) ?_)
    refine l_of (s_val (v := .bool (!(x.snb))) (wt0 rfl) rfl rfl (x_pick_t rfl rfl hb6 rfl) ?_)
    refine l_of (s_val (v := .bool (!(x.snb))) (wt0 rfl) rfl rfl (x_assign rfl rfl) ?_)
    refine g_nil ?_
    refine g_then ?_
    refine g_ret ?_
    refine fin_ret [.tmp 2] [.bool (!(x.snb))] rfl ⟨rfl, trivial⟩ ?_
    exact ⟨by unfold q1; simp [hb6, tupled], H5.mask [false, true]⟩
  · skip
    refine l_of (s_not (wn1 rfl rfl rfl rfl hb6) rfl rfl ?_)
    refine l_of (s_not (wn1 rfl rfl rfl rfl hb6) rfl rfl ?_)
    refine l_of (s_not (wn1 rfl rfl rfl rfl hb6) rfl rfl ?_)
    refine l_of (s_val (v := .bool false) (wt0 rfl) rfl rfl (x_pick_f rfl rfl hb6 rfl) ?_)
    refine l_of (s_val (v := .bool false) (wt0 rfl) rfl rfl (x_assign rfl rfl) ?_)
    refine g_nil ?_
    refine g_then ?_
    refine g_ret ?_
    refine fin_ret [.tmp 2] [.bool false] rfl ⟨rfl, trivial⟩ ?_
    exact ⟨by unfold q1; simp [hb6, tupled], H5.mask [false, true]⟩
theorem cho3_f : FunC Try.prog 36 #[] #[] (Big []) (fun x : Rv => [x.v]) (fun x => .bool (q1 x)) (fun _ => True) :=
  FunC.pure (by kernel_rfl) fun x _ w => cho3_s x w
set_option maxRecDepth 20000 in
set_option maxHeartbeats 4000000 in
set_option maxRecDepth 20000 in
set_option maxHeartbeats 4000000 in
theorem byFrom_s (x : Rv)  (w : World) : Calls Try.prog 40 #[.agg #[.int .i64 (x.id), .bool x.intr, .bool x.chk, .int .i64 (x.frm), .int .i64 (x.to), .int .i64 (x.lt), .int .i64 (x.since), .bool x.snb, .bool x.now, .bool x.seed]] w fun e w' => e = .returned (.int .i64 x.frm) ∧ S w' [Old w no] := by
  have H0 := S.old w
  refine enter 5 Try.func40 rfl rfl rfl ?_
  refine g_weak [(0, .agg #[.int .i64 (x.id), .bool x.intr, .bool x.chk, .int .i64 (x.frm), .int .i64 (x.to), .int .i64 (x.lt), .int .i64 (x.since), .bool x.snb, .bool x.now, .bool x.seed])] ⟨rfl, trivial⟩ ?_
  refine g_seq ?_
  refine g_region ?_
  refine l_of (s_box H0 (wt0 rfl) rfl rfl rfl rfl ?_)
  intro g1 wq2 H3
  refine l_of (s_val (v := .int .i64 0) (wt0 rfl) rfl rfl (x_assign rfl rfl) ?_)
  refine g_nil ?_
  refine g_then ?_
  refine g_seq ?_
  refine g_region ?_
  refine l_of (s_val (v := .pointer (some ⟨g1, 3, none⟩)) (wt0 rfl) rfl rfl (x_fieldAddr rfl rfl fo30_3 rfl) ?_)
  refine l_of (s_val (v := .int .i64 (x.frm)) (wt0 rfl) rfl rfl (x_load1 H3 0 rfl rfl Try.underlying3 rfl rfl rfl) ?_)
  refine l_of (s_val (v := .int .i64 (x.frm)) (wt0 rfl) rfl rfl (x_assign rfl rfl) ?_)
  refine g_nil ?_
  refine g_then ?_
  refine g_ret ?_
  refine fin_ret [.tmp 2] [.int .i64 (x.frm)] rfl ⟨rfl, trivial⟩ ?_
  exact ⟨rfl, H3.mask [false, true]⟩
theorem byFrom_f (D : Rv → Prop) : FunC Try.prog 40 #[] #[] (Big []) (fun x : Rv => [x.v]) (fun x => .int .i64 (Rv.frm x)) D :=
  FunC.pure (by kernel_rfl) fun x _ w => byFrom_s x w
set_option maxRecDepth 20000 in
set_option maxHeartbeats 4000000 in
set_option maxRecDepth 20000 in
set_option maxHeartbeats 4000000 in
theorem byLet_s (x : Rv)  (w : World) : Calls Try.prog 41 #[.agg #[.int .i64 (x.id), .bool x.intr, .bool x.chk, .int .i64 (x.frm), .int .i64 (x.to), .int .i64 (x.lt), .int .i64 (x.since), .bool x.snb, .bool x.now, .bool x.seed]] w fun e w' => e = .returned (.int .i64 x.lt) ∧ S w' [Old w no] := by
  have H0 := S.old w
  refine enter 5 Try.func41 rfl rfl rfl ?_
  refine g_weak [(0, .agg #[.int .i64 (x.id), .bool x.intr, .bool x.chk, .int .i64 (x.frm), .int .i64 (x.to), .int .i64 (x.lt), .int .i64 (x.since), .bool x.snb, .bool x.now, .bool x.seed])] ⟨rfl, trivial⟩ ?_
  refine g_seq ?_
  refine g_region ?_
  refine l_of (s_box H0 (wt0 rfl) rfl rfl rfl rfl ?_)
  intro g1 wq2 H3
  refine l_of (s_val (v := .int .i64 0) (wt0 rfl) rfl rfl (x_assign rfl rfl) ?_)
  refine g_nil ?_
  refine g_then ?_
  refine g_seq ?_
  refine g_region ?_
  refine l_of (s_val (v := .pointer (some ⟨g1, 5, none⟩)) (wt0 rfl) rfl rfl (x_fieldAddr rfl rfl fo30_5 rfl) ?_)
  refine l_of (s_val (v := .int .i64 (x.lt)) (wt0 rfl) rfl rfl (x_load1 H3 0 rfl rfl Try.underlying3 rfl rfl rfl) ?_)
  refine l_of (s_val (v := .int .i64 (x.lt)) (wt0 rfl) rfl rfl (x_assign rfl rfl) ?_)
  refine g_nil ?_
  refine g_then ?_
  refine g_ret ?_
  refine fin_ret [.tmp 2] [.int .i64 (x.lt)] rfl ⟨rfl, trivial⟩ ?_
  exact ⟨rfl, H3.mask [false, true]⟩
theorem byLet_f (D : Rv → Prop) : FunC Try.prog 41 #[] #[] (Big []) (fun x : Rv => [x.v]) (fun x => .int .i64 (Rv.lt x)) D :=
  FunC.pure (by kernel_rfl) fun x _ w => byLet_s x w
set_option maxRecDepth 20000 in
set_option maxHeartbeats 4000000 in
set_option maxRecDepth 20000 in
set_option maxHeartbeats 4000000 in
theorem cho4_s (b : Nat) (turn : Int) (x : Rv)  (w : World) (HS : S w [Ob b (.cells #[.int .i64 turn] 3 (0, 0))]) : Calls Try.prog 42 #[.agg #[.int .i64 (x.id), .bool x.intr, .bool x.chk, .int .i64 (x.frm), .int .i64 (x.to), .int .i64 (x.lt), .int .i64 (x.since), .bool x.snb, .bool x.now, .bool x.seed], .pointer (some ⟨b, 0, none⟩)] w fun e w' => e = .returned (.bool (decide (turn < x.id))) ∧ S w' ([Ob b (.cells #[.int .i64 turn] 3 (0, 0))] ++ [Old w (fps [Ob b (.cells #[.int .i64 turn] 3 (0, 0))])]) := by
  have H00 := HS.beginI
  have H0 : S w ([Ob b (.cells #[.int .i64 turn] 3 (0, 0)), Old w (fps [Ob b (.cells #[.int .i64 turn] 3 (0, 0))])]) := H00
  refine enter 8 Try.func42 rfl rfl rfl ?_
  refine g_weak [(0, .agg #[.int .i64 (x.id), .bool x.intr, .bool x.chk, .int .i64 (x.frm), .int .i64 (x.to), .int .i64 (x.lt), .int .i64 (x.since), .bool x.snb, .bool x.now, .bool x.seed]), (1, .pointer (some ⟨b, 0, none⟩))] ⟨rfl, rfl, trivial⟩ ?_
  refine g_seq ?_
  refine g_region ?_
  refine l_of (s_box H0 (wt0 rfl) rfl rfl rfl rfl ?_)
  intro g1 wq2 H3
  refine l_of (s_val (v := .bool false) (wt0 rfl) rfl rfl (x_assign rfl rfl) ?_)
  refine g_nil ?_
  refine g_then ?_
  refine g_seq ?_
  refine g_region ?_
  refine l_of (s_val (v := .pointer (some ⟨g1, 0, none⟩)) (wt0 rfl) rfl rfl (x_fieldAddr rfl rfl fo30_0 rfl) ?_)
  refine l_of (s_val (v := .int .i64 (x.id)) (wt0 rfl) rfl rfl (x_load1 H3 0 rfl rfl Try.underlying3 rfl rfl rfl) ?_)
  refine l_of (s_val (v := .int .i64 turn) (wt0 rfl) rfl rfl (x_load1 H3 1 rfl rfl Try.underlying3 rfl rfl rfl) ?_)
  refine l_of (s_val (v := .bool (decide ((turn : Int) < x.id))) (wt0 rfl) rfl rfl (x_bin rfl rfl rfl b_gtr) ?_)
  refine l_of (s_val (v := .bool (decide ((turn : Int) < x.id))) (wt0 rfl) rfl rfl (x_assign rfl rfl) ?_)
  refine g_nil ?_
  refine g_then ?_
  refine g_ret ?_
  refine fin_ret [.tmp 3] [.bool (decide ((turn : Int) < x.id))] rfl ⟨rfl, trivial⟩ ?_
  exact ⟨rfl, H3.takes [1, 2] (by decide)⟩
theorem cho4_f (b : Nat) (turn : Int) : FunC Try.prog 42 #[] #[.pointer (some ⟨b, 0, none⟩)] (Big [Ob b (.cells #[.int .i64 turn] 3 (0, 0))]) (fun x : Rv => [x.v]) (fun x => .bool ((fun x : Rv => decide (turn < x.id)) x)) (fun _ => True) :=
  FunC.ofBig (by kernel_rfl) fun z hb w HS => cho4_s b turn _ w HS
set_option maxRecDepth 20000 in
set_option maxHeartbeats 4000000 in
set_option maxRecDepth 20000 in
set_option maxHeartbeats 4000000 in
theorem cho5_s (b : Nat) (l : List Rv) (p : Option Addr) (n c : Nat) (hn : n ≤ 9223372036854775807) (Y : Item) (hYr : ∀ w9, S w9 [Y] → Reads w9 p n c 10 (fl rvL l)) (x : Rv)  (w : World) (HS : S w [Ob b (.cells #[.slice p n c] 22 (0, 0)), Y]) : Calls Try.prog 43 #[.agg #[.int .i64 (x.id), .bool x.intr, .bool x.chk, .int .i64 (x.frm), .int .i64 (x.to), .int .i64 (x.lt), .int .i64 (x.since), .bool x.snb, .bool x.now, .bool x.seed], .pointer (some ⟨b, 0, none⟩)] w fun e w' => e = .returned (.bool (q2 (l.map Rv.id) x)) ∧ S w' ([Ob b (.cells #[.slice p n c] 22 (0, 0)), Y] ++ [Old w (fps [Ob b (.cells #[.slice p n c] 22 (0, 0)), Y])]) := by
  have H00 := HS.beginI
  have H0 : S w ([Ob b (.cells #[.slice p n c] 22 (0, 0)), Y, Old w (fps [Ob b (.cells #[.slice p n c] 22 (0, 0)), Y])]) := H00
  refine enter 12 Try.func43 rfl rfl rfl ?_
  refine g_weak [(0, .agg #[.int .i64 (x.id), .bool x.intr, .bool x.chk, .int .i64 (x.frm), .int .i64 (x.to), .int .i64 (x.lt), .int .i64 (x.since), .bool x.snb, .bool x.now, .bool x.seed]), (1, .pointer (some ⟨b, 0, none⟩))] ⟨rfl, rfl, trivial⟩ ?_
  refine g_seq ?_
  refine g_region ?_
  refine l_of (s_box H0 (wt0 rfl) rfl rfl rfl rfl ?_)
  intro g1 wq2 H3
  refine l_of (s_val (v := .bool false) (wt0 rfl) rfl rfl (x_assign rfl rfl) ?_)
  refine g_nil ?_
  refine g_then ?_
  refine g_seq ?_
  refine g_region ?_
  refine l_of (s_val (v := .agg #[.int .i64 (x.id), .bool x.intr, .bool x.chk, .int .i64 (x.frm), .int .i64 (x.to), .int .i64 (x.lt), .int .i64 (x.since), .bool x.snb, .bool x.now, .bool x.seed]) (wt0 rfl) rfl rfl (x_loadA H3 0 rfl rfl Try.underlying30 rfl sz30 rfl rfl rfl) ?_)
  refine l_of (s_call (wt0 rfl) (x_call' rfl rfl cl37) (wants_s x _) ?_)
  rintro _ wq4 ⟨rfl, H5⟩
  replace H5 : S wq4 [Ob g1 (.cells #[.int .i64 (x.id), .bool x.intr, .bool x.chk, .int .i64 (x.frm), .int .i64 (x.to), .int .i64 (x.lt), .int .i64 (x.since), .bool x.snb, .bool x.now, .bool x.seed] 30 (0, 0)), Ob b (.cells #[.slice p n c] 22 (0, 0)), Y, Old w (fps [Ob b (.cells #[.slice p n c] 22 (0, 0)), Y])] := H3.absorb (new := []) H5
  refine b_ret rfl rfl ?_
  refine l_of (s_val (v := .bool ((x.intr && !x.seed))) (wt0 rfl) rfl rfl (x_move rfl rfl) ?_)
  rcases Bool.eq_false_or_eq_true ((x.intr && !x.seed)) with hb6 | hb6
  · skip
    refine l_of (s_val (v := .slice p n c) (wt1 rfl rfl rfl rfl hb6) rfl rfl (x_load1 H5 1 rfl rfl Try.underlying22 rfl rfl rfl) ?_)
    refine l_of (s_val (v := .agg #[.int .i64 (x.id), .bool x.intr, .bool x.chk, .int .i64 (x.frm), .int .i64 (x.to), .int .i64 (x.lt), .int .i64 (x.since), .bool x.snb, .bool x.now, .bool x.seed]) (wt1 rfl rfl rfl rfl hb6) rfl rfl (x_loadA H5 0 rfl rfl Try.underlying30 rfl sz30 rfl rfl rfl) ?_)
    refine l_of (s_call (wt1 rfl rfl rfl rfl hb6) (x_call' rfl rfl cl20) (has_s l p n c (by omega) x _ ((hYr _ (H5.takes [2] (by decide))))) ?_)
    rintro _ wq7 ⟨rfl, H8⟩
    replace H8 : S wq7 [Ob g1 (.cells #[.int .i64 (x.id), .bool x.intr, .bool x.chk, .int .i64 (x.frm), .int .i64 (x.to), .int .i64 (x.lt), .int .i64 (x.since), .bool x.snb, .bool x.now, .bool x.seed] 30 (0, 0)), Ob b (.cells #[.slice p n c] 22 (0, 0)), Y, Old w (fps [Ob b (.cells #[.slice p n c] 22 (0, 0)), Y])] := H5.absorb (new := []) H8
    refine b_ret rfl rfl ?_
    refine l_of (s_val (v := .bool (!((decide (x.id ∈ l.map Rv.id))))) (wt1 rfl rfl rfl rfl hb6) rfl rfl (x_not (b := (decide (x.id ∈ l.map Rv.id))) rfl rfl) ?_)
    refine l_of (s_val (v := .bool (!((decide (x.id ∈ l.map Rv.id))))) (wt0 rfl) rfl rfl (x_pick_t rfl rfl hb6 rfl) ?_)
    refine l_of (s_val (v := .bool (!((decide (x.id ∈ l.map Rv.id))))) (wt0 rfl) rfl rfl (x_assign rfl rfl) ?_)
    refine g_nil ?_
    refine g_then ?_
    refine g_ret ?_
    refine fin_ret [.tmp 3] [.bool (!((decide (x.id ∈ l.map Rv.id))))] rfl ⟨rfl, trivial⟩ ?_
    exact ⟨by unfold q2; simp [hb6, tupled], H8.takes [1, 2, 3] (by decide)⟩
  · skip
    refine l_of (s_not (wn1 rfl rfl rfl rfl hb6) rfl rfl ?_)
    refine l_of (s_not (wn1 rfl rfl rfl rfl hb6) rfl rfl ?_)
    refine l_of (s_not (wn1 rfl rfl rfl rfl hb6) rfl rfl ?_)
    refine l_of (s_not (wn1 rfl rfl rfl rfl hb6) rfl rfl ?_)
    refine l_of (s_val (v := .bool false) (wt0 rfl) rfl rfl (x_pick_f rfl rfl hb6 rfl) ?_)
    refine l_of (s_val (v := .bool false) (wt0 rfl) rfl rfl (x_assign rfl rfl) ?_)
    refine g_nil ?_
    refine g_then ?_
    refine g_ret ?_
    refine fin_ret [.tmp 3] [.bool false] rfl ⟨rfl, trivial⟩ ?_
    exact ⟨by unfold q2; simp [hb6, tupled], H5.takes [1, 2, 3] (by decide)⟩
theorem cho5_f (b : Nat) (l : List Rv) (p : Option Addr) (n c : Nat) (hn : n ≤ 9223372036854775807) (Y : Item) (hYr : ∀ w9, S w9 [Y] → Reads w9 p n c 10 (fl rvL l)) : FunC Try.prog 43 #[] #[.pointer (some ⟨b, 0, none⟩)] (Big [Ob b (.cells #[.slice p n c] 22 (0, 0)), Y]) (fun x : Rv => [x.v]) (fun x => .bool (q2 (l.map Rv.id) x)) (fun _ => True) :=
  FunC.ofBig (by kernel_rfl) fun z hb w HS => cho5_s b l p n c hn Y hYr _ w HS
end Go.Proofs.Ythfglkkjkpdkpaa
