import Derived.Test.YthfglkkjkpdkpaaGreatDoorLf
import Derived.Test.YthfglkkjkpdkpaaGreatDoorGr
set_option linter.unusedSimpArgs false
set_option linter.unusedVariables false
namespace Go.Proofs.YthfglkkjkpdkpaaGreatDoor
open Go.RowKit

theorem cl36 : callable Tryz.prog 36 = true := by kernel_rfl
theorem cl37 : callable Tryz.prog 37 = true := by kernel_rfl
theorem cl41 : callable Tryz.prog 41 = true := by kernel_rfl
theorem fo30_9 : foO Tryz.prog 30 9 = some 9 := by kernel_rfl
theorem sz65 : szO Tryz.prog 65 = some 1 := by kernel_rfl
theorem ze65 : zeO Tryz.prog 65 = some (.nilFunc) := by kernel_rfl
def qW (x : Rv) : Bool := x.intr && !x.seed
def cO (round : Int) (seed : ByteArray) (x y : Rv) : Int := cmpSt (luckS round seed x) (luckS round seed y)
noncomputable def optL (round : Int) (seed : ByteArray) (l : List Rv) : List Rv := srt Rv.zero (cO round seed) (l.filter qW)
theorem optL_len (round : Int) (seed : ByteArray) (l : List Rv) : (optL round seed l).length ≤ l.length := by unfold optL; rw [srt_len]; exact List.length_filter_le _ _
def encR (x : Rv) : Array Value := #[x.v]
theorem S.noI {w : World} {a : Item} {L : List Item} (h : S w (a :: L)) : S w (a :: Big [] :: L) := by
  have h1 : S w (Big [] :: a :: L) := h.addNil
  exact h1.perm (List.Perm.swap ..)
set_option maxRecDepth 20000 in
set_option maxHeartbeats 4000000 in
set_option maxRecDepth 20000 in
set_option maxHeartbeats 4000000 in
theorem wants_s (x : Rv)  (w : World) : Calls Tryz.prog 39 #[.agg #[.int .i64 (x.id), .bool x.intr, .bool x.chk, .int .i64 (x.frm), .int .i64 (x.to), .int .i64 (x.lt), .int .i64 (x.since), .bool x.snb, .bool x.now, .bool x.seed]] w fun e w' => e = .returned (.bool (qW x)) ∧ S w' [Old w no] := by
  have H0 := S.old w
  refine enter 10 Tryz.func39 rfl rfl rfl ?_
  refine g_weak [(0, .agg #[.int .i64 (x.id), .bool x.intr, .bool x.chk, .int .i64 (x.frm), .int .i64 (x.to), .int .i64 (x.lt), .int .i64 (x.since), .bool x.snb, .bool x.now, .bool x.seed])] ⟨rfl, trivial⟩ ?_
  refine g_seq ?_
  refine g_region ?_
  refine l_of (s_box H0 (wt0 rfl) rfl rfl rfl rfl ?_)
  intro g1 wq2 H3
  refine l_of (s_val (v := .bool false) (wt0 rfl) rfl rfl (x_assign rfl rfl) ?_)
  refine g_nil ?_
  refine g_then ?_
  refine g_seq ?_
  refine g_region ?_
  refine l_of (s_val (v := .pointer (some ⟨g1, 1, none⟩)) (wt0 rfl) rfl rfl (x_fieldAddr rfl rfl fo30_1 rfl) ?_)
  refine l_of (s_val (v := .bool x.intr) (wt0 rfl) rfl rfl (x_load1 H3 0 rfl rfl Tryz.underlying4 rfl rfl rfl) ?_)
  refine l_of (s_val (v := .bool x.intr) (wt0 rfl) rfl rfl (x_move rfl rfl) ?_)
  rcases Bool.eq_false_or_eq_true (x.intr) with hb4 | hb4
  · skip
    refine l_of (s_val (v := .pointer (some ⟨g1, 9, none⟩)) (wt1 rfl rfl rfl rfl hb4) rfl rfl (x_fieldAddr rfl rfl fo30_9 rfl) ?_)
    refine l_of (s_val (v := .bool x.seed) (wt1 rfl rfl rfl rfl hb4) rfl rfl (x_load1 H3 0 rfl rfl Tryz.underlying4 rfl rfl rfl) ?_)
    refine l_of (s_val (v := .bool (!(x.seed))) (wt1 rfl rfl rfl rfl hb4) rfl rfl (x_not (b := x.seed) rfl rfl) ?_)
    refine l_of (s_val (v := .bool (!(x.seed))) (wt0 rfl) rfl rfl (x_pick_t rfl rfl hb4 rfl) ?_)
    refine l_of (s_val (v := .bool (!(x.seed))) (wt0 rfl) rfl rfl (x_assign rfl rfl) ?_)
    refine g_nil ?_
    refine g_then ?_
    refine g_ret ?_
    refine fin_ret [.tmp 2] [.bool (!(x.seed))] rfl ⟨rfl, trivial⟩ ?_
    exact ⟨by unfold qW; simp [hb4, tupled], H3.mask [false, true]⟩
  · skip
    refine l_of (s_not (wn1 rfl rfl rfl rfl hb4) rfl rfl ?_)
    refine l_of (s_not (wn1 rfl rfl rfl rfl hb4) rfl rfl ?_)
    refine l_of (s_not (wn1 rfl rfl rfl rfl hb4) rfl rfl ?_)
    refine l_of (s_val (v := .bool false) (wt0 rfl) rfl rfl (x_pick_f rfl rfl hb4 rfl) ?_)
    refine l_of (s_val (v := .bool false) (wt0 rfl) rfl rfl (x_assign rfl rfl) ?_)
    refine g_nil ?_
    refine g_then ?_
    refine g_ret ?_
    refine fin_ret [.tmp 2] [.bool false] rfl ⟨rfl, trivial⟩ ?_
    exact ⟨by unfold qW; simp [hb4, tupled], H3.mask [false, true]⟩
theorem wants_f (D : Rv → Prop) : FunC Tryz.prog 39 #[] #[] (Big []) (fun x : Rv => [x.v]) (fun x => .bool (qW x)) D :=
  FunC.pure (by kernel_rfl) fun x _ w => wants_s x w
set_option maxRecDepth 20000 in
set_option maxHeartbeats 4000000 in
set_option maxRecDepth 20000 in
set_option maxHeartbeats 4000000 in
theorem opt1_s (b : Nat) (gf : Nat) (figf cagf : Array Value) (X : Item) (f : Rv → ByteArray) (D : Rv → Prop) (hf : FunC Tryz.prog gf figf cagf X (fun x : Rv => [x.v]) (fun x => .string (f x)) D) (x y : Rv) (hx : D x) (hy : D y)  (w : World) (HS : S w [Ob b (.cells #[.func (.func gf) figf cagf] 65 (0, 0)), X]) : Calls Tryz.prog 40 #[.agg #[.int .i64 (x.id), .bool x.intr, .bool x.chk, .int .i64 (x.frm), .int .i64 (x.to), .int .i64 (x.lt), .int .i64 (x.since), .bool x.snb, .bool x.now, .bool x.seed], .agg #[.int .i64 (y.id), .bool y.intr, .bool y.chk, .int .i64 (y.frm), .int .i64 (y.to), .int .i64 (y.lt), .int .i64 (y.since), .bool y.snb, .bool y.now, .bool y.seed], .pointer (some ⟨b, 0, none⟩)] w fun e w' => e = .returned (.int .i64 (cmpSt (f x) (f y))) ∧ S w' ([Ob b (.cells #[.func (.func gf) figf cagf] 65 (0, 0)), X] ++ [Old w (fps [Ob b (.cells #[.func (.func gf) figf cagf] 65 (0, 0)), X])]) := by
  have H00 := HS.beginI
  have H0 : S w ([Ob b (.cells #[.func (.func gf) figf cagf] 65 (0, 0)), X, Old w (fps [Ob b (.cells #[.func (.func gf) figf cagf] 65 (0, 0)), X])]) := H00
  refine enter 13 Tryz.func40 rfl rfl rfl ?_
  refine g_weak [(0, .agg #[.int .i64 (x.id), .bool x.intr, .bool x.chk, .int .i64 (x.frm), .int .i64 (x.to), .int .i64 (x.lt), .int .i64 (x.since), .bool x.snb, .bool x.now, .bool x.seed]), (1, .agg #[.int .i64 (y.id), .bool y.intr, .bool y.chk, .int .i64 (y.frm), .int .i64 (y.to), .int .i64 (y.lt), .int .i64 (y.since), .bool y.snb, .bool y.now, .bool y.seed]), (2, .pointer (some ⟨b, 0, none⟩))] ⟨rfl, rfl, rfl, trivial⟩ ?_
  refine g_seq ?_
  refine g_region ?_
  refine l_of (s_box H0 (wt0 rfl) rfl rfl rfl rfl ?_)
  intro g1 wq2 H3
  refine l_of (s_box H3 (wt0 rfl) rfl rfl rfl rfl ?_)
  intro g4 wq5 H6
  refine l_of (s_val (v := .int .i64 0) (wt0 rfl) rfl rfl (x_assign rfl rfl) ?_)
  refine g_nil ?_
  refine g_then ?_
  refine g_seq ?_
  refine g_anyY [] (fun wx => S wx [Ob g4 (.cells #[.int .i64 (y.id), .bool y.intr, .bool y.chk, .int .i64 (y.frm), .int .i64 (y.to), .int .i64 (y.lt), .int .i64 (y.since), .bool y.snb, .bool y.now, .bool y.seed] 30 (0, 0)), Ob g1 (.cells #[.int .i64 (x.id), .bool x.intr, .bool x.chk, .int .i64 (x.frm), .int .i64 (x.to), .int .i64 (x.lt), .int .i64 (x.since), .bool x.snb, .bool x.now, .bool x.seed] 30 (0, 0)), Ob b (.cells #[.func (.func gf) figf cagf] 65 (0, 0))]) (fun wx => S wx [Ob g4 (.cells #[.int .i64 (y.id), .bool y.intr, .bool y.chk, .int .i64 (y.frm), .int .i64 (y.to), .int .i64 (y.lt), .int .i64 (y.since), .bool y.snb, .bool y.now, .bool y.seed] 30 (0, 0)), Ob g1 (.cells #[.int .i64 (x.id), .bool x.intr, .bool x.chk, .int .i64 (x.frm), .int .i64 (x.to), .int .i64 (x.lt), .int .i64 (x.since), .bool x.snb, .bool x.now, .bool x.seed] 30 (0, 0)), Ob b (.cells #[.func (.func gf) figf cagf] 65 (0, 0))]) [] (by kernel_rfl) H6 (fun wq7 H8 => ?_)
  refine y_take (v := .func (.func gf) figf cagf) 0 rfl (wt0 rfl) rfl rfl rfl (by kernel_rfl) (by kernel_rfl) (by kernel_rfl) (by kernel_rfl) (by kernel_rfl) (H8.mask [true, true, true, false, false]) (fun wx H => x_load1 H 2 rfl rfl Tryz.underlying65 rfl rfl rfl) ?_
  refine y_take (v := .agg #[.int .i64 (x.id), .bool x.intr, .bool x.chk, .int .i64 (x.frm), .int .i64 (x.to), .int .i64 (x.lt), .int .i64 (x.since), .bool x.snb, .bool x.now, .bool x.seed]) 1 rfl (wt0 rfl) rfl rfl rfl (by kernel_rfl) (by kernel_rfl) (by kernel_rfl) (by kernel_rfl) (by kernel_rfl) (H8.mask [true, true, true, false, false]) (fun wx H => x_loadA H 1 rfl rfl Tryz.underlying30 rfl sz30 rfl rfl rfl) ?_
  refine y_take (v := .func (.func gf) figf cagf) 3 rfl (wt0 rfl) rfl rfl rfl (by kernel_rfl) (by kernel_rfl) (by kernel_rfl) (by kernel_rfl) (by kernel_rfl) (H8.mask [true, true, true, false, false]) (fun wx H => x_load1 H 2 rfl rfl Tryz.underlying65 rfl rfl rfl) ?_
  refine y_take (v := .agg #[.int .i64 (y.id), .bool y.intr, .bool y.chk, .int .i64 (y.frm), .int .i64 (y.to), .int .i64 (y.lt), .int .i64 (y.since), .bool y.snb, .bool y.now, .bool y.seed]) 4 rfl (wt0 rfl) rfl rfl rfl (by kernel_rfl) (by kernel_rfl) (by kernel_rfl) (by kernel_rfl) (by kernel_rfl) (H8.mask [true, true, true, false, false]) (fun wx H => x_loadA H 0 rfl rfl Tryz.underlying30 rfl sz30 rfl rfl rfl) ?_
  refine y_one (i := 2) (by kernel_rfl) rfl ?_
  refine s_call (wt0 rfl) (x_call rfl rfl rfl hf.ok) (hf.does x (hx) _ (H8.takes [3] (by decide))) ?_
  rintro _ wq9 ⟨rfl, H10⟩
  replace H10 : S wq9 [X, Ob g4 (.cells #[.int .i64 (y.id), .bool y.intr, .bool y.chk, .int .i64 (y.frm), .int .i64 (y.to), .int .i64 (y.lt), .int .i64 (y.since), .bool y.snb, .bool y.now, .bool y.seed] 30 (0, 0)), Ob g1 (.cells #[.int .i64 (x.id), .bool x.intr, .bool x.chk, .int .i64 (x.frm), .int .i64 (x.to), .int .i64 (x.lt), .int .i64 (x.since), .bool x.snb, .bool x.now, .bool x.seed] 30 (0, 0)), Ob b (.cells #[.func (.func gf) figf cagf] 65 (0, 0)), Old w (fps [Ob b (.cells #[.func (.func gf) figf cagf] 65 (0, 0)), X])] := H8.absorbI (new := [X]) [3] H10
  refine b_ret rfl rfl ?_
  refine y_k (H10.mask [false, true, true, true, false]) (H10.mask [false, true, true, true, false]) ?_
  refine y_one (i := 5) (by kernel_rfl) rfl ?_
  refine s_call (wt0 rfl) (x_call rfl rfl rfl hf.ok) (hf.does y (hy) _ (H10.takes [0] (by decide))) ?_
  rintro _ wq11 ⟨rfl, H12⟩
  replace H12 : S wq11 [X, Ob g4 (.cells #[.int .i64 (y.id), .bool y.intr, .bool y.chk, .int .i64 (y.frm), .int .i64 (y.to), .int .i64 (y.lt), .int .i64 (y.since), .bool y.snb, .bool y.now, .bool y.seed] 30 (0, 0)), Ob g1 (.cells #[.int .i64 (x.id), .bool x.intr, .bool x.chk, .int .i64 (x.frm), .int .i64 (x.to), .int .i64 (x.lt), .int .i64 (x.since), .bool x.snb, .bool x.now, .bool x.seed] 30 (0, 0)), Ob b (.cells #[.func (.func gf) figf cagf] 65 (0, 0)), Old w (fps [Ob b (.cells #[.func (.func gf) figf cagf] 65 (0, 0)), X])] := H10.absorbI (new := [X]) [0] H12
  refine b_ret rfl rfl ?_
  refine y_k (H12.mask [false, true, true, true, false]) (H12.mask [false, true, true, true, false]) ?_
  refine y_one (i := 6) (by kernel_rfl) rfl ?_
  refine s_call (wt0 rfl) (x_call' rfl rfl cl41) (compare_s (f x) (f y) _) ?_
  rintro _ wq13 ⟨rfl, H14⟩
  replace H14 : S wq13 [X, Ob g4 (.cells #[.int .i64 (y.id), .bool y.intr, .bool y.chk, .int .i64 (y.frm), .int .i64 (y.to), .int .i64 (y.lt), .int .i64 (y.since), .bool y.snb, .bool y.now, .bool y.seed] 30 (0, 0)), Ob g1 (.cells #[.int .i64 (x.id), .bool x.intr, .bool x.chk, .int .i64 (x.frm), .int .i64 (x.to), .int .i64 (x.lt), .int .i64 (x.since), .bool x.snb, .bool x.now, .bool x.seed] 30 (0, 0)), Ob b (.cells #[.func (.func gf) figf cagf] 65 (0, 0)), Old w (fps [Ob b (.cells #[.func (.func gf) figf cagf] 65 (0, 0)), X])] := H12.absorb (new := []) H14
  refine b_ret rfl rfl ?_
  refine y_k (H14.mask [false, true, true, true, false]) (H14.mask [false, true, true, true, false]) ?_
  refine y_pure (v := .int .i64 ((cmpSt (f x) (f y)))) 7 rfl (wt0 rfl) rfl rfl rfl (by kernel_rfl) (by kernel_rfl) (by kernel_rfl) (by kernel_rfl) (fun wx => x_assign rfl rfl) ?_
  refine y_done (by kernel_rfl) ?_
  refine g_then ?_
  refine g_weak [(5, .int .i64 ((cmpSt (f x) (f y))))] ⟨rfl, trivial⟩ ?_
  refine g_ret ?_
  refine fin_ret [.tmp 5] [.int .i64 ((cmpSt (f x) (f y)))] rfl ⟨rfl, trivial⟩ ?_
  exact ⟨rfl, H14.takes [3, 0, 4] (by decide)⟩
theorem opt1_f (b : Nat) (gf : Nat) (figf cagf : Array Value) (X : Item) (f : Rv → ByteArray) (D : Rv → Prop) (hf : FunC Tryz.prog gf figf cagf X (fun x : Rv => [x.v]) (fun x => .string (f x)) D) : FunC Tryz.prog 40 #[] #[.pointer (some ⟨b, 0, none⟩)] (Big [Ob b (.cells #[.func (.func gf) figf cagf] 65 (0, 0)), X]) (fun p : Rv × Rv => [p.1.v, p.2.v]) (fun p => .int .i64 (cmpSt (f p.1) (f p.2))) (fun p => D p.1 ∧ D p.2) :=
  FunC.ofBig (by kernel_rfl) fun z hb w HS => opt1_s b gf figf cagf X f D hf _ _ hb.1 hb.2 w HS
set_option maxRecDepth 20000 in
set_option maxHeartbeats 4000000 in
set_option maxRecDepth 20000 in
set_option maxHeartbeats 4000000 in
theorem drawn_s (round : Int) (seed : ByteArray)  (w : World) : Calls Tryz.prog 36 #[.int .i64 round, .string seed] w fun e w' => ∃ b1 b2, e = .returned (.func (.func 71) #[] #[.pointer (some ⟨b1, 0, none⟩), .pointer (some ⟨b2, 0, none⟩)]) ∧ S w' ([Ob b1 (.cells #[.string seed] 9 (0, 0)), Ob b2 (.cells #[.int .i64 round] 3 (0, 0))] ++ [Old w no]) := by
  have H0 := S.old w
  refine enter 6 Tryz.func36 rfl rfl rfl ?_
  refine g_weak [(0, .int .i64 round), (1, .string seed)] ⟨rfl, rfl, trivial⟩ ?_
  refine g_seq ?_
  refine g_region ?_
  refine l_of (s_box H0 (wt0 rfl) rfl rfl rfl rfl ?_)
  intro g1 wq2 H3
  refine l_of (s_box H3 (wt0 rfl) rfl rfl rfl rfl ?_)
  intro g4 wq5 H6
  refine l_of (s_val (v := .nilFunc) (wt0 rfl) rfl rfl (x_assign rfl rfl) ?_)
  refine g_nil ?_
  refine g_then ?_
  refine g_seq ?_
  refine g_region ?_
  refine l_of (s_val (v := .func (.func 71) #[] #[.pointer (some ⟨g4, 0, none⟩), .pointer (some ⟨g1, 0, none⟩)]) (wt0 rfl) rfl rfl (x_makeFunc rfl rfl rfl) ?_)
  refine l_of (s_val (v := .func (.func 71) #[] #[.pointer (some ⟨g4, 0, none⟩), .pointer (some ⟨g1, 0, none⟩)]) (wt0 rfl) rfl rfl (x_assign rfl rfl) ?_)
  refine g_nil ?_
  refine g_then ?_
  refine g_ret ?_
  refine fin_ret [.tmp 4] [.func (.func 71) #[] #[.pointer (some ⟨g4, 0, none⟩), .pointer (some ⟨g1, 0, none⟩)]] rfl ⟨rfl, trivial⟩ ?_
  exact ⟨_, _, rfl, H6.takes [0, 1, 2] (by decide)⟩
set_option maxRecDepth 20000 in
set_option maxHeartbeats 4000000 in
set_option maxRecDepth 20000 in
set_option maxHeartbeats 4000000 in
theorem values_s (q : Option Addr) (k d : Nat)  (w : World) : Calls Tryz.prog 37 #[.slice q k d] w fun e w' => ∃ b, e = .returned (.func (.func 74) #[] #[.pointer (some ⟨b, 0, none⟩)]) ∧ S w' ([Ob b (.cells #[.slice q k d] 22 (0, 0))] ++ [Old w no]) := by
  have H0 := S.old w
  refine enter 4 Tryz.func37 rfl rfl rfl ?_
  refine g_weak [(0, .slice q k d)] ⟨rfl, trivial⟩ ?_
  refine g_seq ?_
  refine g_region ?_
  refine l_of (s_box H0 (wt0 rfl) rfl rfl rfl rfl ?_)
  intro g1 wq2 H3
  refine l_of (s_val (v := .nilFunc) (wt0 rfl) rfl rfl (x_assign rfl rfl) ?_)
  refine g_nil ?_
  refine g_then ?_
  refine g_seq ?_
  refine g_region ?_
  refine l_of (s_val (v := .func (.func 74) #[] #[.pointer (some ⟨g1, 0, none⟩)]) (wt0 rfl) rfl rfl (x_makeFunc rfl rfl rfl) ?_)
  refine l_of (s_val (v := .func (.func 74) #[] #[.pointer (some ⟨g1, 0, none⟩)]) (wt0 rfl) rfl rfl (x_assign rfl rfl) ?_)
  refine g_nil ?_
  refine g_then ?_
  refine g_ret ?_
  refine fin_ret [.tmp 2] [.func (.func 74) #[] #[.pointer (some ⟨g1, 0, none⟩)]] rfl ⟨rfl, trivial⟩ ?_
  exact ⟨_, rfl, H3⟩
set_option maxRecDepth 20000 in
set_option maxHeartbeats 4000000 in
set_option maxRecDepth 20000 in
set_option maxHeartbeats 4000000 in
theorem values_it {n0 b : Nat} {l : List Rv} {p : Option Addr} {n c : Nat} {Y : Item} (hn9 : n ≤ 9223372036854775807) (hYr : ∀ w', S w' [Y] → Reads w' p n c 10 (fl rvL l)) :
    IterW n0 Tryz.prog 74 #[.pointer (some ⟨b, 0, none⟩)] encR (Big [Ob b (.cells #[.slice p n c] 22 (0, 0)), Y]) (fun pre x _ => l[pre.length]? = some x) (fun _ _ => True) (fun xs => xs = l) (fun _ => True) (Big []) := by
  intro l1 J Jx W C0 hOk hY h0 HS
  have H0 : S W [Ob b (.cells #[.slice p n c] 22 (0, 0)), Y, C0] := (HS.takes [0, 2] (by decide)).unbig
  have hnl := (hYr _ (H0.takes [1] (by decide))).lenL rvE
  refine enter_ci 16 Tryz.func74 rfl rfl rfl ?_
  have hL : ¬ LetsOut (bodyPost Tryz.prog Tryz.f74 fun e W' => (∃ v, e = .returned v) ∧ ((∃ xs CC, xs = l ∧ J xs CC ∧ S W' [Big [Ob b (.cells #[.slice p n c] 22 (0, 0)), Y], CC]) ∨ (∃ pre CC, True ∧ Jx pre CC ∧ S W' [Big [Ob b (.cells #[.slice p n c] 22 (0, 0)), Y], CC]))) := by
    rintro ⟨_, _, ⟨_, h⟩, _⟩
    cases h
  refine g_weak [(0, .func (.yield l1) #[] #[]), (1, .pointer (some ⟨b, 0, none⟩))] ⟨rfl, rfl, trivial⟩ ?_
  refine R.g_seq ?_
  refine R.g_region ?_
  refine R.l_of rfl (fun h => hL h) (s_val (v := .slice p n c) (wt0 rfl) rfl rfl (x_load1 H0 0 rfl rfl Tryz.underlying22 rfl rfl rfl) ?_)
  refine R.l_of rfl (fun h => hL h) (s_val (v := .int .i64 ((n : Int))) (wt0 rfl) rfl rfl (x_lenl rfl rfl Tryz.underlying22) ?_)
  refine R.l_of rfl (fun h => hL h) (s_val (v := .int .i64 0) (wt0 rfl) rfl rfl (x_move rfl rfl) ?_)
  refine R.g_nil ?_
  refine g_then ?_
  refine R.g_block ?_
  refine R.g_loop (ι := Nat × Item) (fun (i, C) => [(0, .func (.yield l1) #[] #[]), (5, .slice p n c), (6, .int .i64 ((n : Int))), (7, .int .i64 ((i : Int)))]) (fun (i, C) wx => (i ≤ n) ∧ (J (l.take i) C) ∧ S wx [Ob b (.cells #[.slice p n c] 22 (0, 0)), Y, C]) (fun (i, C) => n - i) (0, C0) ⟨rfl, rfl, rfl, rfl, trivial⟩ ⟨Nat.zero_le _, (by rw [List.take_zero]; exact h0), (H0.takes [0, 1, 2] (by decide))⟩ ?_
  rintro ⟨i, C⟩ wq1 ⟨hi, hJ, H2⟩
  replace H2 : S wq1 [Ob b (.cells #[.slice p n c] 22 (0, 0)), Y, C] := H2
  refine g_weak [(0, .func (.yield l1) #[] #[]), (5, .slice p n c), (6, .int .i64 ((n : Int))), (7, .int .i64 ((i : Int)))] ⟨rfl, rfl, rfl, rfl, trivial⟩ ?_
  refine R.g_seq ?_
  refine R.g_region ?_
  refine R.l_of rfl (fun h => hL h) (s_val (v := .bool (decide (((i : Int) : Int) < (n : Int)))) (wt0 rfl) rfl rfl (x_bin rfl rfl rfl b_lss) ?_)
  refine R.g_nil ?_
  refine g_then ?_
  refine R.g_seq ?_
  by_cases hb3 : ((i : Int) : Int) < (n : Int)
  · skip
    refine R.g_cond_t rfl (decide_eq_true hb3) ?_
    refine R.g_skip ?_
    refine g_then ?_
    refine R.g_seq ?_
    refine R.g_block ?_
    refine R.g_seq ?_
    refine R.g_region ?_
    refine R.l_of rfl (fun h => hL h) (s_val (v := .pointer ((p).map fun q => q.add (i * 10))) (wt0 rfl) rfl rfl (x_idxR i ((hYr _ (H2.takes [1] (by decide)))) rfl rfl rfl Tryz.underlying22 sz30 (by omega)) ?_)
    have hlq := ((hYr _ (H2.takes [1] (by decide)))).lenL rvE
    obtain ⟨x4, hx4⟩ := ex_at (l := l) (j := i) (by omega)
    clear hlq
    refine R.l_of rfl (fun h => hL h) (s_val (v := .agg #[.int .i64 (x4.id), .bool x4.intr, .bool x4.chk, .int .i64 (x4.frm), .int .i64 (x4.to), .int .i64 (x4.lt), .int .i64 (x4.since), .bool x4.snb, .bool x4.now, .bool x4.seed]) (wt0 rfl) rfl rfl (x_loadRA (vs := rvL x4) i ((hYr _ (H2.takes [1] (by decide)))) (by omega) rfl rfl Tryz.underlying30 rfl sz30 (by rfl) (rvE.flAt hx4)) ?_)
    refine R.l_of rfl (fun h => hL h) (s_alloc H2 (wt0 rfl) rfl rfl rfl ze30 ?_)
    intro g5 wq6 H7
    refine R.l_of rfl (fun h => hL h) (s_store H7 0 (wt0 rfl) rfl rfl rfl rfl rfl sz30 rfl rfl (cs' := #[.int .i64 (x4.id), .bool x4.intr, .bool x4.chk, .int .i64 (x4.frm), .int .i64 (x4.to), .int .i64 (x4.lt), .int .i64 (x4.since), .bool x4.snb, .bool x4.now, .bool x4.seed]) rfl ?_)
    intro wq8 H9
    refine R.g_nil ?_
    refine g_then ?_
    refine R.g_seq ?_
    refine R.g_region ?_
    refine R.l_of rfl (fun h => hL h) (s_val (v := .func (.yield l1) #[] #[]) (wt0 rfl) rfl rfl (x_move rfl rfl) ?_)
    refine R.l_of rfl (fun h => hL h) (s_val (v := .agg #[.int .i64 (x4.id), .bool x4.intr, .bool x4.chk, .int .i64 (x4.frm), .int .i64 (x4.to), .int .i64 (x4.lt), .int .i64 (x4.since), .bool x4.snb, .bool x4.now, .bool x4.seed]) (wt0 rfl) rfl rfl (x_loadA H9 0 rfl rfl Tryz.underlying30 rfl sz30 rfl rfl rfl) ?_)
    have H10 : S wq8 [Big [Ob b (.cells #[.slice p n c] 22 (0, 0)), Y], Big [], C] := S.noI (S.big (L := [_, _]) (H9.takes [1, 2, 3] (by decide)))
    refine l_yield (wt0 rfl) rfl rfl rfl rfl rfl (hY (l.take i) x4 wq8 _ C hJ (by show l[(l.take i).length]? = _; rw [List.length_take, Nat.min_eq_left (by omega)]; exact hx4) H10) ?_
    rintro _ wq11 (⟨rfl, C9, hJ9, hS2⟩ | ⟨rfl, C9, hJx, hS2⟩)
    · skip
      refine ⟨_, rfl, ?_⟩
      have H12 : S wq11 [Ob b (.cells #[.slice p n c] 22 (0, 0)), Y, C9] := S.unbig (hS2.takes [0, 2] (by decide))
      refine R.l_of rfl (fun h => hL h) (s_val (v := .bool false) (wt0 rfl) rfl rfl (x_not (b := true) rfl rfl) ?_)
      refine R.g_nil ?_
      refine g_then ?_
      refine R.g_cond_f rfl rfl ?_
      refine R.g_skip ?_
      refine g_in ?_
      refine g_then ?_
      refine R.g_region ?_
      refine R.l_of rfl (fun h => hL h) (s_val (v := .int .i64 (((i + 1 : Nat) : Int))) (wt0 rfl) rfl rfl (x_bin rfl rfl rfl (b_add (by rw [w64 (by omega)]; omega))) ?_)
      refine R.l_of rfl (fun h => hL h) (s_val (v := .int .i64 (((i + 1 : Nat) : Int))) (wt0 rfl) rfl rfl (x_move rfl rfl) ?_)
      refine R.g_nil ?_
      refine g_then ?_
      refine g_round (i := (i, C)) ((i + 1), C9) ?_ ?_ ?_
      · exact ⟨rfl, rfl, rfl, rfl, trivial⟩
      · exact ⟨by omega, (by rw [take_snocL hx4]; exact hJ9), (H12.takes [0, 1, 2] (by decide))⟩
      · (try dsimp only); omega
    · skip
      refine ⟨_, rfl, ?_⟩
      have H13 : S wq11 [Ob b (.cells #[.slice p n c] 22 (0, 0)), Y, C9] := S.unbig (hS2.takes [0, 2] (by decide))
      refine R.l_of rfl (fun h => hL h) (s_val (v := .bool true) (wt0 rfl) rfl rfl (x_not (b := false) rfl rfl) ?_)
      refine R.g_nil ?_
      refine g_then ?_
      refine R.g_cond_t rfl rfl ?_
      refine R.g_ret ?_
      refine g_in_ret ?_
      refine g_then_ret ?_
      refine g_then_ret ?_
      refine g_in_ret ?_
      refine fin_ret [] [] rfl trivial ?_
      exact ⟨⟨_, rfl⟩, .inr ⟨_, _, trivial, hJx, (S.big (L := [_, _]) (H13.takes [0, 1, 2] (by decide)))⟩⟩
  · skip
    refine R.g_cond_f rfl (decide_eq_false hb3) ?_
    refine R.g_exit ?_
    refine g_then_exit ?_
    refine g_then_exit ?_
    refine g_in_hit ?_
    refine fin_end [] [] rfl trivial ?_
    rw [List.take_of_length_le (by omega)] at hJ
    exact ⟨⟨_, rfl⟩, .inl ⟨_, _, rfl, hJ, (S.big (L := [_, _]) (H2.takes [0, 1, 2] (by decide)))⟩⟩
set_option maxRecDepth 20000 in
set_option maxHeartbeats 4000000 in
set_option maxRecDepth 20000 in
set_option maxHeartbeats 4000000 in
theorem optimistic_s (seed : ByteArray) (round : Int) (hsd : seed.size ≤ 200) (hrd : 0 ≤ round ∧ round ≤ 9223372036854775807) (l : List Rv) (p : Option Addr) (n c : Nat) (hn2 : n ≤ 1000000) (hval : ∀ x ∈ l, validR x = true)  (w : World) (hr : Reads w p n c 10 (fl rvL l)) (ht : PowTab w) : Calls Tryz.prog 24 #[.int .i64 round, .string seed, .slice p n c] w fun e w' => ∃ b p' c', e = .returned (.func (.func 74) #[] #[.pointer (some ⟨b, 0, none⟩)]) ∧ S w' ([Ob b (.cells #[.slice p' (optL round seed l).length c'] 22 (0, 0)), Rw 30 10 p' (optL round seed l).length c' (fl rvL (optL round seed l))] ++ [Old w no]) := by
  have H0 := S.old w
  have hnl := hr.lenL rvE
  refine enter 15 Tryz.func24 rfl rfl rfl ?_
  refine g_weak [(0, .int .i64 round), (1, .string seed), (2, .slice p n c)] ⟨rfl, rfl, rfl, trivial⟩ ?_
  refine g_seq ?_
  refine g_region ?_
  refine l_of (s_val (v := .nilFunc) (wt0 rfl) rfl rfl (x_assign rfl rfl) ?_)
  refine g_nil ?_
  refine g_then ?_
  refine g_seq ?_
  refine g_region ?_
  refine l_of (s_val (v := .int .i64 round) (wt0 rfl) rfl rfl (x_move rfl rfl) ?_)
  refine l_of (s_val (v := .string seed) (wt0 rfl) rfl rfl (x_move rfl rfl) ?_)
  refine l_of (s_call (wt0 rfl) (x_call' rfl rfl cl36) (drawn_s round seed _) ?_)
  rintro _ wq1 ⟨bs, br, rfl, H2⟩
  replace H2 : S wq1 [Ob bs (.cells #[.string seed] 9 (0, 0)), Ob br (.cells #[.int .i64 round] 3 (0, 0)), Old w no] := H0.absorb (new := [Ob bs (.cells #[.string seed] 9 (0, 0)), Ob br (.cells #[.int .i64 round] 3 (0, 0))]) H2
  refine b_ret rfl rfl ?_
  refine l_of (s_alloc H2 (wt0 rfl) rfl rfl rfl ze65 ?_)
  intro g3 wq4 H5
  refine l_of (s_store H5 0 (wt0 rfl) rfl rfl rfl rfl rfl sz65 rfl rfl (cs' := #[.func (.func 71) #[] #[.pointer (some ⟨bs, 0, none⟩), .pointer (some ⟨br, 0, none⟩)]]) rfl ?_)
  intro wq6 H7
  refine g_nil ?_
  refine g_then ?_
  refine g_seq ?_
  refine g_region ?_
  refine l_of (s_val (v := .slice p n c) (wt0 rfl) rfl rfl (x_move rfl rfl) ?_)
  refine l_of (s_val (v := .func (.func 40) #[] #[.pointer (some ⟨g3, 0, none⟩)]) (wt0 rfl) rfl rfl (x_makeFunc rfl rfl rfl) ?_)
  have H8 : S wq6 [(Big [Ob bs (.cells #[.string seed] 9 (0, 0)), Ob br (.cells #[.int .i64 round] 3 (0, 0)), Old w no]), Ob g3 (.cells #[.func (.func 71) #[] #[.pointer (some ⟨bs, 0, none⟩), .pointer (some ⟨br, 0, none⟩)]] 65 (0, 0))] := S.big (L := [Ob bs (.cells #[.string seed] 9 (0, 0)), Ob br (.cells #[.int .i64 round] 3 (0, 0)), Old w no]) (H7.takes [1, 2, 3, 0] (by decide))
  have H9 : S wq6 [(Big [Ob g3 (.cells #[.func (.func 71) #[] #[.pointer (some ⟨bs, 0, none⟩), .pointer (some ⟨br, 0, none⟩)]] 65 (0, 0)), (Big [Ob bs (.cells #[.string seed] 9 (0, 0)), Ob br (.cells #[.int .i64 round] 3 (0, 0)), Old w no])])] := S.big (L := [Ob g3 (.cells #[.func (.func 71) #[] #[.pointer (some ⟨bs, 0, none⟩), .pointer (some ⟨br, 0, none⟩)]] 65 (0, 0)), (Big [Ob bs (.cells #[.string seed] 9 (0, 0)), Ob br (.cells #[.int .i64 round] 3 (0, 0)), Old w no])]) (H8.takes [1, 0] (by decide))
  have H10 : S wq6 [(Big []), (Big [Ob g3 (.cells #[.func (.func 71) #[] #[.pointer (some ⟨bs, 0, none⟩), .pointer (some ⟨br, 0, none⟩)]] 65 (0, 0)), (Big [Ob bs (.cells #[.string seed] 9 (0, 0)), Ob br (.cells #[.int .i64 round] 3 (0, 0)), Old w no])])] := H9.addNil
  refine l_of (s_call (wt0 rfl) (x_call' rfl rfl cl38) (which_s l p n c (by omega) 39 #[] #[] (Big []) qW (fun _ => True) (wants_f _) 40 #[] #[.pointer (some ⟨g3, 0, none⟩)] (Big [Ob g3 (.cells #[.func (.func 71) #[] #[.pointer (some ⟨bs, 0, none⟩), .pointer (some ⟨br, 0, none⟩)]] 65 (0, 0)), (Big [Ob bs (.cells #[.string seed] 9 (0, 0)), Ob br (.cells #[.int .i64 round] 3 (0, 0)), Old w no])]) (cO round seed) DV (opt1_f g3 71 #[] #[.pointer (some ⟨bs, 0, none⟩), .pointer (some ⟨br, 0, none⟩)] (Big [Ob bs (.cells #[.string seed] 9 (0, 0)), Ob br (.cells #[.int .i64 round] 3 (0, 0)), Old w no]) (luckS round seed) DV (drawn1_f bs br w ht seed round hsd hrd)) (fun _ _ => trivial) (fun x hx => validR_D (hval x hx)) _ (H10.takes [0, 1] (by decide)) (fun w9 h9 => (S.unbig ((S.unbig (h9.takes [1] (by decide))).takes [1] (by decide))).exReads (k := 2) rfl hr (fun _ _ _ h => h))) ?_)
  rintro _ wq11 ⟨pw, cw, rfl, H12⟩
  replace H12 : S wq11 [Rw 30 10 pw ((srt Rv.zero (cO round seed) (l.filter qW)).length) cw (fl rvL (srt Rv.zero (cO round seed) (l.filter qW))), (Big []), (Big [Ob g3 (.cells #[.func (.func 71) #[] #[.pointer (some ⟨bs, 0, none⟩), .pointer (some ⟨br, 0, none⟩)]] 65 (0, 0)), (Big [Ob bs (.cells #[.string seed] 9 (0, 0)), Ob br (.cells #[.int .i64 round] 3 (0, 0)), Old w no])])] := H10.absorbI (new := [Rw 30 10 pw ((srt Rv.zero (cO round seed) (l.filter qW)).length) cw (fl rvL (srt Rv.zero (cO round seed) (l.filter qW))), (Big []), (Big [Ob g3 (.cells #[.func (.func 71) #[] #[.pointer (some ⟨bs, 0, none⟩), .pointer (some ⟨br, 0, none⟩)]] 65 (0, 0)), (Big [Ob bs (.cells #[.string seed] 9 (0, 0)), Ob br (.cells #[.int .i64 round] 3 (0, 0)), Old w no])])]) [0, 1] H12
  have H13 : S wq11 [Ob g3 (.cells #[.func (.func 71) #[] #[.pointer (some ⟨bs, 0, none⟩), .pointer (some ⟨br, 0, none⟩)]] 65 (0, 0)), (Big [Ob bs (.cells #[.string seed] 9 (0, 0)), Ob br (.cells #[.int .i64 round] 3 (0, 0)), Old w no]), Rw 30 10 pw ((srt Rv.zero (cO round seed) (l.filter qW)).length) cw (fl rvL (srt Rv.zero (cO round seed) (l.filter qW))), (Big [])] := S.unbig (H12.takes [2, 0, 1] (by decide))
  have H14 : S wq11 [Ob bs (.cells #[.string seed] 9 (0, 0)), Ob br (.cells #[.int .i64 round] 3 (0, 0)), Old w no, Ob g3 (.cells #[.func (.func 71) #[] #[.pointer (some ⟨bs, 0, none⟩), .pointer (some ⟨br, 0, none⟩)]] 65 (0, 0)), Rw 30 10 pw ((srt Rv.zero (cO round seed) (l.filter qW)).length) cw (fl rvL (srt Rv.zero (cO round seed) (l.filter qW))), (Big [])] := S.unbig (H13.takes [1, 0, 2, 3] (by decide))
  refine b_ret rfl rfl ?_
  refine l_of (s_call (wt0 rfl) (x_call' rfl rfl cl37) (values_s pw ((srt Rv.zero (cO round seed) (l.filter qW)).length) cw _) ?_)
  rintro _ wq16 ⟨bv15, rfl, H17⟩
  replace H17 : S wq16 [Ob bv15 (.cells #[.slice pw ((srt Rv.zero (cO round seed) (l.filter qW)).length) cw] 22 (0, 0)), Ob bs (.cells #[.string seed] 9 (0, 0)), Ob br (.cells #[.int .i64 round] 3 (0, 0)), Old w no, Ob g3 (.cells #[.func (.func 71) #[] #[.pointer (some ⟨bs, 0, none⟩), .pointer (some ⟨br, 0, none⟩)]] 65 (0, 0)), Rw 30 10 pw ((srt Rv.zero (cO round seed) (l.filter qW)).length) cw (fl rvL (srt Rv.zero (cO round seed) (l.filter qW))), (Big [])] := H14.absorb (new := [Ob bv15 (.cells #[.slice pw ((srt Rv.zero (cO round seed) (l.filter qW)).length) cw] 22 (0, 0))]) H17
  refine b_ret rfl rfl ?_
  refine l_of (s_val (v := .func (.func 74) #[] #[.pointer (some ⟨bv15, 0, none⟩)]) (wt0 rfl) rfl rfl (x_assign rfl rfl) ?_)
  refine g_nil ?_
  refine g_then ?_
  refine g_ret ?_
  refine fin_ret [.tmp 6] [.func (.func 74) #[] #[.pointer (some ⟨bv15, 0, none⟩)]] rfl ⟨rfl, trivial⟩ ?_
  exact ⟨_, _, _, rfl, H17.takes [0, 5, 3] (by decide)⟩
end Go.Proofs.YthfglkkjkpdkpaaGreatDoor
