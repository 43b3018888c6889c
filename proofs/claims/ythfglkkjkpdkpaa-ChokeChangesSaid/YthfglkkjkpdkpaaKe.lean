import Derived.Test.YthfglkkjkpdkpaaKd
set_option linter.unusedSimpArgs false
set_option linter.unusedVariables false
namespace Go.Proofs.Ythfglkkjkpdkpaa
open Go.RowKit

theorem cl16 : callable Try.prog 16 = true := by kernel_rfl
theorem cl17 : callable Try.prog 17 = true := by kernel_rfl
theorem cl18 : callable Try.prog 18 = true := by kernel_rfl
theorem cl23 : callable Try.prog 23 = true := by kernel_rfl
theorem cl28 : callable Try.prog 28 = true := by kernel_rfl
theorem cl29 : callable Try.prog 29 = true := by kernel_rfl
theorem cl30 : callable Try.prog 30 = true := by kernel_rfl
theorem cl31 : callable Try.prog 31 = true := by kernel_rfl
theorem fo30_8 : foO Try.prog 30 8 = some 8 := by kernel_rfl
theorem sz45 : szO Try.prog 45 = some 1 := by kernel_rfl
theorem ze45 : zeO Try.prog 45 = some (.nilFunc) := by kernel_rfl
open Classical in
noncomputable def chgE (l : List Rv) (m : List Int) : Int := if ¬ askE (ByteArray.mk #[]) l = 0 then askE (ByteArray.mk #[]) l else if ¬ m.Nodup then 6 else if ∃ n ∈ m, n < 0 then 7 else if ∃ n ∈ m, n ∉ l.map Rv.id then 5 else 0
noncomputable def onL (l : List Rv) (m : List Int) : List Int := sortI ((l.filter (fun r : Rv => decide (r.id ∈ m) && !r.now)).map Rv.id)
noncomputable def offL (l : List Rv) (m : List Int) : List Int := sortI ((l.filter (fun r : Rv => !decide (r.id ∈ m) && r.now)).map Rv.id)
noncomputable def onV (l : List Rv) (m : List Int) : List Int := if chgE l m = 0 then onL l m else []
noncomputable def offV (l : List Rv) (m : List Int) : List Int := if chgE l m = 0 then offL l m else []
theorem chg_v {l : List Rv} {m : List Int} {e : Int} (h : chgE l m = e) (he : ¬ e = 0) : onV l m = [] ∧ offV l m = [] := by
  unfold onV offV; rw [h, if_neg he, if_neg he]; exact ⟨rfl, rfl⟩
theorem chg_z {l : List Rv} {m : List Int} (h : chgE l m = 0) : onV l m = onL l m ∧ offV l m = offL l m := by
  unfold onV offV; rw [h, if_pos rfl, if_pos rfl]; exact ⟨rfl, rfl⟩
theorem chg_a {l : List Rv} {m : List Int} (h : ¬ askE (ByteArray.mk #[]) l = 0) : chgE l m = askE (ByteArray.mk #[]) l := by unfold chgE; rw [if_pos h]
theorem chg_6 {l : List Rv} {m : List Int} (h : askE (ByteArray.mk #[]) l = 0) (h1 : ¬ m.Nodup) : chgE l m = 6 := by unfold chgE; rw [if_neg (not_not_intro h), if_pos h1]
theorem chg_7 {l : List Rv} {m : List Int} (h : askE (ByteArray.mk #[]) l = 0) (h1 : m.Nodup) (h2 : ∃ n ∈ m, n < 0) : chgE l m = 7 := by unfold chgE; rw [if_neg (not_not_intro h), if_neg (not_not_intro h1), if_pos h2]
theorem chg_5 {l : List Rv} {m : List Int} (h : askE (ByteArray.mk #[]) l = 0) (h1 : m.Nodup) (h2 : ∀ n ∈ m, ¬ n < 0) (h3 : ∃ n ∈ m, n ∉ l.map Rv.id) : chgE l m = 5 := by unfold chgE; rw [if_neg (not_not_intro h), if_neg (not_not_intro h1), if_neg (fun ⟨n, a, b⟩ => h2 n a b), if_pos h3]
theorem chg_0 {l : List Rv} {m : List Int} (h : askE (ByteArray.mk #[]) l = 0) (h1 : m.Nodup) (h2 : ∀ n ∈ m, ¬ n < 0) (h3 : ∀ n ∈ m, n ∈ l.map Rv.id) : chgE l m = 0 := by unfold chgE; rw [if_neg (not_not_intro h), if_neg (not_not_intro h1), if_neg (fun ⟨n, a, b⟩ => h2 n a b), if_neg (fun ⟨n, a, b⟩ => b (h3 n a))]
theorem chg_ok {l : List Rv} {m : List Int} (h : chgE l m = 0) : askE (ByteArray.mk #[]) l = 0 ∧ m.Nodup ∧ (∀ n ∈ m, ¬ n < 0) ∧ ∀ n ∈ m, n ∈ l.map Rv.id := by
  by_cases h1 : askE (ByteArray.mk #[]) l = 0
  · by_cases h2 : m.Nodup
    · by_cases h3 : ∃ n ∈ m, n < 0
      · rw [chg_7 h1 h2 h3] at h; cases h
      · have h3' : ∀ n ∈ m, ¬ n < 0 := fun n a b => h3 ⟨n, a, b⟩
        by_cases h4 : ∃ n ∈ m, n ∉ l.map Rv.id
        · rw [chg_5 h1 h2 h3' h4] at h; cases h
        · exact ⟨h1, h2, h3', fun n a => Classical.byContradiction fun hn => h4 ⟨n, a, hn⟩⟩
    · rw [chg_6 h1 h2] at h; cases h
  · rw [chg_a h1] at h; exact absurd h h1
theorem ids_srt (c : Rv → Rv → Int) (l : List Rv) : sortI ((srt Rv.zero c l).map Rv.id) = sortI (l.map Rv.id) := sortI_eq ((srt_perm Rv.zero c l).map _)
theorem nodupI_nxt {m : List Int} {i : Nat} {x : Int} (hx : m[i]? = some x) : (m.take (i + 1)).Nodup ↔ (m.take i).Nodup ∧ x ∉ m.take i := by
  rw [take_snocL hx, List.nodup_append]
  constructor
  · intro ⟨h1, _, h3⟩; exact ⟨h1, fun h => h3 _ h x (by simp) rfl⟩
  · intro ⟨h1, h2⟩; exact ⟨h1, by simp, fun a ha b hb e => by simp at hb; subst e; subst hb; exact h2 ha⟩
theorem nodupI_of {m : List Int} {i : Nat} {x : Int} (hx : m[i]? = some x) (h : x ∈ m.take i) : ¬ m.Nodup := fun hn => ((nodupI_nxt hx).1 (hn.sublist (List.take_sublist ..))).2 h
theorem memI_nxt {m : List Int} {i : Nat} {x : Int} (hx : m[i]? = some x) (k : Int) : k ∈ m.take (i + 1) ↔ k = x ∨ k ∈ m.take i := by
  rw [take_snocL hx, List.mem_append]; simp [or_comm]
theorem onid_nxt {l : List Rv} {q : Rv → Bool} {i : Nat} {x : Rv} (hx : l[i]? = some x) : ((l.take (i + 1)).filter q).map Rv.id = ((l.take i).filter q).map Rv.id ++ if q x = true then [x.id] else [] := by
  rw [take_snocL hx, List.filter_append, List.map_append]
  congr 1
  cases h : q x <;> simp [h]
set_option maxRecDepth 20000 in
set_option maxHeartbeats 4000000 in
set_option maxRecDepth 20000 in
set_option maxHeartbeats 4000000 in
theorem neg1_s (x : Int)  (w : World) : Calls Try.prog 19 #[.int .i64 x] w fun e w' => e = .returned (.bool (decide (x < 0))) ∧ S w' [Old w no] := by
  have H0 := S.old w
  refine enter 5 Try.func19 rfl rfl rfl ?_
  refine g_weak [(0, .int .i64 x)] ⟨rfl, trivial⟩ ?_
  refine g_seq ?_
  refine g_region ?_
  refine l_of (s_val (v := .bool false) (wt0 rfl) rfl rfl (x_assign rfl rfl) ?_)
  refine g_nil ?_
  refine g_then ?_
  refine g_seq ?_
  refine g_region ?_
  refine l_of (s_val (v := .int .i64 x) (wt0 rfl) rfl rfl (x_move rfl rfl) ?_)
  refine l_of (s_val (v := .bool (decide ((x : Int) < 0))) (wt0 rfl) rfl rfl (x_bin rfl rfl rfl b_lss) ?_)
  refine l_of (s_val (v := .bool (decide ((x : Int) < 0))) (wt0 rfl) rfl rfl (x_assign rfl rfl) ?_)
  refine g_nil ?_
  refine g_then ?_
  refine g_ret ?_
  refine fin_ret [.tmp 2] [.bool (decide ((x : Int) < 0))] rfl ⟨rfl, trivial⟩ ?_
  exact ⟨rfl, H0.mask [true]⟩
theorem neg1_f : FunC Try.prog 19 #[] #[] (Big []) (fun x : Int => [.int .i64 x]) (fun x => .bool ((fun x : Int => decide (x < 0)) x)) (fun _ => True) :=
  FunC.pure (by kernel_rfl) fun x _ w => neg1_s x w
set_option maxRecDepth 20000 in
set_option maxHeartbeats 4000000 in
set_option maxRecDepth 20000 in
set_option maxHeartbeats 4000000 in
theorem now2_s (x : Rv)  (w : World) : Calls Try.prog 21 #[.agg #[.int .i64 (x.id), .bool x.intr, .bool x.chk, .int .i64 (x.frm), .int .i64 (x.to), .int .i64 (x.lt), .int .i64 (x.since), .bool x.snb, .bool x.now, .bool x.seed]] w fun e w' => e = .returned (.bool x.now) ∧ S w' [Old w no] := by
  have H0 := S.old w
  refine enter 5 Try.func21 rfl rfl rfl ?_
  refine g_weak [(0, .agg #[.int .i64 (x.id), .bool x.intr, .bool x.chk, .int .i64 (x.frm), .int .i64 (x.to), .int .i64 (x.lt), .int .i64 (x.since), .bool x.snb, .bool x.now, .bool x.seed])] ⟨rfl, trivial⟩ ?_
  refine g_seq ?_
  refine g_region ?_
  refine l_of (s_box H0 (wt0 rfl) rfl rfl rfl rfl ?_)
  intro g1 wq2 H3
  refine l_of (s_val (v := .bool false) (wt0 rfl) rfl rfl (x_assign rfl rfl) ?_)
  refine g_nil ?_
  refine g_then ?_
  refine g_seq ?_
  refine g_region ?_
  refine l_of (s_val (v := .pointer (some ⟨g1, 8, none⟩)) (wt0 rfl) rfl rfl (x_fieldAddr rfl rfl fo30_8 rfl) ?_)
  refine l_of (s_val (v := .bool x.now) (wt0 rfl) rfl rfl (x_load1 H3 0 rfl rfl Try.underlying4 rfl rfl rfl) ?_)
  refine l_of (s_val (v := .bool x.now) (wt0 rfl) rfl rfl (x_assign rfl rfl) ?_)
  refine g_nil ?_
  refine g_then ?_
  refine g_ret ?_
  refine fin_ret [.tmp 2] [.bool x.now] rfl ⟨rfl, trivial⟩ ?_
  exact ⟨rfl, H3.mask [false, true]⟩
theorem now2_f : FunC Try.prog 21 #[] #[] (Big []) (fun x : Rv => [x.v]) (fun x => .bool ((fun x : Rv => x.now) x)) (fun _ => True) :=
  FunC.pure (by kernel_rfl) fun x _ w => now2_s x w
set_option maxRecDepth 20000 in
set_option maxHeartbeats 4000000 in
set_option maxRecDepth 20000 in
set_option maxHeartbeats 4000000 in
theorem byID_s (x : Rv)  (w : World) : Calls Try.prog 26 #[.agg #[.int .i64 (x.id), .bool x.intr, .bool x.chk, .int .i64 (x.frm), .int .i64 (x.to), .int .i64 (x.lt), .int .i64 (x.since), .bool x.snb, .bool x.now, .bool x.seed]] w fun e w' => e = .returned (.int .i64 x.id) ∧ S w' [Old w no] := by
  have H0 := S.old w
  refine enter 5 Try.func26 rfl rfl rfl ?_
  refine g_weak [(0, .agg #[.int .i64 (x.id), .bool x.intr, .bool x.chk, .int .i64 (x.frm), .int .i64 (x.to), .int .i64 (x.lt), .int .i64 (x.since), .bool x.snb, .bool x.now, .bool x.seed])] ⟨rfl, trivial⟩ ?_
  refine g_seq ?_
  refine g_region ?_
  refine l_of (s_box H0 (wt0 rfl) rfl rfl rfl rfl ?_)
  intro g1 wq2 H3
  refine l_of (s_val (v := .int .i64 0) (wt0 rfl) rfl rfl (x_assign rfl rfl) ?_)
  refine g_nil ?_
  refine g_then ?_
  refine g_seq ?_
  refine g_region ?_
  refine l_of (s_val (v := .pointer (some ⟨g1, 0, none⟩)) (wt0 rfl) rfl rfl (x_fieldAddr rfl rfl fo30_0 rfl) ?_)
  refine l_of (s_val (v := .int .i64 (x.id)) (wt0 rfl) rfl rfl (x_load1 H3 0 rfl rfl Try.underlying3 rfl rfl rfl) ?_)
  refine l_of (s_val (v := .int .i64 (x.id)) (wt0 rfl) rfl rfl (x_assign rfl rfl) ?_)
  refine g_nil ?_
  refine g_then ?_
  refine g_ret ?_
  refine fin_ret [.tmp 2] [.int .i64 (x.id)] rfl ⟨rfl, trivial⟩ ?_
  exact ⟨rfl, H3.mask [false, true]⟩
theorem byID_f (D : Rv → Prop) : FunC Try.prog 26 #[] #[] (Big []) (fun x : Rv => [x.v]) (fun x => .int .i64 (Rv.id x)) D :=
  FunC.pure (by kernel_rfl) fun x _ w => byID_s x w
set_option maxRecDepth 20000 in
set_option maxHeartbeats 4000000 in
set_option maxRecDepth 20000 in
set_option maxHeartbeats 4000000 in
theorem chosen3_s (b : Nat) (w0 : World) (m : List Int) (q : Option Addr) (k d : Nat) (hk : k ≤ 9223372036854775807) (hq : Reads w0 q k d 1 (fl intL m)) (x : Rv)  (w : World) (HS : S w [Ob b (.cells #[.slice q k d] 23 (0, 0)), Old w0 no]) : Calls Try.prog 22 #[.agg #[.int .i64 (x.id), .bool x.intr, .bool x.chk, .int .i64 (x.frm), .int .i64 (x.to), .int .i64 (x.lt), .int .i64 (x.since), .bool x.snb, .bool x.now, .bool x.seed], .pointer (some ⟨b, 0, none⟩)] w fun e w' => e = .returned (.bool (decide (x.id ∈ m))) ∧ S w' ([Ob b (.cells #[.slice q k d] 23 (0, 0)), Old w0 no] ++ [Old w (fps [Ob b (.cells #[.slice q k d] 23 (0, 0)), Old w0 no])]) := by
  have H00 := HS.beginI
  have H0 : S w ([Ob b (.cells #[.slice q k d] 23 (0, 0)), Old w0 no, Old w (fps [Ob b (.cells #[.slice q k d] 23 (0, 0)), Old w0 no])]) := H00
  refine enter 8 Try.func22 rfl rfl rfl ?_
  refine g_weak [(0, .agg #[.int .i64 (x.id), .bool x.intr, .bool x.chk, .int .i64 (x.frm), .int .i64 (x.to), .int .i64 (x.lt), .int .i64 (x.since), .bool x.snb, .bool x.now, .bool x.seed]), (1, .pointer (some ⟨b, 0, none⟩))] ⟨rfl, rfl, trivial⟩ ?_
  refine g_seq ?_
  refine g_region ?_
  refine l_of (s_box H0 (wt0 rfl) rfl rfl rfl rfl ?_)
  intro g1 wq2 H3
  refine l_of (s_val (v := .bool false) (wt0 rfl) rfl rfl (x_assign rfl rfl) ?_)
  refine g_nil ?_
  refine g_then ?_
  refine g_seq ?_
  refine g_region ?_
  refine l_of (s_val (v := .slice q k d) (wt0 rfl) rfl rfl (x_load1 H3 1 rfl rfl Try.underlying23 rfl rfl rfl) ?_)
  refine l_of (s_val (v := .pointer (some ⟨g1, 0, none⟩)) (wt0 rfl) rfl rfl (x_fieldAddr rfl rfl fo30_0 rfl) ?_)
  refine l_of (s_val (v := .int .i64 (x.id)) (wt0 rfl) rfl rfl (x_load1 H3 0 rfl rfl Try.underlying3 rfl rfl rfl) ?_)
  refine l_of (s_call (wt0 rfl) (x_call' rfl rfl cl17) (cont_i m q k d x.id (by omega) _ (H3.exReads (k := 2) rfl hq (fun _ _ _ h => h))) ?_)
  rintro _ wq4 ⟨rfl, H5⟩
  replace H5 : S wq4 [Ob g1 (.cells #[.int .i64 (x.id), .bool x.intr, .bool x.chk, .int .i64 (x.frm), .int .i64 (x.to), .int .i64 (x.lt), .int .i64 (x.since), .bool x.snb, .bool x.now, .bool x.seed] 30 (0, 0)), Ob b (.cells #[.slice q k d] 23 (0, 0)), Old w0 no, Old w (fps [Ob b (.cells #[.slice q k d] 23 (0, 0)), Old w0 no])] := H3.absorb (new := []) H5
  refine b_ret rfl rfl ?_
  refine l_of (s_val (v := .bool ((decide (x.id ∈ m)))) (wt0 rfl) rfl rfl (x_assign rfl rfl) ?_)
  refine g_nil ?_
  refine g_then ?_
  refine g_ret ?_
  refine fin_ret [.tmp 3] [.bool ((decide (x.id ∈ m)))] rfl ⟨rfl, trivial⟩ ?_
  exact ⟨rfl, H5.takes [1, 2, 3] (by decide)⟩
theorem chosen3_f (b : Nat) (w0 : World) (m : List Int) (q : Option Addr) (k d : Nat) (hk : k ≤ 9223372036854775807) (hq : Reads w0 q k d 1 (fl intL m)) : FunC Try.prog 22 #[] #[.pointer (some ⟨b, 0, none⟩)] (Big [Ob b (.cells #[.slice q k d] 23 (0, 0)), Old w0 no]) (fun x : Rv => [x.v]) (fun x => .bool ((fun x : Rv => decide (x.id ∈ m)) x)) (fun _ => True) :=
  FunC.ofBig (by kernel_rfl) fun z hb w HS => chosen3_s b w0 m q k d hk hq _ w HS
set_option maxRecDepth 20000 in
set_option maxHeartbeats 4000000 in
set_option maxRecDepth 20000 in
set_option maxHeartbeats 4000000 in
theorem on4_s (a b : Nat) (oA : Nat) (fioA caoA : Array Value) (XA : Item) (qA : Rv → Bool) (D : Rv → Prop) (hA : FunC Try.prog oA fioA caoA XA (fun x : Rv => [x.v]) (fun x => .bool (qA x)) D) (oB : Nat) (fioB caoB : Array Value) (XB : Item) (qB : Rv → Bool) (hB : FunC Try.prog oB fioB caoB XB (fun x : Rv => [x.v]) (fun x => .bool (qB x)) D) (x : Rv) (hx : D x)  (w : World) (HS : S w [Ob a (.cells #[.func (.func oA) fioA caoA] 45 (0, 0)), Ob b (.cells #[.func (.func oB) fioB caoB] 45 (0, 0)), XA, XB]) : Calls Try.prog 24 #[.agg #[.int .i64 (x.id), .bool x.intr, .bool x.chk, .int .i64 (x.frm), .int .i64 (x.to), .int .i64 (x.lt), .int .i64 (x.since), .bool x.snb, .bool x.now, .bool x.seed], .pointer (some ⟨a, 0, none⟩), .pointer (some ⟨b, 0, none⟩)] w fun e w' => e = .returned (.bool (qA x && !qB x)) ∧ S w' ([Ob a (.cells #[.func (.func oA) fioA caoA] 45 (0, 0)), Ob b (.cells #[.func (.func oB) fioB caoB] 45 (0, 0)), XA, XB] ++ [Old w (fps [Ob a (.cells #[.func (.func oA) fioA caoA] 45 (0, 0)), Ob b (.cells #[.func (.func oB) fioB caoB] 45 (0, 0)), XA, XB])]) := by
  have H00 := HS.beginI
  have H0 : S w ([Ob a (.cells #[.func (.func oA) fioA caoA] 45 (0, 0)), Ob b (.cells #[.func (.func oB) fioB caoB] 45 (0, 0)), XA, XB, Old w (fps [Ob a (.cells #[.func (.func oA) fioA caoA] 45 (0, 0)), Ob b (.cells #[.func (.func oB) fioB caoB] 45 (0, 0)), XA, XB])]) := H00
  refine enter 14 Try.func24 rfl rfl rfl ?_
  refine g_weak [(0, .agg #[.int .i64 (x.id), .bool x.intr, .bool x.chk, .int .i64 (x.frm), .int .i64 (x.to), .int .i64 (x.lt), .int .i64 (x.since), .bool x.snb, .bool x.now, .bool x.seed]), (1, .pointer (some ⟨a, 0, none⟩)), (2, .pointer (some ⟨b, 0, none⟩))] ⟨rfl, rfl, rfl, trivial⟩ ?_
  refine g_seq ?_
  refine g_region ?_
  refine l_of (s_box H0 (wt0 rfl) rfl rfl rfl rfl ?_)
  intro g1 wq2 H3
  refine l_of (s_val (v := .bool false) (wt0 rfl) rfl rfl (x_assign rfl rfl) ?_)
  refine g_nil ?_
  refine g_then ?_
  refine g_seq ?_
  refine g_region ?_
  refine l_of (s_val (v := .func (.func oA) fioA caoA) (wt0 rfl) rfl rfl (x_load1 H3 1 rfl rfl Try.underlying45 rfl rfl rfl) ?_)
  refine l_of (s_val (v := .agg #[.int .i64 (x.id), .bool x.intr, .bool x.chk, .int .i64 (x.frm), .int .i64 (x.to), .int .i64 (x.lt), .int .i64 (x.since), .bool x.snb, .bool x.now, .bool x.seed]) (wt0 rfl) rfl rfl (x_loadA H3 0 rfl rfl Try.underlying30 rfl sz30 rfl rfl rfl) ?_)
  refine l_of (s_call (wt0 rfl) (x_call rfl rfl rfl hA.ok) (hA.does x (hx) _ (H3.takes [3] (by decide))) ?_)
  rintro _ wq4 ⟨rfl, H5⟩
  replace H5 : S wq4 [XA, Ob g1 (.cells #[.int .i64 (x.id), .bool x.intr, .bool x.chk, .int .i64 (x.frm), .int .i64 (x.to), .int .i64 (x.lt), .int .i64 (x.since), .bool x.snb, .bool x.now, .bool x.seed] 30 (0, 0)), Ob a (.cells #[.func (.func oA) fioA caoA] 45 (0, 0)), Ob b (.cells #[.func (.func oB) fioB caoB] 45 (0, 0)), XB, Old w (fps [Ob a (.cells #[.func (.func oA) fioA caoA] 45 (0, 0)), Ob b (.cells #[.func (.func oB) fioB caoB] 45 (0, 0)), XA, XB])] := H3.absorbI (new := [XA]) [3] H5
  refine b_ret rfl rfl ?_
  refine l_of (s_val (v := .bool (qA x)) (wt0 rfl) rfl rfl (x_move rfl rfl) ?_)
  rcases Bool.eq_false_or_eq_true (qA x) with hb6 | hb6
  · skip
    refine l_of (s_val (v := .func (.func oB) fioB caoB) (wt1 rfl rfl rfl rfl hb6) rfl rfl (x_load1 H5 3 rfl rfl Try.underlying45 rfl rfl rfl) ?_)
    refine l_of (s_val (v := .agg #[.int .i64 (x.id), .bool x.intr, .bool x.chk, .int .i64 (x.frm), .int .i64 (x.to), .int .i64 (x.lt), .int .i64 (x.since), .bool x.snb, .bool x.now, .bool x.seed]) (wt1 rfl rfl rfl rfl hb6) rfl rfl (x_loadA H5 1 rfl rfl Try.underlying30 rfl sz30 rfl rfl rfl) ?_)
    refine l_of (s_call (wt1 rfl rfl rfl rfl hb6) (x_call rfl rfl rfl hB.ok) (hB.does x (hx) _ (H5.takes [4] (by decide))) ?_)
    rintro _ wq7 ⟨rfl, H8⟩
    replace H8 : S wq7 [XB, XA, Ob g1 (.cells #[.int .i64 (x.id), .bool x.intr, .bool x.chk, .int .i64 (x.frm), .int .i64 (x.to), .int .i64 (x.lt), .int .i64 (x.since), .bool x.snb, .bool x.now, .bool x.seed] 30 (0, 0)), Ob a (.cells #[.func (.func oA) fioA caoA] 45 (0, 0)), Ob b (.cells #[.func (.func oB) fioB caoB] 45 (0, 0)), Old w (fps [Ob a (.cells #[.func (.func oA) fioA caoA] 45 (0, 0)), Ob b (.cells #[.func (.func oB) fioB caoB] 45 (0, 0)), XA, XB])] := H5.absorbI (new := [XB]) [4] H8
    refine b_ret rfl rfl ?_
    refine l_of (s_val (v := .bool (!(qB x))) (wt1 rfl rfl rfl rfl hb6) rfl rfl (x_not (b := qB x) rfl rfl) ?_)
    refine l_of (s_val (v := .bool (!(qB x))) (wt0 rfl) rfl rfl (x_pick_t rfl rfl hb6 rfl) ?_)
    refine l_of (s_val (v := .bool (!(qB x))) (wt0 rfl) rfl rfl (x_assign rfl rfl) ?_)
    refine g_nil ?_
    refine g_then ?_
    refine g_weak [(4, .bool (!(qB x)))] ⟨rfl, trivial⟩ ?_
    refine g_ret ?_
    refine fin_ret [.tmp 4] [.bool (!(qB x))] rfl ⟨rfl, trivial⟩ ?_
    exact ⟨by simp [hb6, tupled], H8.takes [3, 4, 1, 0, 5] (by decide)⟩
  · skip
    refine l_of (s_not (wn1 rfl rfl rfl rfl hb6) rfl rfl ?_)
    refine l_of (s_not (wn1 rfl rfl rfl rfl hb6) rfl rfl ?_)
    refine l_of (s_not (wn1 rfl rfl rfl rfl hb6) rfl rfl ?_)
    refine l_of (s_not (wn1 rfl rfl rfl rfl hb6) rfl rfl ?_)
    refine l_of (s_val (v := .bool false) (wt0 rfl) rfl rfl (x_pick_f rfl rfl hb6 rfl) ?_)
    refine l_of (s_val (v := .bool false) (wt0 rfl) rfl rfl (x_assign rfl rfl) ?_)
    refine g_nil ?_
    refine g_then ?_
    refine g_weak [(4, .bool false)] ⟨rfl, trivial⟩ ?_
    refine g_ret ?_
    refine fin_ret [.tmp 4] [.bool false] rfl ⟨rfl, trivial⟩ ?_
    exact ⟨by simp [hb6, tupled], H5.takes [2, 3, 0, 4, 5] (by decide)⟩
theorem on4_f (a b : Nat) (oA : Nat) (fioA caoA : Array Value) (XA : Item) (qA : Rv → Bool) (D : Rv → Prop) (hA : FunC Try.prog oA fioA caoA XA (fun x : Rv => [x.v]) (fun x => .bool (qA x)) D) (oB : Nat) (fioB caoB : Array Value) (XB : Item) (qB : Rv → Bool) (hB : FunC Try.prog oB fioB caoB XB (fun x : Rv => [x.v]) (fun x => .bool (qB x)) D) : FunC Try.prog 24 #[] #[.pointer (some ⟨a, 0, none⟩), .pointer (some ⟨b, 0, none⟩)] (Big [Ob a (.cells #[.func (.func oA) fioA caoA] 45 (0, 0)), Ob b (.cells #[.func (.func oB) fioB caoB] 45 (0, 0)), XA, XB]) (fun x : Rv => [x.v]) (fun x => .bool (qA x && !qB x)) D :=
  FunC.ofBig (by kernel_rfl) fun z hb w HS => on4_s a b oA fioA caoA XA qA D hA oB fioB caoB XB qB hB _ hb w HS
set_option maxRecDepth 20000 in
set_option maxHeartbeats 4000000 in
set_option maxRecDepth 20000 in
set_option maxHeartbeats 4000000 in
theorem off5_s (a b : Nat) (oA : Nat) (fioA caoA : Array Value) (XA : Item) (qA : Rv → Bool) (D : Rv → Prop) (hA : FunC Try.prog oA fioA caoA XA (fun x : Rv => [x.v]) (fun x => .bool (qA x)) D) (oB : Nat) (fioB caoB : Array Value) (XB : Item) (qB : Rv → Bool) (hB : FunC Try.prog oB fioB caoB XB (fun x : Rv => [x.v]) (fun x => .bool (qB x)) D) (x : Rv) (hx : D x)  (w : World) (HS : S w [Ob a (.cells #[.func (.func oA) fioA caoA] 45 (0, 0)), Ob b (.cells #[.func (.func oB) fioB caoB] 45 (0, 0)), XA, XB]) : Calls Try.prog 27 #[.agg #[.int .i64 (x.id), .bool x.intr, .bool x.chk, .int .i64 (x.frm), .int .i64 (x.to), .int .i64 (x.lt), .int .i64 (x.since), .bool x.snb, .bool x.now, .bool x.seed], .pointer (some ⟨a, 0, none⟩), .pointer (some ⟨b, 0, none⟩)] w fun e w' => e = .returned (.bool (!qA x && qB x)) ∧ S w' ([Ob a (.cells #[.func (.func oA) fioA caoA] 45 (0, 0)), Ob b (.cells #[.func (.func oB) fioB caoB] 45 (0, 0)), XA, XB] ++ [Old w (fps [Ob a (.cells #[.func (.func oA) fioA caoA] 45 (0, 0)), Ob b (.cells #[.func (.func oB) fioB caoB] 45 (0, 0)), XA, XB])]) := by
  have H00 := HS.beginI
  have H0 : S w ([Ob a (.cells #[.func (.func oA) fioA caoA] 45 (0, 0)), Ob b (.cells #[.func (.func oB) fioB caoB] 45 (0, 0)), XA, XB, Old w (fps [Ob a (.cells #[.func (.func oA) fioA caoA] 45 (0, 0)), Ob b (.cells #[.func (.func oB) fioB caoB] 45 (0, 0)), XA, XB])]) := H00
  refine enter 14 Try.func27 rfl rfl rfl ?_
  refine g_weak [(0, .agg #[.int .i64 (x.id), .bool x.intr, .bool x.chk, .int .i64 (x.frm), .int .i64 (x.to), .int .i64 (x.lt), .int .i64 (x.since), .bool x.snb, .bool x.now, .bool x.seed]), (1, .pointer (some ⟨a, 0, none⟩)), (2, .pointer (some ⟨b, 0, none⟩))] ⟨rfl, rfl, rfl, trivial⟩ ?_
  refine g_seq ?_
  refine g_region ?_
  refine l_of (s_box H0 (wt0 rfl) rfl rfl rfl rfl ?_)
  intro g1 wq2 H3
  refine l_of (s_val (v := .bool false) (wt0 rfl) rfl rfl (x_assign rfl rfl) ?_)
  refine g_nil ?_
  refine g_then ?_
  refine g_seq ?_
  refine g_region ?_
  refine l_of (s_val (v := .func (.func oA) fioA caoA) (wt0 rfl) rfl rfl (x_load1 H3 1 rfl rfl Try.underlying45 rfl rfl rfl) ?_)
  refine l_of (s_val (v := .agg #[.int .i64 (x.id), .bool x.intr, .bool x.chk, .int .i64 (x.frm), .int .i64 (x.to), .int .i64 (x.lt), .int .i64 (x.since), .bool x.snb, .bool x.now, .bool x.seed]) (wt0 rfl) rfl rfl (x_loadA H3 0 rfl rfl Try.underlying30 rfl sz30 rfl rfl rfl) ?_)
  refine l_of (s_call (wt0 rfl) (x_call rfl rfl rfl hA.ok) (hA.does x (hx) _ (H3.takes [3] (by decide))) ?_)
  rintro _ wq4 ⟨rfl, H5⟩
  replace H5 : S wq4 [XA, Ob g1 (.cells #[.int .i64 (x.id), .bool x.intr, .bool x.chk, .int .i64 (x.frm), .int .i64 (x.to), .int .i64 (x.lt), .int .i64 (x.since), .bool x.snb, .bool x.now, .bool x.seed] 30 (0, 0)), Ob a (.cells #[.func (.func oA) fioA caoA] 45 (0, 0)), Ob b (.cells #[.func (.func oB) fioB caoB] 45 (0, 0)), XB, Old w (fps [Ob a (.cells #[.func (.func oA) fioA caoA] 45 (0, 0)), Ob b (.cells #[.func (.func oB) fioB caoB] 45 (0, 0)), XA, XB])] := H3.absorbI (new := [XA]) [3] H5
  refine b_ret rfl rfl ?_
  refine l_of (s_val (v := .bool (!(qA x))) (wt0 rfl) rfl rfl (x_not (b := qA x) rfl rfl) ?_)
  refine l_of (s_val (v := .bool (!(qA x))) (wt0 rfl) rfl rfl (x_move rfl rfl) ?_)
  rcases Bool.eq_false_or_eq_true (qA x) with hb6 | hb6
  · skip
    refine l_of (s_not (wn1 rfl rfl rfl rfl (neg_of hb6)) rfl rfl ?_)
    refine l_of (s_not (wn1 rfl rfl rfl rfl (neg_of hb6)) rfl rfl ?_)
    refine l_of (s_not (wn1 rfl rfl rfl rfl (neg_of hb6)) rfl rfl ?_)
    refine l_of (s_val (v := .bool false) (wt0 rfl) rfl rfl (x_pick_f rfl rfl (neg_of hb6) rfl) ?_)
    refine l_of (s_val (v := .bool false) (wt0 rfl) rfl rfl (x_assign rfl rfl) ?_)
    refine g_nil ?_
    refine g_then ?_
    refine g_weak [(4, .bool false)] ⟨rfl, trivial⟩ ?_
    refine g_ret ?_
    refine fin_ret [.tmp 4] [.bool false] rfl ⟨rfl, trivial⟩ ?_
    exact ⟨by simp [hb6, tupled], H5.takes [2, 3, 0, 4, 5] (by decide)⟩
  · skip
    refine l_of (s_val (v := .func (.func oB) fioB caoB) (wt1 rfl rfl rfl rfl (neg_of hb6)) rfl rfl (x_load1 H5 3 rfl rfl Try.underlying45 rfl rfl rfl) ?_)
    refine l_of (s_val (v := .agg #[.int .i64 (x.id), .bool x.intr, .bool x.chk, .int .i64 (x.frm), .int .i64 (x.to), .int .i64 (x.lt), .int .i64 (x.since), .bool x.snb, .bool x.now, .bool x.seed]) (wt1 rfl rfl rfl rfl (neg_of hb6)) rfl rfl (x_loadA H5 1 rfl rfl Try.underlying30 rfl sz30 rfl rfl rfl) ?_)
    refine l_of (s_call (wt1 rfl rfl rfl rfl (neg_of hb6)) (x_call rfl rfl rfl hB.ok) (hB.does x (hx) _ (H5.takes [4] (by decide))) ?_)
    rintro _ wq7 ⟨rfl, H8⟩
    replace H8 : S wq7 [XB, XA, Ob g1 (.cells #[.int .i64 (x.id), .bool x.intr, .bool x.chk, .int .i64 (x.frm), .int .i64 (x.to), .int .i64 (x.lt), .int .i64 (x.since), .bool x.snb, .bool x.now, .bool x.seed] 30 (0, 0)), Ob a (.cells #[.func (.func oA) fioA caoA] 45 (0, 0)), Ob b (.cells #[.func (.func oB) fioB caoB] 45 (0, 0)), Old w (fps [Ob a (.cells #[.func (.func oA) fioA caoA] 45 (0, 0)), Ob b (.cells #[.func (.func oB) fioB caoB] 45 (0, 0)), XA, XB])] := H5.absorbI (new := [XB]) [4] H8
    refine b_ret rfl rfl ?_
    refine l_of (s_val (v := .bool (qB x)) (wt0 rfl) rfl rfl (x_pick_t rfl rfl (neg_of hb6) rfl) ?_)
    refine l_of (s_val (v := .bool (qB x)) (wt0 rfl) rfl rfl (x_assign rfl rfl) ?_)
    refine g_nil ?_
    refine g_then ?_
    refine g_weak [(4, .bool (qB x))] ⟨rfl, trivial⟩ ?_
    refine g_ret ?_
    refine fin_ret [.tmp 4] [.bool (qB x)] rfl ⟨rfl, trivial⟩ ?_
    exact ⟨by simp [hb6, tupled], H8.takes [3, 4, 1, 0, 5] (by decide)⟩
theorem off5_f (a b : Nat) (oA : Nat) (fioA caoA : Array Value) (XA : Item) (qA : Rv → Bool) (D : Rv → Prop) (hA : FunC Try.prog oA fioA caoA XA (fun x : Rv => [x.v]) (fun x => .bool (qA x)) D) (oB : Nat) (fioB caoB : Array Value) (XB : Item) (qB : Rv → Bool) (hB : FunC Try.prog oB fioB caoB XB (fun x : Rv => [x.v]) (fun x => .bool (qB x)) D) : FunC Try.prog 27 #[] #[.pointer (some ⟨a, 0, none⟩), .pointer (some ⟨b, 0, none⟩)] (Big [Ob a (.cells #[.func (.func oA) fioA caoA] 45 (0, 0)), Ob b (.cells #[.func (.func oB) fioB caoB] 45 (0, 0)), XA, XB]) (fun x : Rv => [x.v]) (fun x => .bool (!qA x && qB x)) D :=
  FunC.ofBig (by kernel_rfl) fun z hb w HS => off5_s a b oA fioA caoA XA qA D hA oB fioB caoB XB qB hB _ hb w HS
set_option maxRecDepth 20000 in
set_option maxHeartbeats 4000000 in
set_option maxRecDepth 20000 in
set_option maxHeartbeats 4000000 in
theorem changes_s (l : List Rv) (p : Option Addr) (n c : Nat) (hn2 : n ≤ 9223372036854775807) (m : List Int) (q : Option Addr) (k d : Nat) (hk2 : k ≤ 9223372036854775807)  (w : World) (hr : Reads w p n c 10 (fl rvL l)) (hq : Reads w q k d 1 (fl intL m)) : Calls Try.prog 6 #[.slice p n c, .slice q k d] w fun e w' => ∃ p1 c1 p2 c2, e = .returned (.tuple #[.slice p1 (onV l m).length c1, .slice p2 (offV l m).length c2, .int .i64 (chgE l m)]) ∧ S w' ([Rw 3 1 p1 (onV l m).length c1 (fl intL (onV l m)), Rw 3 1 p2 (offV l m).length c2 (fl intL (offV l m))] ++ [Old w no]) := by
  have H0 := S.old w
  have hnl := hr.lenL rvE
  have hkm := hq.lenL intE
  refine enter 61 Try.func6 rfl rfl rfl ?_
  refine g_weak [(0, .slice p n c), (1, .slice q k d)] ⟨rfl, rfl, trivial⟩ ?_
  refine g_seq ?_
  refine g_region ?_
  refine l_of (s_box H0 (wt0 rfl) rfl rfl rfl rfl ?_)
  intro g1 wq2 H3
  refine l_of (s_val (v := .slice none 0 0) (wt0 rfl) rfl rfl (x_assign rfl rfl) ?_)
  refine l_of (s_val (v := .slice none 0 0) (wt0 rfl) rfl rfl (x_assign rfl rfl) ?_)
  refine l_of (s_val (v := .int .i64 0) (wt0 rfl) rfl rfl (x_assign rfl rfl) ?_)
  refine g_nil ?_
  refine g_then ?_
  refine g_seq ?_
  refine g_seq ?_
  refine g_region ?_
  refine l_of (s_val (v := .slice p n c) (wt0 rfl) rfl rfl (x_move rfl rfl) ?_)
  refine l_of (s_call (wt0 rfl) (x_call' rfl rfl cl16) (rivals_s (⟨#[]⟩ : ByteArray) l p n c (by omega) _ (H3.exReads (k := 1) rfl hr (fun _ _ _ h => h))) ?_)
  rintro _ wq4 ⟨rfl, H5⟩
  replace H5 : S wq4 [Ob g1 (.cells #[.slice q k d] 23 (0, 0)), Old w no] := H3.absorb (new := []) H5
  refine b_ret rfl rfl ?_
  refine l_of (s_val (v := .int .i64 ((askE (⟨#[]⟩ : ByteArray) l))) (wt0 rfl) rfl rfl (x_assign rfl rfl) ?_)
  refine g_nil ?_
  refine g_then ?_
  refine g_seq ?_
  refine g_region ?_
  refine l_of (s_val (v := .int .i64 ((askE (⟨#[]⟩ : ByteArray) l))) (wt0 rfl) rfl rfl (x_move rfl rfl) ?_)
  refine l_of (s_val (v := .bool (!decide (((askE (⟨#[]⟩ : ByteArray) l) : Int) = 0))) (wt0 rfl) rfl rfl (x_bin rfl rfl rfl b_neq) ?_)
  refine g_nil ?_
  refine g_then ?_
  by_cases hb6 : ((askE (⟨#[]⟩ : ByteArray) l) : Int) = 0
  · skip
    refine g_cond_f rfl (nf hb6) ?_
    refine g_skip ?_
    refine g_then ?_
    refine g_seq ?_
    refine g_seq ?_
    refine g_region ?_
    refine l_of (s_val (v := .slice q k d) (wt0 rfl) rfl rfl (x_load1 H5 0 rfl rfl Try.underlying23 rfl rfl rfl) ?_)
    refine l_of (s_val (v := .int .i64 ((k : Int))) (wt0 rfl) rfl rfl (x_lenl rfl rfl Try.underlying23) ?_)
    refine l_of (s_val (v := .int .i64 0) (wt0 rfl) rfl rfl (x_move rfl rfl) ?_)
    refine g_nil ?_
    refine g_then ?_
    refine g_block ?_
    refine g_loop (ι := Nat) (fun i => [(0, .slice p n c), (3, .pointer (some ⟨g1, 0, none⟩)), (21, .slice q k d), (22, .int .i64 ((k : Int))), (23, .int .i64 ((i : Int)))]) (fun i wx => (i ≤ k) ∧ ((m.take i).Nodup) ∧ S wx [Ob g1 (.cells #[.slice q k d] 23 (0, 0)), Old w no]) (fun i => k - i) (0) ⟨rfl, rfl, rfl, rfl, rfl, trivial⟩ ⟨Nat.zero_le _, (by rw [List.take_zero]; exact List.nodup_nil), (H5.takes [0, 1] (by decide))⟩ ?_
    rintro i wq7 ⟨hi, hnd, H8⟩
    replace H8 : S wq7 [Ob g1 (.cells #[.slice q k d] 23 (0, 0)), Old w no] := H8
    refine g_weak [(0, .slice p n c), (3, .pointer (some ⟨g1, 0, none⟩)), (21, .slice q k d), (22, .int .i64 ((k : Int))), (23, .int .i64 ((i : Int)))] ⟨rfl, rfl, rfl, rfl, rfl, trivial⟩ ?_
    refine g_seq ?_
    refine g_region ?_
    refine l_of (s_val (v := .bool (decide (((i : Int) : Int) < (k : Int)))) (wt0 rfl) rfl rfl (x_bin rfl rfl rfl b_lss) ?_)
    refine g_nil ?_
    refine g_then ?_
    refine g_seq ?_
    by_cases hb9 : ((i : Int) : Int) < (k : Int)
    · skip
      refine g_cond_t rfl (decide_eq_true hb9) ?_
      refine g_skip ?_
      refine g_then ?_
      refine g_seq ?_
      refine g_block ?_
      refine g_seq ?_
      refine g_region ?_
      refine l_of (s_val (v := .int .i64 ((i : Int))) (wt0 rfl) rfl rfl (x_move rfl rfl) ?_)
      refine l_of (s_val (v := .pointer ((q).map fun q => q.add (i * 1))) (wt0 rfl) rfl rfl (x_idxR i (H8.exReads (k := 1) rfl hq (fun _ _ _ h => h)) rfl rfl rfl Try.underlying23 sz3 (by omega)) ?_)
      have hlq := (H8.exReads (k := 1) rfl hq (fun _ _ _ h => h)).lenL intE
      obtain ⟨x10, hx10⟩ := ex_at (l := m) (j := i) (by omega)
      clear hlq
      refine l_of (s_val (v := .int .i64 x10) (wt0 rfl) rfl rfl (x_loadR1 i (H8.exReads (k := 1) rfl hq (fun _ _ _ h => h)) (by omega) rfl rfl Try.underlying3 rfl (intE.flAt1 hx10 rfl)) ?_)
      refine l_of (s_val (v := .int .i64 ((i : Int))) (wt0 rfl) rfl rfl (x_assign rfl rfl) ?_)
      refine l_of (s_val (v := .int .i64 x10) (wt0 rfl) rfl rfl (x_assign rfl rfl) ?_)
      refine g_nil ?_
      refine g_then ?_
      refine g_seq ?_
      refine g_region ?_
      refine l_of (s_val (v := .slice q k d) (wt0 rfl) rfl rfl (x_load1 H8 0 rfl rfl Try.underlying23 rfl rfl rfl) ?_)
      refine l_of (s_val (v := .int .i64 ((i : Int))) (wt0 rfl) rfl rfl (x_move rfl rfl) ?_)
      have hnc := (H8.exReads (k := 1) rfl hq (fun _ _ _ h => h)).2.1
      refine l_of (s_val (v := .slice q i d) (wt0 rfl) rfl rfl (ex_cast (x_sliceH i rfl rfl rfl Try.underlying23 sz3 (by omega)) (by rw [cutP0])) ?_)
      refine l_of (s_val (v := .int .i64 x10) (wt0 rfl) rfl rfl (x_move rfl rfl) ?_)
      refine l_of (s_call (wt0 rfl) (x_call' rfl rfl cl17) (cont_i (m.take i) q i d x10 (by omega) _ ((H8.exReads (k := 1) rfl hq (fun _ _ _ h => h)).takeL intE i (by omega))) ?_)
      rintro _ wq11 ⟨rfl, H12⟩
      replace H12 : S wq11 [Ob g1 (.cells #[.slice q k d] 23 (0, 0)), Old w no] := H8.absorb (new := []) H12
      refine b_ret rfl rfl ?_
      refine g_nil ?_
      refine g_then ?_
      rcases Bool.eq_false_or_eq_true ((decide (x10 ∈ (m.take i)))) with hb13 | hb13
      · skip
        refine g_cond_t rfl hb13 ?_
        refine g_seq ?_
        refine g_region ?_
        refine l_of (s_val (v := .slice none 0 0) (wt0 rfl) rfl rfl (x_assign rfl rfl) ?_)
        refine l_of (s_val (v := .slice none 0 0) (wt0 rfl) rfl rfl (x_assign rfl rfl) ?_)
        refine l_of (s_val (v := .int .i64 6) (wt0 rfl) rfl rfl (x_assign rfl rfl) ?_)
        refine g_nil ?_
        refine g_then ?_
        refine g_weak [(4, .slice none 0 0), (5, .slice none 0 0), (6, .int .i64 6)] ⟨rfl, rfl, rfl, trivial⟩ ?_
        refine g_ret ?_
        refine g_in_ret ?_
        refine g_then_ret ?_
        refine g_then_ret ?_
        refine g_in_ret ?_
        refine g_then_ret ?_
        refine fin_ret [.tmp 4, .tmp 5, .tmp 6] [.slice none 0 0, .slice none 0 0, .int .i64 6] rfl ⟨rfl, rfl, rfl, trivial⟩ ?_
        have hv : chgE l m = 6 := chg_6 (by omega) (nodupI_of hx10 (of_decide_eq_true hb13))
        obtain ⟨h1, h2⟩ := chg_v hv (by decide)
        rw [h1, h2, hv]
        exact ⟨none, 0, none, 0, rfl, ((H12.takes [1] (by decide)).nilFl 3 1 intL).nilFl 3 1 intL⟩
      · skip
        refine g_cond_f rfl hb13 ?_
        refine g_skip ?_
        refine g_in ?_
        refine g_then ?_
        refine g_region ?_
        refine l_of (s_val (v := .int .i64 (((i + 1 : Nat) : Int))) (wt0 rfl) rfl rfl (x_bin rfl rfl rfl (b_add (by rw [w64 (by omega)]; omega))) ?_)
        refine l_of (s_val (v := .int .i64 (((i + 1 : Nat) : Int))) (wt0 rfl) rfl rfl (x_move rfl rfl) ?_)
        refine g_nil ?_
        refine g_then ?_
        refine g_round (i := (i)) ((i + 1)) ?_ ?_ ?_
        · exact ⟨rfl, rfl, rfl, rfl, rfl, trivial⟩
        · exact ⟨by omega, ((nodupI_nxt hx10).2 ⟨hnd, of_decide_eq_false hb13⟩), (H12.takes [0, 1] (by decide))⟩
        · (try dsimp only); omega
    · skip
      refine g_cond_f rfl (decide_eq_false hb9) ?_
      refine g_exit ?_
      refine g_then_exit ?_
      refine g_then_exit ?_
      refine g_in_hit ?_
      refine g_then ?_
      refine g_seq ?_
      refine g_seq ?_
      refine g_region ?_
      refine l_of (s_val (v := .slice q k d) (wt0 rfl) rfl rfl (x_load1 H8 0 rfl rfl Try.underlying23 rfl rfl rfl) ?_)
      have H14 : S wq7 [Big [], Ob g1 (.cells #[.slice q k d] 23 (0, 0)), Old w no] := H8.addNil
      refine l_of (s_call (wt0 rfl) (x_call' rfl rfl cl18) (contF_i m q k d hk2 (fun x : Int => decide (x < 0)) 19 #[] #[] (Big []) (fun _ => True) neg1_f (fun _ _ => trivial) _ (H14.takes [0] (by decide)) (H14.exReads (k := 2) rfl hq (fun _ _ _ h => h)) (H14.apartOld (i := 2) (k := 0) rfl rfl (by decide) hq (by decide) (fun _ _ _ h => h))) ?_)
      rintro _ wq15 ⟨rfl, H16⟩
      replace H16 : S wq15 [(Big []), Ob g1 (.cells #[.slice q k d] 23 (0, 0)), Old w no] := H14.absorbI (new := [(Big [])]) [0] H16
      refine b_ret rfl rfl ?_
      refine g_nil ?_
      refine g_then ?_
      rcases Bool.eq_false_or_eq_true ((m.any (fun x : Int => decide (x < 0)))) with hb17 | hb17
      · skip
        refine g_cond_t rfl hb17 ?_
        refine g_seq ?_
        refine g_region ?_
        refine l_of (s_val (v := .slice none 0 0) (wt0 rfl) rfl rfl (x_assign rfl rfl) ?_)
        refine l_of (s_val (v := .slice none 0 0) (wt0 rfl) rfl rfl (x_assign rfl rfl) ?_)
        refine l_of (s_val (v := .int .i64 7) (wt0 rfl) rfl rfl (x_assign rfl rfl) ?_)
        refine g_nil ?_
        refine g_then ?_
        refine g_ret ?_
        refine g_then_ret ?_
        refine fin_ret [.tmp 4, .tmp 5, .tmp 6] [.slice none 0 0, .slice none 0 0, .int .i64 7] rfl ⟨rfl, rfl, rfl, trivial⟩ ?_
        rw [List.take_of_length_le (by omega)] at hnd
        have hv7 : ∃ n ∈ m, n < 0 := by obtain ⟨x, h1, h2⟩ := List.any_eq_true.1 hb17; exact ⟨x, h1, of_decide_eq_true h2⟩
        have hv : chgE l m = 7 := chg_7 (by omega) hnd hv7
        obtain ⟨h1, h2⟩ := chg_v hv (by decide)
        rw [h1, h2, hv]
        exact ⟨none, 0, none, 0, rfl, ((H16.takes [2] (by decide)).nilFl 3 1 intL).nilFl 3 1 intL⟩
      · skip
        refine g_cond_f rfl hb17 ?_
        refine g_skip ?_
        refine g_then ?_
        refine g_seq ?_
        refine g_seq ?_
        refine g_region ?_
        refine l_of (s_val (v := .slice q k d) (wt0 rfl) rfl rfl (x_load1 H16 1 rfl rfl Try.underlying23 rfl rfl rfl) ?_)
        refine l_of (s_val (v := .int .i64 ((k : Int))) (wt0 rfl) rfl rfl (x_lenl rfl rfl Try.underlying23) ?_)
        refine l_of (s_val (v := .int .i64 0) (wt0 rfl) rfl rfl (x_move rfl rfl) ?_)
        refine g_nil ?_
        refine g_then ?_
        refine g_block ?_
        refine g_loop (ι := Nat) (fun j => [(0, .slice p n c), (3, .pointer (some ⟨g1, 0, none⟩)), (36, .slice q k d), (37, .int .i64 ((k : Int))), (38, .int .i64 ((j : Int)))]) (fun j wx => (j ≤ k) ∧ (∀ y ∈ m.take j, y ∈ l.map Rv.id) ∧ S wx [Ob g1 (.cells #[.slice q k d] 23 (0, 0)), Old w no]) (fun j => k - j) (0) ⟨rfl, rfl, rfl, rfl, rfl, trivial⟩ ⟨Nat.zero_le _, (fun y hy => by simp at hy), (H16.takes [1, 2] (by decide))⟩ ?_
        rintro j wq18 ⟨hj, hin, H19⟩
        replace H19 : S wq18 [Ob g1 (.cells #[.slice q k d] 23 (0, 0)), Old w no] := H19
        refine g_weak [(0, .slice p n c), (3, .pointer (some ⟨g1, 0, none⟩)), (36, .slice q k d), (37, .int .i64 ((k : Int))), (38, .int .i64 ((j : Int)))] ⟨rfl, rfl, rfl, rfl, rfl, trivial⟩ ?_
        refine g_seq ?_
        refine g_region ?_
        refine l_of (s_val (v := .bool (decide (((j : Int) : Int) < (k : Int)))) (wt0 rfl) rfl rfl (x_bin rfl rfl rfl b_lss) ?_)
        refine g_nil ?_
        refine g_then ?_
        refine g_seq ?_
        by_cases hb20 : ((j : Int) : Int) < (k : Int)
        · skip
          refine g_cond_t rfl (decide_eq_true hb20) ?_
          refine g_skip ?_
          refine g_then ?_
          refine g_seq ?_
          refine g_block ?_
          refine g_seq ?_
          refine g_region ?_
          refine l_of (s_val (v := .pointer ((q).map fun q => q.add (j * 1))) (wt0 rfl) rfl rfl (x_idxR j (H19.exReads (k := 1) rfl hq (fun _ _ _ h => h)) rfl rfl rfl Try.underlying23 sz3 (by omega)) ?_)
          have hlq := (H19.exReads (k := 1) rfl hq (fun _ _ _ h => h)).lenL intE
          obtain ⟨x21, hx21⟩ := ex_at (l := m) (j := j) (by omega)
          clear hlq
          refine l_of (s_val (v := .int .i64 x21) (wt0 rfl) rfl rfl (x_loadR1 j (H19.exReads (k := 1) rfl hq (fun _ _ _ h => h)) (by omega) rfl rfl Try.underlying3 rfl (intE.flAt1 hx21 rfl)) ?_)
          refine l_of (s_val (v := .int .i64 x21) (wt0 rfl) rfl rfl (x_assign rfl rfl) ?_)
          refine g_nil ?_
          refine g_then ?_
          refine g_seq ?_
          refine g_region ?_
          refine l_of (s_val (v := .slice p n c) (wt0 rfl) rfl rfl (x_move rfl rfl) ?_)
          refine l_of (s_val (v := .int .i64 x21) (wt0 rfl) rfl rfl (x_move rfl rfl) ?_)
          refine l_of (s_val (v := .agg #[.int .i64 x21, .bool false, .bool false, .int .i64 0, .int .i64 0, .int .i64 0, .int .i64 0, .bool false, .bool false, .bool false]) (wt0 rfl) rfl rfl (x_build (vs := [.int .i64 x21]) rfl rfl (cells := #[.int .i64 x21, .bool false, .bool false, .int .i64 0, .int .i64 0, .int .i64 0, .int .i64 0, .bool false, .bool false, .bool false]) (by kernel_rfl)) ?_)
          refine l_of (s_call (wt0 rfl) (x_call' rfl rfl cl20) (has_s l p n c (by omega) (⟨x21, false, false, 0, 0, 0, 0, false, false, false⟩ : Rv) _ (H19.exReads (k := 1) rfl hr (fun _ _ _ h => h))) ?_)
          rintro _ wq22 ⟨rfl, H23⟩
          replace H23 : S wq22 [Ob g1 (.cells #[.slice q k d] 23 (0, 0)), Old w no] := H19.absorb (new := []) H23
          refine b_ret rfl rfl ?_
          refine l_of (s_val (v := .bool (!((decide ((⟨x21, false, false, 0, 0, 0, 0, false, false, false⟩ : Rv).id ∈ l.map Rv.id))))) (wt0 rfl) rfl rfl (x_not (b := (decide ((⟨x21, false, false, 0, 0, 0, 0, false, false, false⟩ : Rv).id ∈ l.map Rv.id))) rfl rfl) ?_)
          refine g_nil ?_
          refine g_then ?_
          rcases Bool.eq_false_or_eq_true ((decide ((⟨x21, false, false, 0, 0, 0, 0, false, false, false⟩ : Rv).id ∈ l.map Rv.id))) with hb24 | hb24
          · skip
            refine g_cond_f rfl (neg_of hb24) ?_
            refine g_skip ?_
            refine g_in ?_
            refine g_then ?_
            refine g_region ?_
            refine l_of (s_val (v := .int .i64 (((j + 1 : Nat) : Int))) (wt0 rfl) rfl rfl (x_bin rfl rfl rfl (b_add (by rw [w64 (by omega)]; omega))) ?_)
            refine l_of (s_val (v := .int .i64 (((j + 1 : Nat) : Int))) (wt0 rfl) rfl rfl (x_move rfl rfl) ?_)
            refine g_nil ?_
            refine g_then ?_
            refine g_round (i := (j)) ((j + 1)) ?_ ?_ ?_
            · exact ⟨rfl, rfl, rfl, rfl, rfl, trivial⟩
            · exact ⟨by omega, (no_takeP hin hx21 (by simpa using hb24)), (H23.takes [0, 1] (by decide))⟩
            · (try dsimp only); omega
          · skip
            refine g_cond_t rfl (neg_of hb24) ?_
            refine g_seq ?_
            refine g_region ?_
            refine l_of (s_val (v := .slice none 0 0) (wt0 rfl) rfl rfl (x_assign rfl rfl) ?_)
            refine l_of (s_val (v := .slice none 0 0) (wt0 rfl) rfl rfl (x_assign rfl rfl) ?_)
            refine l_of (s_val (v := .int .i64 5) (wt0 rfl) rfl rfl (x_assign rfl rfl) ?_)
            refine g_nil ?_
            refine g_then ?_
            refine g_weak [(4, .slice none 0 0), (5, .slice none 0 0), (6, .int .i64 5)] ⟨rfl, rfl, rfl, trivial⟩ ?_
            refine g_ret ?_
            refine g_in_ret ?_
            refine g_then_ret ?_
            refine g_then_ret ?_
            refine g_in_ret ?_
            refine g_then_ret ?_
            refine fin_ret [.tmp 4, .tmp 5, .tmp 6] [.slice none 0 0, .slice none 0 0, .int .i64 5] rfl ⟨rfl, rfl, rfl, trivial⟩ ?_
            have hng : ∀ n ∈ m, ¬ n < 0 := fun x hx hlt => absurd (List.any_eq_true.2 ⟨x, hx, decide_eq_true hlt⟩) (by rw [hb17]; decide)
            rw [List.take_of_length_le (by omega)] at hnd
            have hno : ¬ x21 ∈ l.map Rv.id := by simpa using hb24
            have hv : chgE l m = 5 := chg_5 (by omega) hnd hng ⟨_, at_mem hx21, hno⟩
            obtain ⟨h1, h2⟩ := chg_v hv (by decide)
            rw [h1, h2, hv]
            exact ⟨none, 0, none, 0, rfl, ((H23.takes [1] (by decide)).nilFl 3 1 intL).nilFl 3 1 intL⟩
        · skip
          refine g_cond_f rfl (decide_eq_false hb20) ?_
          refine g_exit ?_
          refine g_then_exit ?_
          refine g_then_exit ?_
          refine g_in_hit ?_
          refine g_then ?_
          refine g_seq ?_
          refine g_region ?_
          refine l_of (s_alloc H19 (wt0 rfl) rfl rfl rfl ze45 ?_)
          intro g25 wq26 H27
          refine l_of (s_store H27 0 (wt0 rfl) rfl rfl rfl rfl rfl sz45 rfl rfl (cs' := #[.func (.func 21) #[] #[]]) rfl ?_)
          intro wq28 H29
          refine g_nil ?_
          refine g_then ?_
          refine g_seq ?_
          refine g_region ?_
          refine l_of (s_val (v := .func (.func 22) #[] #[.pointer (some ⟨g1, 0, none⟩)]) (wt0 rfl) rfl rfl (x_makeFunc rfl rfl rfl) ?_)
          refine l_of (s_alloc H29 (wt0 rfl) rfl rfl rfl ze45 ?_)
          intro g30 wq31 H32
          refine l_of (s_store H32 0 (wt0 rfl) rfl rfl rfl rfl rfl sz45 rfl rfl (cs' := #[.func (.func 22) #[] #[.pointer (some ⟨g1, 0, none⟩)]]) rfl ?_)
          intro wq33 H34
          refine g_nil ?_
          refine g_then ?_
          refine g_seq ?_
          refine g_region ?_
          refine l_of (s_val (v := .slice p n c) (wt0 rfl) rfl rfl (x_move rfl rfl) ?_)
          refine l_of (s_val (v := .func (.func 24) #[] #[.pointer (some ⟨g30, 0, none⟩), .pointer (some ⟨g25, 0, none⟩)]) (wt0 rfl) rfl rfl (x_makeFunc rfl rfl rfl) ?_)
          refine l_of (s_call (wt0 rfl) (x_call' rfl rfl cl25) (less_s 26 #[] #[] _) ?_)
          rintro _ wq36 ⟨bl35, rfl, H37⟩
          replace H37 : S wq36 [Ob bl35 (.cells #[.func (.func 26) #[] #[]] 50 (0, 0)), Ob g30 (.cells #[.func (.func 22) #[] #[.pointer (some ⟨g1, 0, none⟩)]] 45 (0, 0)), Ob g25 (.cells #[.func (.func 21) #[] #[]] 45 (0, 0)), Ob g1 (.cells #[.slice q k d] 23 (0, 0)), Old w no] := H34.absorb (new := [Ob bl35 (.cells #[.func (.func 26) #[] #[]] 50 (0, 0))]) H37
          refine b_ret rfl rfl ?_
          have H38 : S wq36 [(Big []), Ob bl35 (.cells #[.func (.func 26) #[] #[]] 50 (0, 0)), Ob g30 (.cells #[.func (.func 22) #[] #[.pointer (some ⟨g1, 0, none⟩)]] 45 (0, 0)), Ob g25 (.cells #[.func (.func 21) #[] #[]] 45 (0, 0)), Ob g1 (.cells #[.slice q k d] 23 (0, 0)), Old w no] := H37.addNil
          have H39 : S wq36 [(Big [Ob g1 (.cells #[.slice q k d] 23 (0, 0)), Old w no]), (Big []), Ob bl35 (.cells #[.func (.func 26) #[] #[]] 50 (0, 0)), Ob g30 (.cells #[.func (.func 22) #[] #[.pointer (some ⟨g1, 0, none⟩)]] 45 (0, 0)), Ob g25 (.cells #[.func (.func 21) #[] #[]] 45 (0, 0))] := S.big (L := [Ob g1 (.cells #[.slice q k d] 23 (0, 0)), Old w no]) (H38.takes [4, 5, 0, 1, 2, 3] (by decide))
          have H40 : S wq36 [(Big [Ob g30 (.cells #[.func (.func 22) #[] #[.pointer (some ⟨g1, 0, none⟩)]] 45 (0, 0)), Ob g25 (.cells #[.func (.func 21) #[] #[]] 45 (0, 0)), (Big [Ob g1 (.cells #[.slice q k d] 23 (0, 0)), Old w no]), (Big [])]), Ob bl35 (.cells #[.func (.func 26) #[] #[]] 50 (0, 0))] := S.big (L := [Ob g30 (.cells #[.func (.func 22) #[] #[.pointer (some ⟨g1, 0, none⟩)]] 45 (0, 0)), Ob g25 (.cells #[.func (.func 21) #[] #[]] 45 (0, 0)), (Big [Ob g1 (.cells #[.slice q k d] 23 (0, 0)), Old w no]), (Big [])]) (H39.takes [3, 4, 0, 1, 2] (by decide))
          have H41 : S wq36 [(Big []), (Big [Ob g30 (.cells #[.func (.func 22) #[] #[.pointer (some ⟨g1, 0, none⟩)]] 45 (0, 0)), Ob g25 (.cells #[.func (.func 21) #[] #[]] 45 (0, 0)), (Big [Ob g1 (.cells #[.slice q k d] 23 (0, 0)), Old w no]), (Big [])]), Ob bl35 (.cells #[.func (.func 26) #[] #[]] 50 (0, 0))] := H40.addNil
          have H42 : S wq36 [(Big [Ob bl35 (.cells #[.func (.func 26) #[] #[]] 50 (0, 0)), (Big [])]), (Big [Ob g30 (.cells #[.func (.func 22) #[] #[.pointer (some ⟨g1, 0, none⟩)]] 45 (0, 0)), Ob g25 (.cells #[.func (.func 21) #[] #[]] 45 (0, 0)), (Big [Ob g1 (.cells #[.slice q k d] 23 (0, 0)), Old w no]), (Big [])])] := S.big (L := [Ob bl35 (.cells #[.func (.func 26) #[] #[]] 50 (0, 0)), (Big [])]) (H41.takes [2, 0, 1] (by decide))
          have hask : askE (ByteArray.mk #[]) l = 0 := by omega
          have hn200 := (askE_ok hask).1
          refine l_of (s_call (wt0 rfl) (x_call' rfl rfl cl23) (which_s l p n c (by omega) 24 #[] #[.pointer (some ⟨g30, 0, none⟩), .pointer (some ⟨g25, 0, none⟩)] (Big [Ob g30 (.cells #[.func (.func 22) #[] #[.pointer (some ⟨g1, 0, none⟩)]] 45 (0, 0)), Ob g25 (.cells #[.func (.func 21) #[] #[]] 45 (0, 0)), (Big [Ob g1 (.cells #[.slice q k d] 23 (0, 0)), Old w no]), (Big [])]) (fun r : Rv => decide (r.id ∈ m) && !r.now) (fun _ => True) (on4_f g30 g25 22 #[] #[.pointer (some ⟨g1, 0, none⟩)] (Big [Ob g1 (.cells #[.slice q k d] 23 (0, 0)), Old w no]) (fun x : Rv => decide (x.id ∈ m)) (fun _ => True) (chosen3_f g1 w m q k d hk2 hq) 21 #[] #[] (Big []) (fun x : Rv => x.now) now2_f) 64 #[] #[.pointer (some ⟨bl35, 0, none⟩)] (Big [Ob bl35 (.cells #[.func (.func 26) #[] #[]] 50 (0, 0)), (Big [])]) (fun x y => x.id - y.id) (fun x => 0 ≤ x.id ∧ x.id ≤ 1000000000) (less1_f bl35 26 #[] #[] (Big []) Rv.id (fun x => 0 ≤ x.id ∧ x.id ≤ 1000000000) (byID_f _) (fun x y h1 h2 => by (try dsimp only at h1 h2); omega)) (fun _ _ => trivial) (fun x hx => validR_ids ((askE_ok hask).2.1 x hx)) _ (H42.takes [1, 0] (by decide)) (fun w9 h9 => (S.unbig ((S.unbig h9).takes [2] (by decide))).exReads (k := 1) rfl hr (fun _ _ _ h => h))) ?_)
          rintro _ wq45 ⟨pr43, cr44, rfl, H46⟩
          replace H46 : S wq45 [Rw 30 10 pr43 ((srt Rv.zero (fun x y => x.id - y.id) (l.filter (fun r : Rv => decide (r.id ∈ m) && !r.now))).length) cr44 (fl rvL (srt Rv.zero (fun x y => x.id - y.id) (l.filter (fun r : Rv => decide (r.id ∈ m) && !r.now)))), (Big [Ob g30 (.cells #[.func (.func 22) #[] #[.pointer (some ⟨g1, 0, none⟩)]] 45 (0, 0)), Ob g25 (.cells #[.func (.func 21) #[] #[]] 45 (0, 0)), (Big [Ob g1 (.cells #[.slice q k d] 23 (0, 0)), Old w no]), (Big [])]), (Big [Ob bl35 (.cells #[.func (.func 26) #[] #[]] 50 (0, 0)), (Big [])])] := H42.absorbI (new := [Rw 30 10 pr43 ((srt Rv.zero (fun x y => x.id - y.id) (l.filter (fun r : Rv => decide (r.id ∈ m) && !r.now))).length) cr44 (fl rvL (srt Rv.zero (fun x y => x.id - y.id) (l.filter (fun r : Rv => decide (r.id ∈ m) && !r.now)))), (Big [Ob g30 (.cells #[.func (.func 22) #[] #[.pointer (some ⟨g1, 0, none⟩)]] 45 (0, 0)), Ob g25 (.cells #[.func (.func 21) #[] #[]] 45 (0, 0)), (Big [Ob g1 (.cells #[.slice q k d] 23 (0, 0)), Old w no]), (Big [])]), (Big [Ob bl35 (.cells #[.func (.func 26) #[] #[]] 50 (0, 0)), (Big [])])]) [1, 0] H46
          refine b_ret rfl rfl ?_
          refine l_of (s_val (v := .slice pr43 ((srt Rv.zero (fun x y => x.id - y.id) (l.filter (fun r : Rv => decide (r.id ∈ m) && !r.now))).length) cr44) (wt0 rfl) rfl rfl (x_assign rfl rfl) ?_)
          refine g_nil ?_
          refine g_then ?_
          refine g_seq ?_
          refine g_region ?_
          refine l_of (s_val (v := .slice p n c) (wt0 rfl) rfl rfl (x_move rfl rfl) ?_)
          refine l_of (s_val (v := .func (.func 27) #[] #[.pointer (some ⟨g30, 0, none⟩), .pointer (some ⟨g25, 0, none⟩)]) (wt0 rfl) rfl rfl (x_makeFunc rfl rfl rfl) ?_)
          refine l_of (s_call (wt0 rfl) (x_call' rfl rfl cl25) (less_s 26 #[] #[] _) ?_)
          rintro _ wq48 ⟨bl47, rfl, H49⟩
          replace H49 : S wq48 [Ob bl47 (.cells #[.func (.func 26) #[] #[]] 50 (0, 0)), Rw 30 10 pr43 ((srt Rv.zero (fun x y => x.id - y.id) (l.filter (fun r : Rv => decide (r.id ∈ m) && !r.now))).length) cr44 (fl rvL (srt Rv.zero (fun x y => x.id - y.id) (l.filter (fun r : Rv => decide (r.id ∈ m) && !r.now)))), (Big [Ob g30 (.cells #[.func (.func 22) #[] #[.pointer (some ⟨g1, 0, none⟩)]] 45 (0, 0)), Ob g25 (.cells #[.func (.func 21) #[] #[]] 45 (0, 0)), (Big [Ob g1 (.cells #[.slice q k d] 23 (0, 0)), Old w no]), (Big [])]), (Big [Ob bl35 (.cells #[.func (.func 26) #[] #[]] 50 (0, 0)), (Big [])])] := H46.absorb (new := [Ob bl47 (.cells #[.func (.func 26) #[] #[]] 50 (0, 0))]) H49
          refine b_ret rfl rfl ?_
          have H50 : S wq48 [(Big []), Ob bl47 (.cells #[.func (.func 26) #[] #[]] 50 (0, 0)), Rw 30 10 pr43 ((srt Rv.zero (fun x y => x.id - y.id) (l.filter (fun r : Rv => decide (r.id ∈ m) && !r.now))).length) cr44 (fl rvL (srt Rv.zero (fun x y => x.id - y.id) (l.filter (fun r : Rv => decide (r.id ∈ m) && !r.now)))), (Big [Ob g30 (.cells #[.func (.func 22) #[] #[.pointer (some ⟨g1, 0, none⟩)]] 45 (0, 0)), Ob g25 (.cells #[.func (.func 21) #[] #[]] 45 (0, 0)), (Big [Ob g1 (.cells #[.slice q k d] 23 (0, 0)), Old w no]), (Big [])]), (Big [Ob bl35 (.cells #[.func (.func 26) #[] #[]] 50 (0, 0)), (Big [])])] := H49.addNil
          have H51 : S wq48 [(Big [Ob bl47 (.cells #[.func (.func 26) #[] #[]] 50 (0, 0)), (Big [])]), Rw 30 10 pr43 ((srt Rv.zero (fun x y => x.id - y.id) (l.filter (fun r : Rv => decide (r.id ∈ m) && !r.now))).length) cr44 (fl rvL (srt Rv.zero (fun x y => x.id - y.id) (l.filter (fun r : Rv => decide (r.id ∈ m) && !r.now)))), (Big [Ob g30 (.cells #[.func (.func 22) #[] #[.pointer (some ⟨g1, 0, none⟩)]] 45 (0, 0)), Ob g25 (.cells #[.func (.func 21) #[] #[]] 45 (0, 0)), (Big [Ob g1 (.cells #[.slice q k d] 23 (0, 0)), Old w no]), (Big [])]), (Big [Ob bl35 (.cells #[.func (.func 26) #[] #[]] 50 (0, 0)), (Big [])])] := S.big (L := [Ob bl47 (.cells #[.func (.func 26) #[] #[]] 50 (0, 0)), (Big [])]) (H50.takes [1, 0, 2, 3, 4] (by decide))
          have hask : askE (ByteArray.mk #[]) l = 0 := by omega
          have hn200 := (askE_ok hask).1
          refine l_of (s_call (wt0 rfl) (x_call' rfl rfl cl23) (which_s l p n c (by omega) 27 #[] #[.pointer (some ⟨g30, 0, none⟩), .pointer (some ⟨g25, 0, none⟩)] (Big [Ob g30 (.cells #[.func (.func 22) #[] #[.pointer (some ⟨g1, 0, none⟩)]] 45 (0, 0)), Ob g25 (.cells #[.func (.func 21) #[] #[]] 45 (0, 0)), (Big [Ob g1 (.cells #[.slice q k d] 23 (0, 0)), Old w no]), (Big [])]) (fun r : Rv => !decide (r.id ∈ m) && r.now) (fun _ => True) (off5_f g30 g25 22 #[] #[.pointer (some ⟨g1, 0, none⟩)] (Big [Ob g1 (.cells #[.slice q k d] 23 (0, 0)), Old w no]) (fun x : Rv => decide (x.id ∈ m)) (fun _ => True) (chosen3_f g1 w m q k d hk2 hq) 21 #[] #[] (Big []) (fun x : Rv => x.now) now2_f) 64 #[] #[.pointer (some ⟨bl47, 0, none⟩)] (Big [Ob bl47 (.cells #[.func (.func 26) #[] #[]] 50 (0, 0)), (Big [])]) (fun x y => x.id - y.id) (fun x => 0 ≤ x.id ∧ x.id ≤ 1000000000) (less1_f bl47 26 #[] #[] (Big []) Rv.id (fun x => 0 ≤ x.id ∧ x.id ≤ 1000000000) (byID_f _) (fun x y h1 h2 => by (try dsimp only at h1 h2); omega)) (fun _ _ => trivial) (fun x hx => validR_ids ((askE_ok hask).2.1 x hx)) _ (H51.takes [2, 0] (by decide)) (fun w9 h9 => (S.unbig ((S.unbig h9).takes [2] (by decide))).exReads (k := 1) rfl hr (fun _ _ _ h => h))) ?_)
          rintro _ wq54 ⟨pr52, cr53, rfl, H55⟩
          replace H55 : S wq54 [Rw 30 10 pr52 ((srt Rv.zero (fun x y => x.id - y.id) (l.filter (fun r : Rv => !decide (r.id ∈ m) && r.now))).length) cr53 (fl rvL (srt Rv.zero (fun x y => x.id - y.id) (l.filter (fun r : Rv => !decide (r.id ∈ m) && r.now)))), (Big [Ob g30 (.cells #[.func (.func 22) #[] #[.pointer (some ⟨g1, 0, none⟩)]] 45 (0, 0)), Ob g25 (.cells #[.func (.func 21) #[] #[]] 45 (0, 0)), (Big [Ob g1 (.cells #[.slice q k d] 23 (0, 0)), Old w no]), (Big [])]), (Big [Ob bl47 (.cells #[.func (.func 26) #[] #[]] 50 (0, 0)), (Big [])]), Rw 30 10 pr43 ((srt Rv.zero (fun x y => x.id - y.id) (l.filter (fun r : Rv => decide (r.id ∈ m) && !r.now))).length) cr44 (fl rvL (srt Rv.zero (fun x y => x.id - y.id) (l.filter (fun r : Rv => decide (r.id ∈ m) && !r.now)))), (Big [Ob bl35 (.cells #[.func (.func 26) #[] #[]] 50 (0, 0)), (Big [])])] := H51.absorbI (new := [Rw 30 10 pr52 ((srt Rv.zero (fun x y => x.id - y.id) (l.filter (fun r : Rv => !decide (r.id ∈ m) && r.now))).length) cr53 (fl rvL (srt Rv.zero (fun x y => x.id - y.id) (l.filter (fun r : Rv => !decide (r.id ∈ m) && r.now)))), (Big [Ob g30 (.cells #[.func (.func 22) #[] #[.pointer (some ⟨g1, 0, none⟩)]] 45 (0, 0)), Ob g25 (.cells #[.func (.func 21) #[] #[]] 45 (0, 0)), (Big [Ob g1 (.cells #[.slice q k d] 23 (0, 0)), Old w no]), (Big [])]), (Big [Ob bl47 (.cells #[.func (.func 26) #[] #[]] 50 (0, 0)), (Big [])])]) [2, 0] H55
          refine b_ret rfl rfl ?_
          refine l_of (s_val (v := .slice pr52 ((srt Rv.zero (fun x y => x.id - y.id) (l.filter (fun r : Rv => !decide (r.id ∈ m) && r.now))).length) cr53) (wt0 rfl) rfl rfl (x_assign rfl rfl) ?_)
          refine g_nil ?_
          refine g_then ?_
          refine g_weak [(14, .slice pr43 ((srt Rv.zero (fun x y => x.id - y.id) (l.filter (fun r : Rv => decide (r.id ∈ m) && !r.now))).length) cr44), (15, .slice pr52 ((srt Rv.zero (fun x y => x.id - y.id) (l.filter (fun r : Rv => !decide (r.id ∈ m) && r.now))).length) cr53)] ⟨rfl, rfl, trivial⟩ ?_
          refine g_seq ?_
          refine g_region ?_
          refine l_of (s_val (v := .slice pr43 ((srt Rv.zero (fun x y => x.id - y.id) (l.filter (fun r : Rv => decide (r.id ∈ m) && !r.now))).length) cr44) (wt0 rfl) rfl rfl (x_move rfl rfl) ?_)
          refine l_of (s_call (wt0 rfl) (x_call' rfl rfl cl28) (ids_s (srt Rv.zero (fun x y => x.id - y.id) (l.filter (fun r : Rv => decide (r.id ∈ m) && !r.now))) pr43 ((srt Rv.zero (fun x y => x.id - y.id) (l.filter (fun r : Rv => decide (r.id ∈ m) && !r.now))).length) cr44 (by have := srt_len Rv.zero (fun x y => x.id - y.id) (l.filter (fun r : Rv => decide (r.id ∈ m) && !r.now)); have := List.length_filter_le (fun r : Rv => decide (r.id ∈ m) && !r.now) l; have := srt_len Rv.zero (fun x y => x.id - y.id) (l.filter (fun r : Rv => !decide (r.id ∈ m) && r.now)); have := List.length_filter_le (fun r : Rv => !decide (r.id ∈ m) && r.now) l; omega) _ (H55.rwReads (k := 3) rfl)) ?_)
          rintro _ wq58 ⟨p56, c57, rfl, H59⟩
          replace H59 : S wq58 [Rw 3 1 p56 ((sortI ((srt Rv.zero (fun x y => x.id - y.id) (l.filter (fun r : Rv => decide (r.id ∈ m) && !r.now))).map Rv.id)).length) c57 (fl intL (sortI ((srt Rv.zero (fun x y => x.id - y.id) (l.filter (fun r : Rv => decide (r.id ∈ m) && !r.now))).map Rv.id))), Rw 30 10 pr52 ((srt Rv.zero (fun x y => x.id - y.id) (l.filter (fun r : Rv => !decide (r.id ∈ m) && r.now))).length) cr53 (fl rvL (srt Rv.zero (fun x y => x.id - y.id) (l.filter (fun r : Rv => !decide (r.id ∈ m) && r.now)))), (Big [Ob g30 (.cells #[.func (.func 22) #[] #[.pointer (some ⟨g1, 0, none⟩)]] 45 (0, 0)), Ob g25 (.cells #[.func (.func 21) #[] #[]] 45 (0, 0)), (Big [Ob g1 (.cells #[.slice q k d] 23 (0, 0)), Old w no]), (Big [])]), (Big [Ob bl47 (.cells #[.func (.func 26) #[] #[]] 50 (0, 0)), (Big [])]), Rw 30 10 pr43 ((srt Rv.zero (fun x y => x.id - y.id) (l.filter (fun r : Rv => decide (r.id ∈ m) && !r.now))).length) cr44 (fl rvL (srt Rv.zero (fun x y => x.id - y.id) (l.filter (fun r : Rv => decide (r.id ∈ m) && !r.now)))), (Big [Ob bl35 (.cells #[.func (.func 26) #[] #[]] 50 (0, 0)), (Big [])])] := H55.absorb (new := [Rw 3 1 p56 ((sortI ((srt Rv.zero (fun x y => x.id - y.id) (l.filter (fun r : Rv => decide (r.id ∈ m) && !r.now))).map Rv.id)).length) c57 (fl intL (sortI ((srt Rv.zero (fun x y => x.id - y.id) (l.filter (fun r : Rv => decide (r.id ∈ m) && !r.now))).map Rv.id)))]) H59
          refine b_ret rfl rfl ?_
          refine l_of (s_val (v := .slice pr52 ((srt Rv.zero (fun x y => x.id - y.id) (l.filter (fun r : Rv => !decide (r.id ∈ m) && r.now))).length) cr53) (wt0 rfl) rfl rfl (x_move rfl rfl) ?_)
          refine l_of (s_call (wt0 rfl) (x_call' rfl rfl cl28) (ids_s (srt Rv.zero (fun x y => x.id - y.id) (l.filter (fun r : Rv => !decide (r.id ∈ m) && r.now))) pr52 ((srt Rv.zero (fun x y => x.id - y.id) (l.filter (fun r : Rv => !decide (r.id ∈ m) && r.now))).length) cr53 (by have := srt_len Rv.zero (fun x y => x.id - y.id) (l.filter (fun r : Rv => decide (r.id ∈ m) && !r.now)); have := List.length_filter_le (fun r : Rv => decide (r.id ∈ m) && !r.now) l; have := srt_len Rv.zero (fun x y => x.id - y.id) (l.filter (fun r : Rv => !decide (r.id ∈ m) && r.now)); have := List.length_filter_le (fun r : Rv => !decide (r.id ∈ m) && r.now) l; omega) _ (H59.rwReads (k := 1) rfl)) ?_)
          rintro _ wq62 ⟨p60, c61, rfl, H63⟩
          replace H63 : S wq62 [Rw 3 1 p60 ((sortI ((srt Rv.zero (fun x y => x.id - y.id) (l.filter (fun r : Rv => !decide (r.id ∈ m) && r.now))).map Rv.id)).length) c61 (fl intL (sortI ((srt Rv.zero (fun x y => x.id - y.id) (l.filter (fun r : Rv => !decide (r.id ∈ m) && r.now))).map Rv.id))), Rw 3 1 p56 ((sortI ((srt Rv.zero (fun x y => x.id - y.id) (l.filter (fun r : Rv => decide (r.id ∈ m) && !r.now))).map Rv.id)).length) c57 (fl intL (sortI ((srt Rv.zero (fun x y => x.id - y.id) (l.filter (fun r : Rv => decide (r.id ∈ m) && !r.now))).map Rv.id))), Rw 30 10 pr52 ((srt Rv.zero (fun x y => x.id - y.id) (l.filter (fun r : Rv => !decide (r.id ∈ m) && r.now))).length) cr53 (fl rvL (srt Rv.zero (fun x y => x.id - y.id) (l.filter (fun r : Rv => !decide (r.id ∈ m) && r.now)))), (Big [Ob g30 (.cells #[.func (.func 22) #[] #[.pointer (some ⟨g1, 0, none⟩)]] 45 (0, 0)), Ob g25 (.cells #[.func (.func 21) #[] #[]] 45 (0, 0)), (Big [Ob g1 (.cells #[.slice q k d] 23 (0, 0)), Old w no]), (Big [])]), (Big [Ob bl47 (.cells #[.func (.func 26) #[] #[]] 50 (0, 0)), (Big [])]), Rw 30 10 pr43 ((srt Rv.zero (fun x y => x.id - y.id) (l.filter (fun r : Rv => decide (r.id ∈ m) && !r.now))).length) cr44 (fl rvL (srt Rv.zero (fun x y => x.id - y.id) (l.filter (fun r : Rv => decide (r.id ∈ m) && !r.now)))), (Big [Ob bl35 (.cells #[.func (.func 26) #[] #[]] 50 (0, 0)), (Big [])])] := H59.absorb (new := [Rw 3 1 p60 ((sortI ((srt Rv.zero (fun x y => x.id - y.id) (l.filter (fun r : Rv => !decide (r.id ∈ m) && r.now))).map Rv.id)).length) c61 (fl intL (sortI ((srt Rv.zero (fun x y => x.id - y.id) (l.filter (fun r : Rv => !decide (r.id ∈ m) && r.now))).map Rv.id)))]) H63
          refine b_ret rfl rfl ?_
          refine l_of (s_val (v := .slice p56 ((sortI ((srt Rv.zero (fun x y => x.id - y.id) (l.filter (fun r : Rv => decide (r.id ∈ m) && !r.now))).map Rv.id)).length) c57) (wt0 rfl) rfl rfl (x_assign rfl rfl) ?_)
          refine l_of (s_val (v := .slice p60 ((sortI ((srt Rv.zero (fun x y => x.id - y.id) (l.filter (fun r : Rv => !decide (r.id ∈ m) && r.now))).map Rv.id)).length) c61) (wt0 rfl) rfl rfl (x_assign rfl rfl) ?_)
          refine l_of (s_val (v := .int .i64 0) (wt0 rfl) rfl rfl (x_assign rfl rfl) ?_)
          refine g_nil ?_
          refine g_then ?_
          refine g_ret ?_
          refine fin_ret [.tmp 4, .tmp 5, .tmp 6] [.slice p56 ((sortI ((srt Rv.zero (fun x y => x.id - y.id) (l.filter (fun r : Rv => decide (r.id ∈ m) && !r.now))).map Rv.id)).length) c57, .slice p60 ((sortI ((srt Rv.zero (fun x y => x.id - y.id) (l.filter (fun r : Rv => !decide (r.id ∈ m) && r.now))).map Rv.id)).length) c61, .int .i64 0] rfl ⟨rfl, rfl, rfl, trivial⟩ ?_
          have hng : ∀ n ∈ m, ¬ n < 0 := fun x hx hlt => absurd (List.any_eq_true.2 ⟨x, hx, decide_eq_true hlt⟩) (by rw [hb17]; decide)
          rw [List.take_of_length_le (by omega)] at hnd hin
          have hv : chgE l m = 0 := chg_0 (by omega) hnd hng hin
          obtain ⟨h1, h2⟩ := chg_z hv
          have HA := S.unbig (H63.takes [3, 1, 0] (by decide))
          have HB := S.unbig (HA.takes [2, 4, 5] (by decide))
          have e1 : sortI ((srt Rv.zero (fun x y => x.id - y.id) (l.filter (fun r : Rv => decide (r.id ∈ m) && !r.now))).map Rv.id) = onL l m := ids_srt _ _
          have e2 : sortI ((srt Rv.zero (fun x y => x.id - y.id) (l.filter (fun r : Rv => !decide (r.id ∈ m) && r.now))).map Rv.id) = offL l m := ids_srt _ _
          rw [h1, h2, hv, ← e1, ← e2]
          exact ⟨_, _, _, _, rfl, HB.takes [2, 3, 1] (by decide)⟩
  · skip
    refine g_cond_t rfl (nt hb6) ?_
    refine g_seq ?_
    refine g_region ?_
    refine l_of (s_val (v := .int .i64 ((askE (⟨#[]⟩ : ByteArray) l))) (wt0 rfl) rfl rfl (x_move rfl rfl) ?_)
    refine l_of (s_val (v := .slice none 0 0) (wt0 rfl) rfl rfl (x_assign rfl rfl) ?_)
    refine l_of (s_val (v := .slice none 0 0) (wt0 rfl) rfl rfl (x_assign rfl rfl) ?_)
    refine l_of (s_val (v := .int .i64 ((askE (⟨#[]⟩ : ByteArray) l))) (wt0 rfl) rfl rfl (x_assign rfl rfl) ?_)
    refine g_nil ?_
    refine g_then ?_
    refine g_ret ?_
    refine g_then_ret ?_
    refine fin_ret [.tmp 4, .tmp 5, .tmp 6] [.slice none 0 0, .slice none 0 0, .int .i64 ((askE (⟨#[]⟩ : ByteArray) l))] rfl ⟨rfl, rfl, rfl, trivial⟩ ?_
    have hv : chgE l m = (askE (⟨#[]⟩ : ByteArray) l) := chg_a hb6
    obtain ⟨h1, h2⟩ := chg_v hv hb6
    rw [h1, h2, hv]
    exact ⟨none, 0, none, 0, rfl, ((H5.takes [1] (by decide)).nilFl 3 1 intL).nilFl 3 1 intL⟩
set_option maxRecDepth 20000 in
set_option maxHeartbeats 4000000 in
set_option maxRecDepth 20000 in
set_option maxHeartbeats 4000000 in
theorem changes_r (l : List Rv) (p : Option Addr) (n c : Nat) (hn2 : n ≤ 9223372036854775807) (m : List Int) (q : Option Addr) (k d : Nat) (hk2 : k ≤ 9223372036854775807) (hok : ∀ y ∈ m, okI y)  (w : World) (hr : Reads w p n c 10 (fl rvL l)) (hq : Reads w q k d 1 (fl intL m)) : Calls Try.prog 7 #[.slice p n c, .slice q k d] w fun e w' => ∃ p1 c1 p2 c2, e = .returned (.tuple #[.slice p1 (onV l m).length c1, .slice p2 (offV l m).length c2, .int .i64 (chgE l m)]) ∧ S w' ([Rw 3 1 p1 (onV l m).length c1 (fl intL (onV l m)), Rw 3 1 p2 (offV l m).length c2 (fl intL (offV l m))] ++ [Old w no]) := by
  have H0 := S.old w
  have hnl := hr.lenL rvE
  have hkm := hq.lenL intE
  refine enter 111 Try.func7 rfl rfl rfl ?_
  refine g_weak [(0, .slice p n c), (1, .slice q k d)] ⟨rfl, rfl, trivial⟩ ?_
  refine g_seq ?_
  refine g_region ?_
  refine l_of (s_val (v := .slice none 0 0) (wt0 rfl) rfl rfl (x_assign rfl rfl) ?_)
  refine l_of (s_val (v := .slice none 0 0) (wt0 rfl) rfl rfl (x_assign rfl rfl) ?_)
  refine l_of (s_val (v := .int .i64 0) (wt0 rfl) rfl rfl (x_assign rfl rfl) ?_)
  refine g_nil ?_
  refine g_then ?_
  refine g_seq ?_
  refine g_seq ?_
  refine g_region ?_
  refine l_of (s_val (v := .slice p n c) (wt0 rfl) rfl rfl (x_move rfl rfl) ?_)
  refine l_of (s_call (wt0 rfl) (x_call' rfl rfl cl29) (asked_r (⟨#[]⟩ : ByteArray) l p n c (by omega) _ (H0.exReads (k := 0) rfl hr (fun _ _ _ h => h))) ?_)
  rintro _ wq1 ⟨rfl, H2⟩
  replace H2 : S wq1 [Old w no] := H0.absorb (new := []) H2
  refine b_ret rfl rfl ?_
  refine l_of (s_val (v := .int .i64 ((askE (⟨#[]⟩ : ByteArray) l))) (wt0 rfl) rfl rfl (x_assign rfl rfl) ?_)
  refine g_nil ?_
  refine g_then ?_
  refine g_seq ?_
  refine g_region ?_
  refine l_of (s_val (v := .int .i64 ((askE (⟨#[]⟩ : ByteArray) l))) (wt0 rfl) rfl rfl (x_move rfl rfl) ?_)
  refine l_of (s_val (v := .bool (!decide (((askE (⟨#[]⟩ : ByteArray) l) : Int) = 0))) (wt0 rfl) rfl rfl (x_bin rfl rfl rfl b_neq) ?_)
  refine g_nil ?_
  refine g_then ?_
  by_cases hb3 : ((askE (⟨#[]⟩ : ByteArray) l) : Int) = 0
  · skip
    refine g_cond_f rfl (nf hb3) ?_
    refine g_skip ?_
    refine g_then ?_
    refine g_seq ?_
    refine g_region ?_
    refine l_of (s_makeMap (α := Bool) (Value.int .i64) Value.bool okI H2 (wt0 rfl) rfl rfl rfl ?_)
    intro mg4 wq5 H6
    replace H6 : S wq5 [Mp (Value.int .i64) Value.bool okI mg4 (fun _ => none), Old w no] := H6
    refine l_of (s_val (v := .map (some mg4)) (wt0 rfl) rfl rfl (x_assign rfl rfl) ?_)
    refine g_nil ?_
    refine g_then ?_
    refine g_seq ?_
    refine g_seq ?_
    refine g_region ?_
    refine l_of (s_val (v := .slice q k d) (wt0 rfl) rfl rfl (x_move rfl rfl) ?_)
    refine l_of (s_val (v := .int .i64 ((k : Int))) (wt0 rfl) rfl rfl (x_lenl rfl rfl Try.underlying23) ?_)
    refine l_of (s_val (v := .int .i64 0) (wt0 rfl) rfl rfl (x_move rfl rfl) ?_)
    refine g_nil ?_
    refine g_then ?_
    refine g_block ?_
    refine g_loop (ι := Nat × (Int → Option Bool)) (fun (i, M) => [(0, .slice p n c), (1, .slice q k d), (4, .slice none 0 0), (5, .slice none 0 0), (8, .map (some mg4)), (26, .slice q k d), (27, .int .i64 ((k : Int))), (28, .int .i64 ((i : Int)))]) (fun (i, M) wx => (i ≤ k) ∧ (∀ k, (M k).getD false = decide (k ∈ m.take i)) ∧ ((m.take i).Nodup) ∧ S wx [Mp (Value.int .i64) Value.bool okI mg4 M, Old w no]) (fun (i, M) => k - i) (0, (fun _ => none)) ⟨rfl, rfl, rfl, rfl, rfl, rfl, rfl, rfl, trivial⟩ ⟨Nat.zero_le _, (fun k => by rw [List.take_zero]; rfl), (by rw [List.take_zero]; exact List.nodup_nil), (H6.takes [0, 1] (by decide))⟩ ?_
    rintro ⟨i, M⟩ wq7 ⟨hi, hM, hnd, H8⟩
    replace H8 : S wq7 [Mp (Value.int .i64) Value.bool okI mg4 M, Old w no] := H8
    refine g_weak [(0, .slice p n c), (1, .slice q k d), (4, .slice none 0 0), (5, .slice none 0 0), (8, .map (some mg4)), (26, .slice q k d), (27, .int .i64 ((k : Int))), (28, .int .i64 ((i : Int)))] ⟨rfl, rfl, rfl, rfl, rfl, rfl, rfl, rfl, trivial⟩ ?_
    refine g_seq ?_
    refine g_region ?_
    refine l_of (s_val (v := .bool (decide (((i : Int) : Int) < (k : Int)))) (wt0 rfl) rfl rfl (x_bin rfl rfl rfl b_lss) ?_)
    refine g_nil ?_
    refine g_then ?_
    refine g_seq ?_
    by_cases hb9 : ((i : Int) : Int) < (k : Int)
    · skip
      refine g_cond_t rfl (decide_eq_true hb9) ?_
      refine g_skip ?_
      refine g_then ?_
      refine g_seq ?_
      refine g_block ?_
      refine g_seq ?_
      refine g_region ?_
      refine l_of (s_val (v := .pointer ((q).map fun q => q.add (i * 1))) (wt0 rfl) rfl rfl (x_idxR i (H8.exReads (k := 1) rfl hq (fun _ _ _ h => h)) rfl rfl rfl Try.underlying23 sz3 (by omega)) ?_)
      have hlq := (H8.exReads (k := 1) rfl hq (fun _ _ _ h => h)).lenL intE
      obtain ⟨x10, hx10⟩ := ex_at (l := m) (j := i) (by omega)
      clear hlq
      refine l_of (s_val (v := .int .i64 x10) (wt0 rfl) rfl rfl (x_loadR1 i (H8.exReads (k := 1) rfl hq (fun _ _ _ h => h)) (by omega) rfl rfl Try.underlying3 rfl (intE.flAt1 hx10 rfl)) ?_)
      refine l_of (s_val (v := .int .i64 x10) (wt0 rfl) rfl rfl (x_assign rfl rfl) ?_)
      refine g_nil ?_
      refine g_then ?_
      refine g_seq ?_
      refine g_seq ?_
      refine g_region ?_
      refine l_of (s_val (v := .map (some mg4)) (wt0 rfl) rfl rfl (x_move rfl rfl) ?_)
      refine l_of (s_val (v := .int .i64 x10) (wt0 rfl) rfl rfl (x_move rfl rfl) ?_)
      refine l_of (s_val (v := .bool (((M x10).getD false))) (wt0 rfl) rfl rfl (ex_cast (x_lookup1 (x := x10) (intTy Try.underlying53 Try.underlying3) H8 0 rfl rfl rfl rfl ((hok _ (at_mem hx10))) ze4) (look_B _)) ?_)
      refine g_nil ?_
      refine g_then ?_
      rcases Bool.eq_false_or_eq_true (((M x10).getD false)) with hb11 | hb11
      · skip
        refine g_cond_t rfl hb11 ?_
        refine g_seq ?_
        refine g_region ?_
        refine l_of (s_val (v := .slice none 0 0) (wt0 rfl) rfl rfl (x_assign rfl rfl) ?_)
        refine l_of (s_val (v := .slice none 0 0) (wt0 rfl) rfl rfl (x_assign rfl rfl) ?_)
        refine l_of (s_val (v := .int .i64 6) (wt0 rfl) rfl rfl (x_assign rfl rfl) ?_)
        refine g_nil ?_
        refine g_then ?_
        refine g_weak [(4, .slice none 0 0), (5, .slice none 0 0), (6, .int .i64 6)] ⟨rfl, rfl, rfl, trivial⟩ ?_
        refine g_ret ?_
        refine g_then_ret ?_
        refine g_in_ret ?_
        refine g_then_ret ?_
        refine g_then_ret ?_
        refine g_in_ret ?_
        refine g_then_ret ?_
        refine fin_ret [.tmp 4, .tmp 5, .tmp 6] [.slice none 0 0, .slice none 0 0, .int .i64 6] rfl ⟨rfl, rfl, rfl, trivial⟩ ?_
        have h9 := hb11
        rw [hM] at h9
        have hv : chgE l m = 6 := chg_6 (by omega) (nodupI_of hx10 (of_decide_eq_true h9))
        obtain ⟨h1, h2⟩ := chg_v hv (by decide)
        rw [h1, h2, hv]
        exact ⟨none, 0, none, 0, rfl, ((H8.takes [1] (by decide)).nilFl 3 1 intL).nilFl 3 1 intL⟩
      · skip
        refine g_cond_f rfl hb11 ?_
        refine g_skip ?_
        refine g_then ?_
        refine g_region ?_
        refine l_of (s_val (v := .map (some mg4)) (wt0 rfl) rfl rfl (x_move rfl rfl) ?_)
        refine l_of (s_val (v := .int .i64 x10) (wt0 rfl) rfl rfl (x_move rfl rfl) ?_)
        refine l_of (s_mapUpdate (x := x10) (a := true) (intTy Try.underlying53 Try.underlying3) H8 0 (wt0 rfl) rfl rfl rfl rfl rfl rfl ((hok _ (at_mem hx10))) ?_)
        intro wq12 H13
        replace H13 : S wq12 [Mp (Value.int .i64) Value.bool okI mg4 (upM M x10 true), Old w no] := H13
        refine g_nil ?_
        refine g_in ?_
        refine g_then ?_
        refine g_region ?_
        refine l_of (s_val (v := .int .i64 (((i + 1 : Nat) : Int))) (wt0 rfl) rfl rfl (x_bin rfl rfl rfl (b_add (by rw [w64 (by omega)]; omega))) ?_)
        refine l_of (s_val (v := .int .i64 (((i + 1 : Nat) : Int))) (wt0 rfl) rfl rfl (x_move rfl rfl) ?_)
        refine g_nil ?_
        refine g_then ?_
        refine g_round (i := (i, M)) ((i + 1), (upM M x10 true)) ?_ ?_ ?_
        · exact ⟨rfl, rfl, rfl, rfl, rfl, rfl, rfl, rfl, trivial⟩
        · exact ⟨by omega, (fun k => by rw [upM_has, hM k, Bool.eq_iff_iff, Bool.or_eq_true, decide_eq_true_iff, decide_eq_true_iff, decide_eq_true_iff, memI_nxt hx10]), ((nodupI_nxt hx10).2 ⟨hnd, by have h9 := hb11; rw [hM] at h9; exact of_decide_eq_false h9⟩), (H13.takes [0, 1] (by decide))⟩
        · (try dsimp only); omega
    · skip
      refine g_cond_f rfl (decide_eq_false hb9) ?_
      refine g_exit ?_
      refine g_then_exit ?_
      refine g_then_exit ?_
      refine g_in_hit ?_
      refine g_then ?_
      refine g_seq ?_
      refine g_seq ?_
      refine g_region ?_
      refine l_of (s_val (v := .slice q k d) (wt0 rfl) rfl rfl (x_move rfl rfl) ?_)
      refine l_of (s_val (v := .int .i64 ((k : Int))) (wt0 rfl) rfl rfl (x_lenl rfl rfl Try.underlying23) ?_)
      refine l_of (s_val (v := .int .i64 0) (wt0 rfl) rfl rfl (x_move rfl rfl) ?_)
      refine g_nil ?_
      refine g_then ?_
      refine g_block ?_
      refine g_loop (ι := Nat) (fun j => [(0, .slice p n c), (1, .slice q k d), (4, .slice none 0 0), (5, .slice none 0 0), (38, .slice q k d), (39, .int .i64 ((k : Int))), (40, .int .i64 ((j : Int)))]) (fun j wx => (j ≤ k) ∧ (∀ y ∈ m.take j, ¬ y < 0) ∧ S wx [Old w no]) (fun j => k - j) (0) ⟨rfl, rfl, rfl, rfl, rfl, rfl, rfl, trivial⟩ ⟨Nat.zero_le _, (fun y hy => by simp at hy), (H8.takes [1] (by decide))⟩ ?_
      rintro j wq14 ⟨hj, hng, H15⟩
      replace H15 : S wq14 [Old w no] := H15
      refine g_weak [(0, .slice p n c), (1, .slice q k d), (4, .slice none 0 0), (5, .slice none 0 0), (38, .slice q k d), (39, .int .i64 ((k : Int))), (40, .int .i64 ((j : Int)))] ⟨rfl, rfl, rfl, rfl, rfl, rfl, rfl, trivial⟩ ?_
      refine g_seq ?_
      refine g_region ?_
      refine l_of (s_val (v := .bool (decide (((j : Int) : Int) < (k : Int)))) (wt0 rfl) rfl rfl (x_bin rfl rfl rfl b_lss) ?_)
      refine g_nil ?_
      refine g_then ?_
      refine g_seq ?_
      by_cases hb16 : ((j : Int) : Int) < (k : Int)
      · skip
        refine g_cond_t rfl (decide_eq_true hb16) ?_
        refine g_skip ?_
        refine g_then ?_
        refine g_seq ?_
        refine g_block ?_
        refine g_seq ?_
        refine g_region ?_
        refine l_of (s_val (v := .pointer ((q).map fun q => q.add (j * 1))) (wt0 rfl) rfl rfl (x_idxR j (H15.exReads (k := 0) rfl hq (fun _ _ _ h => h)) rfl rfl rfl Try.underlying23 sz3 (by omega)) ?_)
        have hlq := (H15.exReads (k := 0) rfl hq (fun _ _ _ h => h)).lenL intE
        obtain ⟨x17, hx17⟩ := ex_at (l := m) (j := j) (by omega)
        clear hlq
        refine l_of (s_val (v := .int .i64 x17) (wt0 rfl) rfl rfl (x_loadR1 j (H15.exReads (k := 0) rfl hq (fun _ _ _ h => h)) (by omega) rfl rfl Try.underlying3 rfl (intE.flAt1 hx17 rfl)) ?_)
        refine l_of (s_val (v := .int .i64 x17) (wt0 rfl) rfl rfl (x_assign rfl rfl) ?_)
        refine g_nil ?_
        refine g_then ?_
        refine g_seq ?_
        refine g_region ?_
        refine l_of (s_val (v := .int .i64 x17) (wt0 rfl) rfl rfl (x_move rfl rfl) ?_)
        refine l_of (s_val (v := .bool (decide ((x17 : Int) < 0))) (wt0 rfl) rfl rfl (x_bin rfl rfl rfl b_lss) ?_)
        refine g_nil ?_
        refine g_then ?_
        by_cases hb18 : (x17 : Int) < 0
        · skip
          refine g_cond_t rfl (decide_eq_true hb18) ?_
          refine g_seq ?_
          refine g_region ?_
          refine l_of (s_val (v := .slice none 0 0) (wt0 rfl) rfl rfl (x_assign rfl rfl) ?_)
          refine l_of (s_val (v := .slice none 0 0) (wt0 rfl) rfl rfl (x_assign rfl rfl) ?_)
          refine l_of (s_val (v := .int .i64 7) (wt0 rfl) rfl rfl (x_assign rfl rfl) ?_)
          refine g_nil ?_
          refine g_then ?_
          refine g_ret ?_
          refine g_in_ret ?_
          refine g_then_ret ?_
          refine g_then_ret ?_
          refine g_in_ret ?_
          refine g_then_ret ?_
          refine fin_ret [.tmp 4, .tmp 5, .tmp 6] [.slice none 0 0, .slice none 0 0, .int .i64 7] rfl ⟨rfl, rfl, rfl, trivial⟩ ?_
          rw [List.take_of_length_le (by omega)] at hnd
          have hv : chgE l m = 7 := chg_7 (by omega) hnd ⟨_, at_mem hx17, hb18⟩
          obtain ⟨h1, h2⟩ := chg_v hv (by decide)
          rw [h1, h2, hv]
          exact ⟨none, 0, none, 0, rfl, ((H15.takes [0] (by decide)).nilFl 3 1 intL).nilFl 3 1 intL⟩
        · skip
          refine g_cond_f rfl (decide_eq_false hb18) ?_
          refine g_skip ?_
          refine g_in ?_
          refine g_then ?_
          refine g_region ?_
          refine l_of (s_val (v := .int .i64 (((j + 1 : Nat) : Int))) (wt0 rfl) rfl rfl (x_bin rfl rfl rfl (b_add (by rw [w64 (by omega)]; omega))) ?_)
          refine l_of (s_val (v := .int .i64 (((j + 1 : Nat) : Int))) (wt0 rfl) rfl rfl (x_move rfl rfl) ?_)
          refine g_nil ?_
          refine g_then ?_
          refine g_round (i := (j)) ((j + 1)) ?_ ?_ ?_
          · exact ⟨rfl, rfl, rfl, rfl, rfl, rfl, rfl, trivial⟩
          · exact ⟨by omega, (no_takeP hng hx17 hb18), (H15.takes [0] (by decide))⟩
          · (try dsimp only); omega
      · skip
        refine g_cond_f rfl (decide_eq_false hb16) ?_
        refine g_exit ?_
        refine g_then_exit ?_
        refine g_then_exit ?_
        refine g_in_hit ?_
        refine g_then ?_
        refine g_seq ?_
        refine g_seq ?_
        refine g_region ?_
        refine l_of (s_val (v := .slice q k d) (wt0 rfl) rfl rfl (x_move rfl rfl) ?_)
        refine l_of (s_val (v := .int .i64 ((k : Int))) (wt0 rfl) rfl rfl (x_lenl rfl rfl Try.underlying23) ?_)
        refine l_of (s_val (v := .int .i64 0) (wt0 rfl) rfl rfl (x_move rfl rfl) ?_)
        refine g_nil ?_
        refine g_then ?_
        refine g_block ?_
        refine g_loop (ι := Nat) (fun a => [(0, .slice p n c), (1, .slice q k d), (4, .slice none 0 0), (5, .slice none 0 0), (47, .slice q k d), (48, .int .i64 ((k : Int))), (49, .int .i64 ((a : Int)))]) (fun a wx => (a ≤ k) ∧ (∀ y ∈ m.take a, y ∈ l.map Rv.id) ∧ S wx [Old w no]) (fun a => k - a) (0) ⟨rfl, rfl, rfl, rfl, rfl, rfl, rfl, trivial⟩ ⟨Nat.zero_le _, (fun y hy => by simp at hy), (H15.takes [0] (by decide))⟩ ?_
        rintro a wq19 ⟨ha, hin, H20⟩
        replace H20 : S wq19 [Old w no] := H20
        refine g_weak [(0, .slice p n c), (1, .slice q k d), (4, .slice none 0 0), (5, .slice none 0 0), (47, .slice q k d), (48, .int .i64 ((k : Int))), (49, .int .i64 ((a : Int)))] ⟨rfl, rfl, rfl, rfl, rfl, rfl, rfl, trivial⟩ ?_
        refine g_seq ?_
        refine g_region ?_
        refine l_of (s_val (v := .bool (decide (((a : Int) : Int) < (k : Int)))) (wt0 rfl) rfl rfl (x_bin rfl rfl rfl b_lss) ?_)
        refine g_nil ?_
        refine g_then ?_
        refine g_seq ?_
        by_cases hb21 : ((a : Int) : Int) < (k : Int)
        · skip
          refine g_cond_t rfl (decide_eq_true hb21) ?_
          refine g_skip ?_
          refine g_then ?_
          refine g_seq ?_
          refine g_block ?_
          refine g_seq ?_
          refine g_region ?_
          refine l_of (s_val (v := .pointer ((q).map fun q => q.add (a * 1))) (wt0 rfl) rfl rfl (x_idxR a (H20.exReads (k := 0) rfl hq (fun _ _ _ h => h)) rfl rfl rfl Try.underlying23 sz3 (by omega)) ?_)
          have hlq := (H20.exReads (k := 0) rfl hq (fun _ _ _ h => h)).lenL intE
          obtain ⟨x22, hx22⟩ := ex_at (l := m) (j := a) (by omega)
          clear hlq
          refine l_of (s_val (v := .int .i64 x22) (wt0 rfl) rfl rfl (x_loadR1 a (H20.exReads (k := 0) rfl hq (fun _ _ _ h => h)) (by omega) rfl rfl Try.underlying3 rfl (intE.flAt1 hx22 rfl)) ?_)
          refine l_of (s_val (v := .int .i64 x22) (wt0 rfl) rfl rfl (x_assign rfl rfl) ?_)
          refine g_nil ?_
          refine g_then ?_
          refine g_seq ?_
          refine g_region ?_
          refine l_of (s_val (v := .bool false) (wt0 rfl) rfl rfl (x_assign rfl rfl) ?_)
          refine g_nil ?_
          refine g_then ?_
          refine g_seq ?_
          refine g_seq ?_
          refine g_region ?_
          refine l_of (s_val (v := .slice p n c) (wt0 rfl) rfl rfl (x_move rfl rfl) ?_)
          refine l_of (s_val (v := .int .i64 ((n : Int))) (wt0 rfl) rfl rfl (x_lenl rfl rfl Try.underlying22) ?_)
          refine l_of (s_val (v := .int .i64 0) (wt0 rfl) rfl rfl (x_move rfl rfl) ?_)
          refine g_nil ?_
          refine g_then ?_
          refine g_block ?_
          refine g_loop (ι := Nat × Bool) (fun (b, th) => [(0, .slice p n c), (1, .slice q k d), (4, .slice none 0 0), (5, .slice none 0 0), (14, .int .i64 x22), (15, .bool th), (47, .slice q k d), (48, .int .i64 ((k : Int))), (49, .int .i64 ((a : Int))), (53, .slice p n c), (54, .int .i64 ((n : Int))), (55, .int .i64 ((b : Int)))]) (fun (b, th) wx => (b ≤ n) ∧ (th = decide (x22 ∈ (l.take b).map Rv.id)) ∧ S wx [Old w no]) (fun (b, th) => n - b) (0, false) ⟨rfl, rfl, rfl, rfl, rfl, rfl, rfl, rfl, rfl, rfl, rfl, rfl, trivial⟩ ⟨Nat.zero_le _, (by rw [List.take_zero]; rfl), (H20.takes [0] (by decide))⟩ ?_
          rintro ⟨b, th⟩ wq23 ⟨hb, hth, H24⟩
          replace H24 : S wq23 [Old w no] := H24
          refine g_weak [(0, .slice p n c), (1, .slice q k d), (4, .slice none 0 0), (5, .slice none 0 0), (14, .int .i64 x22), (15, .bool th), (47, .slice q k d), (48, .int .i64 ((k : Int))), (49, .int .i64 ((a : Int))), (53, .slice p n c), (54, .int .i64 ((n : Int))), (55, .int .i64 ((b : Int)))] ⟨rfl, rfl, rfl, rfl, rfl, rfl, rfl, rfl, rfl, rfl, rfl, rfl, trivial⟩ ?_
          refine g_seq ?_
          refine g_region ?_
          refine l_of (s_val (v := .bool (decide (((b : Int) : Int) < (n : Int)))) (wt0 rfl) rfl rfl (x_bin rfl rfl rfl b_lss) ?_)
          refine g_nil ?_
          refine g_then ?_
          refine g_seq ?_
          by_cases hb25 : ((b : Int) : Int) < (n : Int)
          · skip
            refine g_cond_t rfl (decide_eq_true hb25) ?_
            refine g_skip ?_
            refine g_then ?_
            refine g_seq ?_
            refine g_block ?_
            refine g_seq ?_
            refine g_region ?_
            refine l_of (s_val (v := .pointer ((p).map fun q => q.add (b * 10))) (wt0 rfl) rfl rfl (x_idxR b (H24.exReads (k := 0) rfl hr (fun _ _ _ h => h)) rfl rfl rfl Try.underlying22 sz30 (by omega)) ?_)
            have hlq := (H24.exReads (k := 0) rfl hr (fun _ _ _ h => h)).lenL rvE
            obtain ⟨x26, hx26⟩ := ex_at (l := l) (j := b) (by omega)
            clear hlq
            refine l_of (s_val (v := .agg #[.int .i64 (x26.id), .bool x26.intr, .bool x26.chk, .int .i64 (x26.frm), .int .i64 (x26.to), .int .i64 (x26.lt), .int .i64 (x26.since), .bool x26.snb, .bool x26.now, .bool x26.seed]) (wt0 rfl) rfl rfl (x_loadRA (vs := rvL x26) b (H24.exReads (k := 0) rfl hr (fun _ _ _ h => h)) (by omega) rfl rfl Try.underlying30 rfl sz30 (by rfl) (rvE.flAt hx26)) ?_)
            refine l_of (s_alloc H24 (wt0 rfl) rfl rfl rfl ze30 ?_)
            intro g27 wq28 H29
            refine l_of (s_store H29 0 (wt0 rfl) rfl rfl rfl rfl rfl sz30 rfl rfl (cs' := #[.int .i64 (x26.id), .bool x26.intr, .bool x26.chk, .int .i64 (x26.frm), .int .i64 (x26.to), .int .i64 (x26.lt), .int .i64 (x26.since), .bool x26.snb, .bool x26.now, .bool x26.seed]) rfl ?_)
            intro wq30 H31
            refine g_nil ?_
            refine g_then ?_
            refine g_region ?_
            refine l_of (s_val (v := .bool th) (wt0 rfl) rfl rfl (x_move rfl rfl) ?_)
            refine l_of (s_val (v := .bool th) (wt0 rfl) rfl rfl (x_move rfl rfl) ?_)
            rcases Bool.eq_false_or_eq_true (th) with hb32 | hb32
            · skip
              refine l_of (s_not (wn1 rfl rfl rfl rfl hb32) rfl rfl ?_)
              refine l_of (s_not (wn1 rfl rfl rfl rfl hb32) rfl rfl ?_)
              refine l_of (s_not (wn1 rfl rfl rfl rfl hb32) rfl rfl ?_)
              refine l_of (s_not (wn1 rfl rfl rfl rfl hb32) rfl rfl ?_)
              refine l_of (s_val (v := .bool true) (wt0 rfl) rfl rfl (x_pick_t rfl rfl hb32 rfl) ?_)
              refine l_of (s_val (v := .bool true) (wt0 rfl) rfl rfl (x_assign rfl rfl) ?_)
              refine g_nil ?_
              refine g_in ?_
              refine g_then ?_
              refine g_region ?_
              refine l_of (s_val (v := .int .i64 (((b + 1 : Nat) : Int))) (wt0 rfl) rfl rfl (x_bin rfl rfl rfl (b_add (by rw [w64 (by omega)]; omega))) ?_)
              refine l_of (s_val (v := .int .i64 (((b + 1 : Nat) : Int))) (wt0 rfl) rfl rfl (x_move rfl rfl) ?_)
              refine g_nil ?_
              refine g_then ?_
              refine g_round (i := (b, th)) ((b + 1), true) ?_ ?_ ?_
              · exact ⟨rfl, rfl, rfl, rfl, rfl, rfl, rfl, rfl, rfl, rfl, rfl, rfl, trivial⟩
              · exact ⟨by omega, (by rw [Bool.eq_iff_iff]; simp only [decide_eq_true_iff, mem_ids_nxt hx26]; simp_all [eq_comm]), (H31.takes [1] (by decide))⟩
              · (try dsimp only); omega
            · skip
              refine l_of (s_val (v := .pointer (some ⟨g27, 0, none⟩)) (wt1 rfl rfl rfl rfl hb32) rfl rfl (x_fieldAddr rfl rfl fo30_0 rfl) ?_)
              refine l_of (s_val (v := .int .i64 (x26.id)) (wt1 rfl rfl rfl rfl hb32) rfl rfl (x_load1 H31 0 rfl rfl Try.underlying3 rfl rfl rfl) ?_)
              refine l_of (s_val (v := .int .i64 x22) (wt1 rfl rfl rfl rfl hb32) rfl rfl (x_move rfl rfl) ?_)
              refine l_of (s_val (v := .bool (decide ((x26.id : Int) = x22))) (wt1 rfl rfl rfl rfl hb32) rfl rfl (x_bin rfl rfl rfl b_eql) ?_)
              refine l_of (s_val (v := .bool (decide ((x26.id : Int) = x22))) (wt0 rfl) rfl rfl (x_pick_f rfl rfl hb32 rfl) ?_)
              refine l_of (s_val (v := .bool (decide ((x26.id : Int) = x22))) (wt0 rfl) rfl rfl (x_assign rfl rfl) ?_)
              refine g_nil ?_
              refine g_in ?_
              refine g_then ?_
              refine g_region ?_
              refine l_of (s_val (v := .int .i64 (((b + 1 : Nat) : Int))) (wt0 rfl) rfl rfl (x_bin rfl rfl rfl (b_add (by rw [w64 (by omega)]; omega))) ?_)
              refine l_of (s_val (v := .int .i64 (((b + 1 : Nat) : Int))) (wt0 rfl) rfl rfl (x_move rfl rfl) ?_)
              refine g_nil ?_
              refine g_then ?_
              refine g_round (i := (b, th)) ((b + 1), decide ((x26.id : Int) = x22)) ?_ ?_ ?_
              · exact ⟨rfl, rfl, rfl, rfl, rfl, rfl, rfl, rfl, rfl, rfl, rfl, rfl, trivial⟩
              · exact ⟨by omega, (by rw [Bool.eq_iff_iff]; simp only [decide_eq_true_iff, mem_ids_nxt hx26]; simp_all [eq_comm]), (H31.takes [1] (by decide))⟩
              · (try dsimp only); omega
          · skip
            refine g_cond_f rfl (decide_eq_false hb25) ?_
            refine g_exit ?_
            rw [List.take_of_length_le (by omega)] at hth
            refine g_then_exit ?_
            refine g_then_exit ?_
            refine g_in_hit ?_
            refine g_then ?_
            refine g_seq ?_
            refine g_region ?_
            refine l_of (s_val (v := .bool th) (wt0 rfl) rfl rfl (x_move rfl rfl) ?_)
            refine l_of (s_val (v := .bool (!th)) (wt0 rfl) rfl rfl (x_not (b := th) rfl rfl) ?_)
            refine g_nil ?_
            refine g_then ?_
            rcases Bool.eq_false_or_eq_true (th) with hb33 | hb33
            · skip
              refine g_cond_f rfl (neg_of hb33) ?_
              refine g_skip ?_
              refine g_in ?_
              refine g_then ?_
              refine g_region ?_
              refine l_of (s_val (v := .int .i64 (((a + 1 : Nat) : Int))) (wt0 rfl) rfl rfl (x_bin rfl rfl rfl (b_add (by rw [w64 (by omega)]; omega))) ?_)
              refine l_of (s_val (v := .int .i64 (((a + 1 : Nat) : Int))) (wt0 rfl) rfl rfl (x_move rfl rfl) ?_)
              refine g_nil ?_
              refine g_then ?_
              refine g_round (i := (a)) ((a + 1)) ?_ ?_ ?_
              · exact ⟨rfl, rfl, rfl, rfl, rfl, rfl, rfl, trivial⟩
              · exact ⟨by omega, (no_takeP hin hx22 (by have h9 := hb33; rw [hth] at h9; simpa using h9)), (H24.takes [0] (by decide))⟩
              · (try dsimp only); omega
            · skip
              refine g_cond_t rfl (neg_of hb33) ?_
              refine g_seq ?_
              refine g_region ?_
              refine l_of (s_val (v := .slice none 0 0) (wt0 rfl) rfl rfl (x_assign rfl rfl) ?_)
              refine l_of (s_val (v := .slice none 0 0) (wt0 rfl) rfl rfl (x_assign rfl rfl) ?_)
              refine l_of (s_val (v := .int .i64 5) (wt0 rfl) rfl rfl (x_assign rfl rfl) ?_)
              refine g_nil ?_
              refine g_then ?_
              refine g_weak [(4, .slice none 0 0), (5, .slice none 0 0), (6, .int .i64 5)] ⟨rfl, rfl, rfl, trivial⟩ ?_
              refine g_ret ?_
              refine g_in_ret ?_
              refine g_then_ret ?_
              refine g_then_ret ?_
              refine g_in_ret ?_
              refine g_then_ret ?_
              refine fin_ret [.tmp 4, .tmp 5, .tmp 6] [.slice none 0 0, .slice none 0 0, .int .i64 5] rfl ⟨rfl, rfl, rfl, trivial⟩ ?_
              rw [List.take_of_length_le (by omega)] at hnd
              rw [List.take_of_length_le (by omega)] at hng
              have hv : chgE l m = 5 := chg_5 (by omega) hnd hng ⟨_, at_mem hx22, (by have h9 := hb33; rw [hth] at h9; simpa using h9)⟩
              obtain ⟨h1, h2⟩ := chg_v hv (by decide)
              rw [h1, h2, hv]
              exact ⟨none, 0, none, 0, rfl, ((H24.takes [0] (by decide)).nilFl 3 1 intL).nilFl 3 1 intL⟩
        · skip
          refine g_cond_f rfl (decide_eq_false hb21) ?_
          refine g_exit ?_
          have hn200 := (askE_ok (seed := (ByteArray.mk #[])) (l := l) (by omega)).1
          refine g_then_exit ?_
          refine g_then_exit ?_
          refine g_in_hit ?_
          refine g_then ?_
          refine g_seq ?_
          refine g_seq ?_
          refine g_region ?_
          refine l_of (s_val (v := .slice p n c) (wt0 rfl) rfl rfl (x_move rfl rfl) ?_)
          refine l_of (s_val (v := .int .i64 ((n : Int))) (wt0 rfl) rfl rfl (x_lenl rfl rfl Try.underlying22) ?_)
          refine l_of (s_val (v := .int .i64 0) (wt0 rfl) rfl rfl (x_move rfl rfl) ?_)
          refine g_nil ?_
          refine g_then ?_
          refine g_block ?_
          refine g_loop (ι := Nat × Option Addr × Nat × List Int × Option Addr × Nat × List Int) (fun (z, p1, c1, A, p2, c2, B) => [(1, .slice q k d), (4, .slice p1 A.length c1), (5, .slice p2 B.length c2), (70, .slice p n c), (71, .int .i64 ((n : Int))), (72, .int .i64 ((z : Int)))]) (fun (z, p1, c1, A, p2, c2, B) wx => (z ≤ n) ∧ (A = ((l.take z).filter (fun r : Rv => decide (r.id ∈ m) && !r.now)).map Rv.id) ∧ (B = ((l.take z).filter (fun r : Rv => !decide (r.id ∈ m) && r.now)).map Rv.id) ∧ (A.length ≤ z) ∧ (B.length ≤ z) ∧ S wx [Rw 3 1 p1 A.length c1 (fl intL A), Rw 3 1 p2 B.length c2 (fl intL B), Old w no]) (fun (z, p1, c1, A, p2, c2, B) => n - z) (0, none, 0, [], none, 0, []) ⟨rfl, rfl, rfl, rfl, rfl, rfl, trivial⟩ ⟨Nat.zero_le _, (by rw [List.take_zero]; rfl), (by rw [List.take_zero]; rfl), (Nat.le_refl 0), (Nat.le_refl 0), (((H20.takes [0] (by decide)).nilFl 3 1 intL).nilFl 3 1 intL)⟩ ?_
          rintro ⟨z, p1, c1, A, p2, c2, B⟩ wq34 ⟨hz, hA, hB, hAl, hBl, H35⟩
          replace H35 : S wq34 [Rw 3 1 p1 A.length c1 (fl intL A), Rw 3 1 p2 B.length c2 (fl intL B), Old w no] := H35
          refine g_weak [(1, .slice q k d), (4, .slice p1 A.length c1), (5, .slice p2 B.length c2), (70, .slice p n c), (71, .int .i64 ((n : Int))), (72, .int .i64 ((z : Int)))] ⟨rfl, rfl, rfl, rfl, rfl, rfl, trivial⟩ ?_
          refine g_seq ?_
          refine g_region ?_
          refine l_of (s_val (v := .bool (decide (((z : Int) : Int) < (n : Int)))) (wt0 rfl) rfl rfl (x_bin rfl rfl rfl b_lss) ?_)
          refine g_nil ?_
          refine g_then ?_
          refine g_seq ?_
          by_cases hb36 : ((z : Int) : Int) < (n : Int)
          · skip
            refine g_cond_t rfl (decide_eq_true hb36) ?_
            refine g_skip ?_
            refine g_then ?_
            refine g_seq ?_
            refine g_block ?_
            refine g_seq ?_
            refine g_region ?_
            refine l_of (s_val (v := .pointer ((p).map fun q => q.add (z * 10))) (wt0 rfl) rfl rfl (x_idxR z (H35.exReads (k := 2) rfl hr (fun _ _ _ h => h)) rfl rfl rfl Try.underlying22 sz30 (by omega)) ?_)
            have hlq := (H35.exReads (k := 2) rfl hr (fun _ _ _ h => h)).lenL rvE
            obtain ⟨x37, hx37⟩ := ex_at (l := l) (j := z) (by omega)
            clear hlq
            refine l_of (s_val (v := .agg #[.int .i64 (x37.id), .bool x37.intr, .bool x37.chk, .int .i64 (x37.frm), .int .i64 (x37.to), .int .i64 (x37.lt), .int .i64 (x37.since), .bool x37.snb, .bool x37.now, .bool x37.seed]) (wt0 rfl) rfl rfl (x_loadRA (vs := rvL x37) z (H35.exReads (k := 2) rfl hr (fun _ _ _ h => h)) (by omega) rfl rfl Try.underlying30 rfl sz30 (by rfl) (rvE.flAt hx37)) ?_)
            refine l_of (s_alloc H35 (wt0 rfl) rfl rfl rfl ze30 ?_)
            intro g38 wq39 H40
            refine l_of (s_store H40 0 (wt0 rfl) rfl rfl rfl rfl rfl sz30 rfl rfl (cs' := #[.int .i64 (x37.id), .bool x37.intr, .bool x37.chk, .int .i64 (x37.frm), .int .i64 (x37.to), .int .i64 (x37.lt), .int .i64 (x37.since), .bool x37.snb, .bool x37.now, .bool x37.seed]) rfl ?_)
            intro wq41 H42
            refine g_nil ?_
            refine g_then ?_
            refine g_block ?_
            refine g_seq ?_
            refine g_region ?_
            refine l_of (s_val (v := .slice q k d) (wt0 rfl) rfl rfl (x_move rfl rfl) ?_)
            refine l_of (s_val (v := .pointer (some ⟨g38, 0, none⟩)) (wt0 rfl) rfl rfl (x_fieldAddr rfl rfl fo30_0 rfl) ?_)
            refine l_of (s_val (v := .int .i64 (x37.id)) (wt0 rfl) rfl rfl (x_load1 H42 0 rfl rfl Try.underlying3 rfl rfl rfl) ?_)
            refine l_of (s_call (wt0 rfl) (x_call' rfl rfl cl30) (in_r m q k d x37.id (by omega) _ (H42.exReads (k := 3) rfl hq (fun _ _ _ h => h))) ?_)
            rintro _ wq43 ⟨rfl, H44⟩
            replace H44 : S wq43 [Ob g38 (.cells #[.int .i64 (x37.id), .bool x37.intr, .bool x37.chk, .int .i64 (x37.frm), .int .i64 (x37.to), .int .i64 (x37.lt), .int .i64 (x37.since), .bool x37.snb, .bool x37.now, .bool x37.seed] 30 (0, 0)), Rw 3 1 p1 A.length c1 (fl intL A), Rw 3 1 p2 B.length c2 (fl intL B), Old w no] := H42.absorb (new := []) H44
            refine b_ret rfl rfl ?_
            refine l_of (s_val (v := .bool ((decide (x37.id ∈ m)))) (wt0 rfl) rfl rfl (x_move rfl rfl) ?_)
            rcases Bool.eq_false_or_eq_true ((decide (x37.id ∈ m))) with hb45 | hb45
            · skip
              refine l_of (s_val (v := .pointer (some ⟨g38, 8, none⟩)) (wt1 rfl rfl rfl rfl hb45) rfl rfl (x_fieldAddr rfl rfl fo30_8 rfl) ?_)
              refine l_of (s_val (v := .bool x37.now) (wt1 rfl rfl rfl rfl hb45) rfl rfl (x_load1 H44 0 rfl rfl Try.underlying4 rfl rfl rfl) ?_)
              refine l_of (s_val (v := .bool (!(x37.now))) (wt1 rfl rfl rfl rfl hb45) rfl rfl (x_not (b := x37.now) rfl rfl) ?_)
              refine l_of (s_val (v := .bool (!(x37.now))) (wt0 rfl) rfl rfl (x_pick_t rfl rfl hb45 rfl) ?_)
              refine l_of (s_val (v := .bool (!(x37.now))) (wt0 rfl) rfl rfl (x_assign rfl rfl) ?_)
              refine g_nil ?_
              refine g_then ?_
              refine g_weak [(1, .slice q k d), (4, .slice p1 A.length c1), (5, .slice p2 B.length c2), (19, .pointer (some ⟨g38, 0, none⟩)), (70, .slice p n c), (71, .int .i64 ((n : Int))), (72, .int .i64 ((z : Int))), (76, .bool (!(x37.now)))] ⟨rfl, rfl, rfl, rfl, rfl, rfl, rfl, rfl, trivial⟩ ?_
              rcases Bool.eq_false_or_eq_true (x37.now) with hb46 | hb46
              · skip
                refine g_cond_f rfl (neg_of hb46) ?_
                refine g_seq ?_
                refine g_region ?_
                refine l_of (s_val (v := .slice q k d) (wt0 rfl) rfl rfl (x_move rfl rfl) ?_)
                refine l_of (s_val (v := .pointer (some ⟨g38, 0, none⟩)) (wt0 rfl) rfl rfl (x_fieldAddr rfl rfl fo30_0 rfl) ?_)
                refine l_of (s_val (v := .int .i64 (x37.id)) (wt0 rfl) rfl rfl (x_load1 H44 0 rfl rfl Try.underlying3 rfl rfl rfl) ?_)
                refine l_of (s_call (wt0 rfl) (x_call' rfl rfl cl30) (in_r m q k d x37.id (by omega) _ (H44.exReads (k := 3) rfl hq (fun _ _ _ h => h))) ?_)
                rintro _ wq47 ⟨rfl, H48⟩
                replace H48 : S wq47 [Ob g38 (.cells #[.int .i64 (x37.id), .bool x37.intr, .bool x37.chk, .int .i64 (x37.frm), .int .i64 (x37.to), .int .i64 (x37.lt), .int .i64 (x37.since), .bool x37.snb, .bool x37.now, .bool x37.seed] 30 (0, 0)), Rw 3 1 p1 A.length c1 (fl intL A), Rw 3 1 p2 B.length c2 (fl intL B), Old w no] := H44.absorb (new := []) H48
                refine b_ret rfl rfl ?_
                refine l_of (s_val (v := .bool (!((decide (x37.id ∈ m))))) (wt0 rfl) rfl rfl (x_not (b := (decide (x37.id ∈ m))) rfl rfl) ?_)
                refine l_of (s_val (v := .bool (!((decide (x37.id ∈ m))))) (wt0 rfl) rfl rfl (x_move rfl rfl) ?_)
                refine l_of (s_not (wn1 rfl rfl rfl rfl (neg_of hb45)) rfl rfl ?_)
                refine l_of (s_not (wn1 rfl rfl rfl rfl (neg_of hb45)) rfl rfl ?_)
                refine l_of (s_val (v := .bool false) (wt0 rfl) rfl rfl (x_pick_f rfl rfl (neg_of hb45) rfl) ?_)
                refine l_of (s_val (v := .bool false) (wt0 rfl) rfl rfl (x_assign rfl rfl) ?_)
                refine g_nil ?_
                refine g_then ?_
                refine g_cond_f rfl rfl ?_
                refine g_skip ?_
                refine g_in ?_
                refine g_in ?_
                refine g_then ?_
                refine g_weak [(1, .slice q k d), (4, .slice p1 A.length c1), (5, .slice p2 B.length c2), (70, .slice p n c), (71, .int .i64 ((n : Int))), (72, .int .i64 ((z : Int)))] ⟨rfl, rfl, rfl, rfl, rfl, rfl, trivial⟩ ?_
                refine g_region ?_
                refine l_of (s_val (v := .int .i64 (((z + 1 : Nat) : Int))) (wt0 rfl) rfl rfl (x_bin rfl rfl rfl (b_add (by rw [w64 (by omega)]; omega))) ?_)
                refine l_of (s_val (v := .int .i64 (((z + 1 : Nat) : Int))) (wt0 rfl) rfl rfl (x_move rfl rfl) ?_)
                refine g_nil ?_
                refine g_then ?_
                refine g_round (i := (z, p1, c1, A, p2, c2, B)) ((z + 1), p1, c1, A, p2, c2, B) ?_ ?_ ?_
                · exact ⟨rfl, rfl, rfl, rfl, rfl, rfl, trivial⟩
                · exact ⟨by omega, (by rw [onid_nxt hx37, ← hA]; simp [hb45, hb46]), (by rw [onid_nxt hx37, ← hB]; simp [hb45, hb46]), (by first | omega | (simp only [List.length_append, List.length_cons, List.length_nil]; omega)), (by first | omega | (simp only [List.length_append, List.length_cons, List.length_nil]; omega)), (H48.takes [1, 2, 3] (by decide))⟩
                · (try dsimp only); omega
              · skip
                refine g_cond_t rfl (neg_of hb46) ?_
                refine g_region ?_
                refine l_of (s_val (v := .slice p1 A.length c1) (wt0 rfl) rfl rfl (x_move rfl rfl) ?_)
                refine l_of (s_val (v := .pointer (some ⟨g38, 0, none⟩)) (wt0 rfl) rfl rfl (x_fieldAddr rfl rfl fo30_0 rfl) ?_)
                refine l_of (s_val (v := .int .i64 (x37.id)) (wt0 rfl) rfl rfl (x_load1 H44 0 rfl rfl Try.underlying3 rfl rfl rfl) ?_)
                refine l_of (s_buildSlice H44 (wt0 rfl) rfl rfl rfl (vs := [.int .i64 (x37.id)]) rfl Try.underlying23 sz3 ze3 rfl rfl (cells := #[.int .i64 (x37.id)]) (by kernel_rfl) ?_)
                intro g49 wq50 H51
                have hln56a := (H51.rwReads (k := 2) rfl).lenL intE
                have hln56 : (A ++ [x37.id]).length = A.length + 1 := by simp only [List.length_append, List.length_cons, List.length_nil] <;> omega
                refine l_of (s_appBn (m := 1) (l := A) (l2 := [x37.id]) intE H51 2 (j0 := 0) rfl rfl ⟨rfl, Nat.le_refl _⟩ (wt0 rfl) rfl rfl rfl rfl rfl rfl Try.underlying23 inf3 rfl (by decide) (by omega) ?_)
                intro p52 c53 wq54 H55
                replace H55 : S wq54 [Ob g49 (.cells #[.int .i64 (x37.id)] 3 (0, 0)), Ob g38 (.cells #[.int .i64 (x37.id), .bool x37.intr, .bool x37.chk, .int .i64 (x37.frm), .int .i64 (x37.to), .int .i64 (x37.lt), .int .i64 (x37.since), .bool x37.snb, .bool x37.now, .bool x37.seed] 30 (0, 0)), Rw 3 1 p52 ((A ++ [x37.id]).length) c53 (fl intL (A ++ [x37.id])), Rw 3 1 p2 B.length c2 (fl intL B), Old w no] := H55
                refine l_of (s_val (v := .slice p52 ((A ++ [x37.id]).length) c53) (wt0 rfl) rfl rfl (x_assign rfl rfl) ?_)
                refine g_nil ?_
                refine g_in ?_
                refine g_in ?_
                refine g_then ?_
                refine g_region ?_
                refine l_of (s_val (v := .int .i64 (((z + 1 : Nat) : Int))) (wt0 rfl) rfl rfl (x_bin rfl rfl rfl (b_add (by rw [w64 (by omega)]; omega))) ?_)
                refine l_of (s_val (v := .int .i64 (((z + 1 : Nat) : Int))) (wt0 rfl) rfl rfl (x_move rfl rfl) ?_)
                refine g_nil ?_
                refine g_then ?_
                refine g_round (i := (z, p1, c1, A, p2, c2, B)) ((z + 1), p52, c53, (A ++ [x37.id]), p2, c2, B) ?_ ?_ ?_
                · exact ⟨rfl, rfl, rfl, rfl, rfl, rfl, trivial⟩
                · exact ⟨by omega, (by rw [onid_nxt hx37, ← hA]; simp [hb45, hb46]), (by rw [onid_nxt hx37, ← hB]; simp [hb45, hb46]), (by first | omega | (simp only [List.length_append, List.length_cons, List.length_nil]; omega)), (by first | omega | (simp only [List.length_append, List.length_cons, List.length_nil]; omega)), (H55.takes [2, 3, 4] (by decide))⟩
                · (try dsimp only); omega
            · skip
              refine l_of (s_not (wn1 rfl rfl rfl rfl hb45) rfl rfl ?_)
              refine l_of (s_not (wn1 rfl rfl rfl rfl hb45) rfl rfl ?_)
              refine l_of (s_not (wn1 rfl rfl rfl rfl hb45) rfl rfl ?_)
              refine l_of (s_val (v := .bool false) (wt0 rfl) rfl rfl (x_pick_f rfl rfl hb45 rfl) ?_)
              refine l_of (s_val (v := .bool false) (wt0 rfl) rfl rfl (x_assign rfl rfl) ?_)
              refine g_nil ?_
              refine g_then ?_
              refine g_weak [(1, .slice q k d), (4, .slice p1 A.length c1), (5, .slice p2 B.length c2), (19, .pointer (some ⟨g38, 0, none⟩)), (70, .slice p n c), (71, .int .i64 ((n : Int))), (72, .int .i64 ((z : Int))), (76, .bool false)] ⟨rfl, rfl, rfl, rfl, rfl, rfl, rfl, rfl, trivial⟩ ?_
              refine g_cond_f rfl rfl ?_
              refine g_seq ?_
              refine g_region ?_
              refine l_of (s_val (v := .slice q k d) (wt0 rfl) rfl rfl (x_move rfl rfl) ?_)
              refine l_of (s_val (v := .pointer (some ⟨g38, 0, none⟩)) (wt0 rfl) rfl rfl (x_fieldAddr rfl rfl fo30_0 rfl) ?_)
              refine l_of (s_val (v := .int .i64 (x37.id)) (wt0 rfl) rfl rfl (x_load1 H44 0 rfl rfl Try.underlying3 rfl rfl rfl) ?_)
              refine l_of (s_call (wt0 rfl) (x_call' rfl rfl cl30) (in_r m q k d x37.id (by omega) _ (H44.exReads (k := 3) rfl hq (fun _ _ _ h => h))) ?_)
              rintro _ wq57 ⟨rfl, H58⟩
              replace H58 : S wq57 [Ob g38 (.cells #[.int .i64 (x37.id), .bool x37.intr, .bool x37.chk, .int .i64 (x37.frm), .int .i64 (x37.to), .int .i64 (x37.lt), .int .i64 (x37.since), .bool x37.snb, .bool x37.now, .bool x37.seed] 30 (0, 0)), Rw 3 1 p1 A.length c1 (fl intL A), Rw 3 1 p2 B.length c2 (fl intL B), Old w no] := H44.absorb (new := []) H58
              refine b_ret rfl rfl ?_
              refine l_of (s_val (v := .bool (!((decide (x37.id ∈ m))))) (wt0 rfl) rfl rfl (x_not (b := (decide (x37.id ∈ m))) rfl rfl) ?_)
              refine l_of (s_val (v := .bool (!((decide (x37.id ∈ m))))) (wt0 rfl) rfl rfl (x_move rfl rfl) ?_)
              refine l_of (s_val (v := .pointer (some ⟨g38, 8, none⟩)) (wt1 rfl rfl rfl rfl (neg_of hb45)) rfl rfl (x_fieldAddr rfl rfl fo30_8 rfl) ?_)
              refine l_of (s_val (v := .bool x37.now) (wt1 rfl rfl rfl rfl (neg_of hb45)) rfl rfl (x_load1 H58 0 rfl rfl Try.underlying4 rfl rfl rfl) ?_)
              refine l_of (s_val (v := .bool x37.now) (wt0 rfl) rfl rfl (x_pick_t rfl rfl (neg_of hb45) rfl) ?_)
              refine l_of (s_val (v := .bool x37.now) (wt0 rfl) rfl rfl (x_assign rfl rfl) ?_)
              refine g_nil ?_
              refine g_then ?_
              rcases Bool.eq_false_or_eq_true (x37.now) with hb59 | hb59
              · skip
                refine g_cond_t rfl hb59 ?_
                refine g_region ?_
                refine l_of (s_val (v := .slice p2 B.length c2) (wt0 rfl) rfl rfl (x_move rfl rfl) ?_)
                refine l_of (s_val (v := .pointer (some ⟨g38, 0, none⟩)) (wt0 rfl) rfl rfl (x_fieldAddr rfl rfl fo30_0 rfl) ?_)
                refine l_of (s_val (v := .int .i64 (x37.id)) (wt0 rfl) rfl rfl (x_load1 H58 0 rfl rfl Try.underlying3 rfl rfl rfl) ?_)
                refine l_of (s_buildSlice H58 (wt0 rfl) rfl rfl rfl (vs := [.int .i64 (x37.id)]) rfl Try.underlying23 sz3 ze3 rfl rfl (cells := #[.int .i64 (x37.id)]) (by kernel_rfl) ?_)
                intro g60 wq61 H62
                have hln67a := (H62.rwReads (k := 3) rfl).lenL intE
                have hln67 : (B ++ [x37.id]).length = B.length + 1 := by simp only [List.length_append, List.length_cons, List.length_nil] <;> omega
                refine l_of (s_appBn (m := 1) (l := B) (l2 := [x37.id]) intE H62 3 (j0 := 0) rfl rfl ⟨rfl, Nat.le_refl _⟩ (wt0 rfl) rfl rfl rfl rfl rfl rfl Try.underlying23 inf3 rfl (by decide) (by omega) ?_)
                intro p63 c64 wq65 H66
                replace H66 : S wq65 [Ob g60 (.cells #[.int .i64 (x37.id)] 3 (0, 0)), Ob g38 (.cells #[.int .i64 (x37.id), .bool x37.intr, .bool x37.chk, .int .i64 (x37.frm), .int .i64 (x37.to), .int .i64 (x37.lt), .int .i64 (x37.since), .bool x37.snb, .bool x37.now, .bool x37.seed] 30 (0, 0)), Rw 3 1 p1 A.length c1 (fl intL A), Rw 3 1 p63 ((B ++ [x37.id]).length) c64 (fl intL (B ++ [x37.id])), Old w no] := H66
                refine l_of (s_val (v := .slice p63 ((B ++ [x37.id]).length) c64) (wt0 rfl) rfl rfl (x_assign rfl rfl) ?_)
                refine g_nil ?_
                refine g_in ?_
                refine g_in ?_
                refine g_then ?_
                refine g_weak [(1, .slice q k d), (4, .slice p1 A.length c1), (5, .slice p63 ((B ++ [x37.id]).length) c64), (70, .slice p n c), (71, .int .i64 ((n : Int))), (72, .int .i64 ((z : Int)))] ⟨rfl, rfl, rfl, rfl, rfl, rfl, trivial⟩ ?_
                refine g_region ?_
                refine l_of (s_val (v := .int .i64 (((z + 1 : Nat) : Int))) (wt0 rfl) rfl rfl (x_bin rfl rfl rfl (b_add (by rw [w64 (by omega)]; omega))) ?_)
                refine l_of (s_val (v := .int .i64 (((z + 1 : Nat) : Int))) (wt0 rfl) rfl rfl (x_move rfl rfl) ?_)
                refine g_nil ?_
                refine g_then ?_
                refine g_round (i := (z, p1, c1, A, p2, c2, B)) ((z + 1), p1, c1, A, p63, c64, (B ++ [x37.id])) ?_ ?_ ?_
                · exact ⟨rfl, rfl, rfl, rfl, rfl, rfl, trivial⟩
                · exact ⟨by omega, (by rw [onid_nxt hx37, ← hA]; simp [hb45, hb59]), (by rw [onid_nxt hx37, ← hB]; simp [hb45, hb59]), (by first | omega | (simp only [List.length_append, List.length_cons, List.length_nil]; omega)), (by first | omega | (simp only [List.length_append, List.length_cons, List.length_nil]; omega)), (H66.takes [2, 3, 4] (by decide))⟩
                · (try dsimp only); omega
              · skip
                refine g_cond_f rfl hb59 ?_
                refine g_skip ?_
                refine g_in ?_
                refine g_in ?_
                refine g_then ?_
                refine g_weak [(1, .slice q k d), (4, .slice p1 A.length c1), (5, .slice p2 B.length c2), (70, .slice p n c), (71, .int .i64 ((n : Int))), (72, .int .i64 ((z : Int)))] ⟨rfl, rfl, rfl, rfl, rfl, rfl, trivial⟩ ?_
                refine g_region ?_
                refine l_of (s_val (v := .int .i64 (((z + 1 : Nat) : Int))) (wt0 rfl) rfl rfl (x_bin rfl rfl rfl (b_add (by rw [w64 (by omega)]; omega))) ?_)
                refine l_of (s_val (v := .int .i64 (((z + 1 : Nat) : Int))) (wt0 rfl) rfl rfl (x_move rfl rfl) ?_)
                refine g_nil ?_
                refine g_then ?_
                refine g_round (i := (z, p1, c1, A, p2, c2, B)) ((z + 1), p1, c1, A, p2, c2, B) ?_ ?_ ?_
                · exact ⟨rfl, rfl, rfl, rfl, rfl, rfl, trivial⟩
                · exact ⟨by omega, (by rw [onid_nxt hx37, ← hA]; simp [hb45, hb59]), (by rw [onid_nxt hx37, ← hB]; simp [hb45, hb59]), (by first | omega | (simp only [List.length_append, List.length_cons, List.length_nil]; omega)), (by first | omega | (simp only [List.length_append, List.length_cons, List.length_nil]; omega)), (H58.takes [1, 2, 3] (by decide))⟩
                · (try dsimp only); omega
          · skip
            refine g_cond_f rfl (decide_eq_false hb36) ?_
            refine g_exit ?_
            refine g_then_exit ?_
            refine g_then_exit ?_
            refine g_in_hit ?_
            refine g_then ?_
            refine g_seq ?_
            refine g_region ?_
            refine l_of (s_val (v := .slice p1 A.length c1) (wt0 rfl) rfl rfl (x_move rfl rfl) ?_)
            refine l_of (s_call (wt0 rfl) (x_call' rfl rfl cl31) (asc_r A p1 A.length c1 (by omega) _ (H35.takes [0] (by decide))) ?_)
            rintro _ wq68 ⟨rfl, H69⟩
            replace H69 : S wq68 [Rw 3 1 p1 A.length c1 (fl intL (sortI A)), Rw 3 1 p2 B.length c2 (fl intL B), Old w no] := H35.absorbI (new := [Rw 3 1 p1 A.length c1 (fl intL (sortI A))]) [0] H69
            refine b_ret rfl rfl ?_
            refine l_of (s_val (v := .slice p2 B.length c2) (wt0 rfl) rfl rfl (x_move rfl rfl) ?_)
            refine l_of (s_call (wt0 rfl) (x_call' rfl rfl cl31) (asc_r B p2 B.length c2 (by omega) _ (H69.takes [1] (by decide))) ?_)
            rintro _ wq70 ⟨rfl, H71⟩
            replace H71 : S wq70 [Rw 3 1 p2 B.length c2 (fl intL (sortI B)), Rw 3 1 p1 A.length c1 (fl intL (sortI A)), Old w no] := H69.absorbI (new := [Rw 3 1 p2 B.length c2 (fl intL (sortI B))]) [1] H71
            refine b_ret rfl rfl ?_
            refine l_of (s_val (v := .slice p1 A.length c1) (wt0 rfl) rfl rfl (x_assign rfl rfl) ?_)
            refine l_of (s_val (v := .slice p2 B.length c2) (wt0 rfl) rfl rfl (x_assign rfl rfl) ?_)
            refine l_of (s_val (v := .int .i64 0) (wt0 rfl) rfl rfl (x_assign rfl rfl) ?_)
            refine g_nil ?_
            refine g_then ?_
            refine g_ret ?_
            refine fin_ret [.tmp 4, .tmp 5, .tmp 6] [.slice p1 A.length c1, .slice p2 B.length c2, .int .i64 0] rfl ⟨rfl, rfl, rfl, trivial⟩ ?_
            rw [List.take_of_length_le (by omega)] at hnd
            rw [List.take_of_length_le (by omega)] at hng
            rw [List.take_of_length_le (by omega)] at hin
            rw [List.take_of_length_le (by omega)] at hA hB
            have hv : chgE l m = 0 := chg_0 (by omega) hnd hng hin
            obtain ⟨h1, h2⟩ := chg_z hv
            have e1 : sortI A = onL l m := by rw [hA]; rfl
            have e2 : sortI B = offL l m := by rw [hB]; rfl
            have g1 : (onL l m).length = A.length := by rw [← e1, sortI_len]
            have g2 : (offL l m).length = B.length := by rw [← e2, sortI_len]
            rw [h1, h2, hv, g1, g2, ← e1, ← e2]
            exact ⟨_, _, _, _, rfl, H71.takes [1, 0, 2] (by decide)⟩
  · skip
    refine g_cond_t rfl (nt hb3) ?_
    refine g_seq ?_
    refine g_region ?_
    refine l_of (s_val (v := .int .i64 ((askE (⟨#[]⟩ : ByteArray) l))) (wt0 rfl) rfl rfl (x_move rfl rfl) ?_)
    refine l_of (s_val (v := .slice none 0 0) (wt0 rfl) rfl rfl (x_assign rfl rfl) ?_)
    refine l_of (s_val (v := .slice none 0 0) (wt0 rfl) rfl rfl (x_assign rfl rfl) ?_)
    refine l_of (s_val (v := .int .i64 ((askE (⟨#[]⟩ : ByteArray) l))) (wt0 rfl) rfl rfl (x_assign rfl rfl) ?_)
    refine g_nil ?_
    refine g_then ?_
    refine g_ret ?_
    refine g_then_ret ?_
    refine fin_ret [.tmp 4, .tmp 5, .tmp 6] [.slice none 0 0, .slice none 0 0, .int .i64 ((askE (⟨#[]⟩ : ByteArray) l))] rfl ⟨rfl, rfl, rfl, trivial⟩ ?_
    have hv : chgE l m = (askE (⟨#[]⟩ : ByteArray) l) := chg_a hb3
    obtain ⟨h1, h2⟩ := chg_v hv hb3
    rw [h1, h2, hv]
    exact ⟨none, 0, none, 0, rfl, ((H2.takes [0] (by decide)).nilFl 3 1 intL).nilFl 3 1 intL⟩
end Go.Proofs.Ythfglkkjkpdkpaa
