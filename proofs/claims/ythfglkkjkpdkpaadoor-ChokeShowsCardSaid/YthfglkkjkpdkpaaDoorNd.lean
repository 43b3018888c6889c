import Derived.Test.YthfglkkjkpdkpaaDoorNc
set_option linter.unusedSimpArgs false
set_option linter.unusedVariables false
namespace Go.Proofs.YthfglkkjkpdkpaaDoor
open Go.RowKit

theorem cl24 : callable Tryd.prog 24 = true := by kernel_rfl
theorem cl33 : callable Tryd.prog 33 = true := by kernel_rfl
theorem cl38 : callable Tryd.prog 38 = true := by kernel_rfl
theorem cl39 : callable Tryd.prog 39 = true := by kernel_rfl
theorem fo46_0 : foO Tryd.prog 46 0 = some 0 := by kernel_rfl
theorem fo46_1 : foO Tryd.prog 46 1 = some 1 := by kernel_rfl
theorem fo49_0 : foO Tryd.prog 49 0 = some 0 := by kernel_rfl
theorem fo49_2 : foO Tryd.prog 49 2 = some 3 := by kernel_rfl
theorem fo58_0 : foO Tryd.prog 58 0 = some 0 := by kernel_rfl
theorem ze53 : zeO Tryd.prog 53 = some (.pointer none) := by kernel_rfl
theorem ex_cast {P : Program} {N : Nat} {f : Fr} {ds : List Deferred} {w w' : World} {o : Oper} {v v' : Value} (h : Ex P N f ds o w v w') (e : v = v') : Ex P N f ds o w v' w' := e ▸ h
theorem isS_n {α β : Type} {M : α → Option β} {x : α} (h : M x = none) : (M x).isSome = false := by rw [h]; rfl
theorem isS_s {α β : Type} {M : α → Option β} {x : α} {b : β} (h : M x = some b) : (M x).isSome = true := by rw [h]; rfl
theorem look_pn {M : Int → Option Nat} {x : Int} (h : M x = none) : ((M x).map ptV).getD (.pointer none) = .pointer none := by rw [h]; rfl
theorem look_ps {M : Int → Option Nat} {x : Int} {b : Nat} (h : M x = some b) : ((M x).map ptV).getD (.pointer none) = .pointer (some ⟨b, 0, none⟩) := by rw [h]; rfl
def ask7 (id : Int) : Int := if id < 0 then 7 else 0
set_option maxRecDepth 20000 in
set_option maxHeartbeats 4000000 in
set_option maxRecDepth 20000 in
set_option maxHeartbeats 4000000 in
theorem asked_s (g : Nat) (id : Int)  (w : World) : Calls Tryd.prog 39 #[.pointer (some ⟨g, 0, none⟩), .int .i64 id] w fun e w' => e = .returned (.int .i64 (ask7 id)) ∧ S w' [Old w no] := by
  have H0 := S.old w
  refine enter 11 Tryd.func39 rfl rfl rfl ?_
  refine g_weak [(0, .pointer (some ⟨g, 0, none⟩)), (1, .int .i64 id)] ⟨rfl, rfl, trivial⟩ ?_
  refine g_seq ?_
  refine g_region ?_
  refine l_of (s_val (v := .int .i64 0) (wt0 rfl) rfl rfl (x_assign rfl rfl) ?_)
  refine g_nil ?_
  refine g_then ?_
  refine g_seq ?_
  refine g_block ?_
  refine g_seq ?_
  refine g_region ?_
  refine l_of (s_val (v := .pointer (some ⟨g, 0, none⟩)) (wt0 rfl) rfl rfl (x_move rfl rfl) ?_)
  refine l_of (s_val (v := .bool false) (wt0 rfl) rfl rfl (x_bin rfl rfl rfl (b_eqN (r := false) Tryd.underlying24 rfl)) ?_)
  refine l_of (s_val (v := .bool false) (wt0 rfl) rfl rfl (x_assign rfl rfl) ?_)
  refine g_nil ?_
  refine g_then ?_
  refine g_cond_f rfl rfl ?_
  refine g_seq ?_
  refine g_region ?_
  refine l_of (s_val (v := .int .i64 id) (wt0 rfl) rfl rfl (x_move rfl rfl) ?_)
  refine l_of (s_val (v := .bool (decide ((id : Int) < 0))) (wt0 rfl) rfl rfl (x_bin rfl rfl rfl b_lss) ?_)
  refine l_of (s_val (v := .bool (decide ((id : Int) < 0))) (wt0 rfl) rfl rfl (x_assign rfl rfl) ?_)
  refine g_nil ?_
  refine g_then ?_
  by_cases hb1 : (id : Int) < 0
  · skip
    refine g_cond_t rfl (decide_eq_true hb1) ?_
    refine g_seq ?_
    refine g_region ?_
    refine l_of (s_val (v := .int .i64 7) (wt0 rfl) rfl rfl (x_assign rfl rfl) ?_)
    refine g_nil ?_
    refine g_then ?_
    refine g_ret ?_
    refine g_in_ret ?_
    refine g_then_ret ?_
    refine fin_ret [.tmp 4] [.int .i64 7] rfl ⟨rfl, trivial⟩ ?_
    exact ⟨by unfold ask7; simp [hb1, tupled], H0.mask [true]⟩
  · skip
    refine g_cond_f rfl (decide_eq_false hb1) ?_
    refine g_skip ?_
    refine g_in ?_
    refine g_then ?_
    refine g_seq ?_
    refine g_region ?_
    refine l_of (s_val (v := .int .i64 0) (wt0 rfl) rfl rfl (x_assign rfl rfl) ?_)
    refine g_nil ?_
    refine g_then ?_
    refine g_ret ?_
    refine fin_ret [.tmp 4] [.int .i64 0] rfl ⟨rfl, trivial⟩ ?_
    exact ⟨by unfold ask7; simp [hb1, tupled], H0.mask [true]⟩
set_option maxRecDepth 20000 in
set_option maxHeartbeats 4000000 in
set_option maxRecDepth 20000 in
set_option maxHeartbeats 4000000 in
theorem find_a (g mg : Nat) (dp : Option Addr) (dc : Nat) (ep : Option Addr) (ec : Nat) (seed : ByteArray) (n : Nat) (M : Int → Option Nat) (id : Int) (hid : okI id) (hM : M id = none)  (w : World) (HS : S w [Ob g (.cells #[.slice dp n dc, .slice ep n ec, .string seed, .map (some mg)] 49 (0, 0)), Mp (Value.int .i64) ptV okI mg M]) : Calls Tryd.prog 24 #[.pointer (some ⟨g, 0, none⟩), .int .i64 id] w fun e w' => (∃ b : Nat, 0 ≤ id ∧ M id = some b ∧ e = .returned (.tuple #[.pointer (some ⟨b, 0, none⟩), .int .i64 0]) ∧ S w' ([Ob g (.cells #[.slice dp n dc, .slice ep n ec, .string seed, .map (some mg)] 49 (0, 0)), Mp (Value.int .i64) ptV okI mg M] ++ [Old w (fps [Ob g (.cells #[.slice dp n dc, .slice ep n ec, .string seed, .map (some mg)] 49 (0, 0)), Mp (Value.int .i64) ptV okI mg M])])) ∨ (id < 0 ∧ e = .returned (.tuple #[.pointer none, .int .i64 7]) ∧ S w' ([Ob g (.cells #[.slice dp n dc, .slice ep n ec, .string seed, .map (some mg)] 49 (0, 0)), Mp (Value.int .i64) ptV okI mg M] ++ [Old w (fps [Ob g (.cells #[.slice dp n dc, .slice ep n ec, .string seed, .map (some mg)] 49 (0, 0)), Mp (Value.int .i64) ptV okI mg M])])) ∨ (0 ≤ id ∧ M id = none ∧ e = .returned (.tuple #[.pointer none, .int .i64 8]) ∧ S w' ([Ob g (.cells #[.slice dp n dc, .slice ep n ec, .string seed, .map (some mg)] 49 (0, 0)), Mp (Value.int .i64) ptV okI mg M] ++ [Old w (fps [Ob g (.cells #[.slice dp n dc, .slice ep n ec, .string seed, .map (some mg)] 49 (0, 0)), Mp (Value.int .i64) ptV okI mg M])])) := by
  have H00 := HS.beginI
  have H0 : S w ([Ob g (.cells #[.slice dp n dc, .slice ep n ec, .string seed, .map (some mg)] 49 (0, 0)), Mp (Value.int .i64) ptV okI mg M, Old w (fps [Ob g (.cells #[.slice dp n dc, .slice ep n ec, .string seed, .map (some mg)] 49 (0, 0)), Mp (Value.int .i64) ptV okI mg M])]) := H00
  refine enter 27 Tryd.func24 rfl rfl rfl ?_
  refine g_weak [(0, .pointer (some ⟨g, 0, none⟩)), (1, .int .i64 id)] ⟨rfl, rfl, trivial⟩ ?_
  refine g_seq ?_
  refine g_region ?_
  refine l_of (s_val (v := .pointer none) (wt0 rfl) rfl rfl (x_assign rfl rfl) ?_)
  refine l_of (s_val (v := .int .i64 0) (wt0 rfl) rfl rfl (x_assign rfl rfl) ?_)
  refine g_nil ?_
  refine g_then ?_
  refine g_seq ?_
  refine g_seq ?_
  refine g_region ?_
  refine l_of (s_val (v := .pointer (some ⟨g, 0, none⟩)) (wt0 rfl) rfl rfl (x_move rfl rfl) ?_)
  refine l_of (s_val (v := .int .i64 id) (wt0 rfl) rfl rfl (x_move rfl rfl) ?_)
  refine l_of (s_call (wt0 rfl) (x_call' rfl rfl cl39) (asked_s g id _) ?_)
  rintro _ wq1 ⟨rfl, H2⟩
  replace H2 : S wq1 [Ob g (.cells #[.slice dp n dc, .slice ep n ec, .string seed, .map (some mg)] 49 (0, 0)), Mp (Value.int .i64) ptV okI mg M, Old w (fps [Ob g (.cells #[.slice dp n dc, .slice ep n ec, .string seed, .map (some mg)] 49 (0, 0)), Mp (Value.int .i64) ptV okI mg M])] := H0.absorb (new := []) H2
  refine b_ret rfl rfl ?_
  refine l_of (s_val (v := .int .i64 ((ask7 id))) (wt0 rfl) rfl rfl (x_assign rfl rfl) ?_)
  refine g_nil ?_
  refine g_then ?_
  refine g_seq ?_
  refine g_region ?_
  refine l_of (s_val (v := .int .i64 ((ask7 id))) (wt0 rfl) rfl rfl (x_move rfl rfl) ?_)
  refine l_of (s_val (v := .bool (!decide (((ask7 id) : Int) = 0))) (wt0 rfl) rfl rfl (x_bin rfl rfl rfl b_neq) ?_)
  refine g_nil ?_
  refine g_then ?_
  by_cases hb3 : ((ask7 id) : Int) = 0
  · skip
    refine g_cond_f rfl (nf hb3) ?_
    refine g_skip ?_
    refine g_then ?_
    refine g_seq ?_
    refine g_region ?_
    refine l_of (s_val (v := .pointer (some ⟨g, 0, none⟩)) (wt0 rfl) rfl rfl (x_move rfl rfl) ?_)
    refine l_of (s_val (v := .pointer (some ⟨g, 0, none⟩)) (wt0 rfl) rfl rfl (x_nilCheck rfl rfl) ?_)
    refine l_of (s_val (v := .pointer (some ⟨g, 3, none⟩)) (wt0 rfl) rfl rfl (x_fieldAddr rfl rfl fo49_2 rfl) ?_)
    refine l_of (s_val (v := .map (some mg)) (wt0 rfl) rfl rfl (x_load1 H2 0 rfl rfl Tryd.underlying47 rfl rfl rfl) ?_)
    refine l_of (s_val (v := .int .i64 id) (wt0 rfl) rfl rfl (x_move rfl rfl) ?_)
    refine l_of (s_val (v := .tuple #[.pointer none, .bool ((M id).isSome)]) (wt0 rfl) rfl rfl (ex_cast (x_lookup (x := id) (intTy Tryd.underlying47 Tryd.underlying3) H2 1 rfl rfl rfl rfl (hid) ze53) (by rw [look_pn hM])) ?_)
    refine l_of (s_val (v := .tuple #[.pointer none, .bool ((M id).isSome)]) (wt0 rfl) rfl rfl (x_move rfl rfl) ?_)
    refine l_of (s_val (v := .pointer none) (wt0 rfl) rfl rfl (x_extract rfl rfl rfl) ?_)
    refine l_of (s_val (v := .bool ((M id).isSome)) (wt0 rfl) rfl rfl (x_extract rfl rfl rfl) ?_)
    refine l_of (s_val (v := .pointer none) (wt0 rfl) rfl rfl (x_assign rfl rfl) ?_)
    refine l_of (s_val (v := .bool ((M id).isSome)) (wt0 rfl) rfl rfl (x_assign rfl rfl) ?_)
    refine g_nil ?_
    refine g_then ?_
    refine g_weak [(7, .pointer none), (8, .bool ((M id).isSome))] ⟨rfl, rfl, trivial⟩ ?_
    refine g_seq ?_
    refine g_seq ?_
    refine g_region ?_
    refine l_of (s_val (v := .bool ((M id).isSome)) (wt0 rfl) rfl rfl (x_move rfl rfl) ?_)
    refine l_of (s_val (v := .bool (!((M id).isSome))) (wt0 rfl) rfl rfl (x_not (b := (M id).isSome) rfl rfl) ?_)
    refine g_nil ?_
    refine g_then ?_
    refine g_cond_t rfl (neg_of (isS_n hM)) ?_
    refine g_seq ?_
    refine g_region ?_
    refine l_of (s_val (v := .pointer none) (wt0 rfl) rfl rfl (x_assign rfl rfl) ?_)
    refine l_of (s_val (v := .int .i64 8) (wt0 rfl) rfl rfl (x_assign rfl rfl) ?_)
    refine g_nil ?_
    refine g_then ?_
    refine g_ret ?_
    refine g_then_ret ?_
    refine fin_ret [.tmp 4, .tmp 5] [.pointer none, .int .i64 8] rfl ⟨rfl, rfl, trivial⟩ ?_
    have h7 : ¬ id < 0 := by unfold ask7 at *; split at * <;> omega
    exact .inr (.inr ⟨by omega, hM, rfl, H2.takes [0, 1, 2] (by decide)⟩)
  · skip
    refine g_cond_t rfl (nt hb3) ?_
    refine g_seq ?_
    refine g_region ?_
    refine l_of (s_val (v := .int .i64 ((ask7 id))) (wt0 rfl) rfl rfl (x_move rfl rfl) ?_)
    refine l_of (s_val (v := .pointer none) (wt0 rfl) rfl rfl (x_assign rfl rfl) ?_)
    refine l_of (s_val (v := .int .i64 ((ask7 id))) (wt0 rfl) rfl rfl (x_assign rfl rfl) ?_)
    refine g_nil ?_
    refine g_then ?_
    refine g_ret ?_
    refine g_then_ret ?_
    refine fin_ret [.tmp 4, .tmp 5] [.pointer none, .int .i64 ((ask7 id))] rfl ⟨rfl, rfl, trivial⟩ ?_
    have h7 : id < 0 := by unfold ask7 at *; split at * <;> omega
    have h8 : ask7 id = 7 := if_pos h7
    rw [h8]
    exact .inr (.inl ⟨h7, rfl, H2.takes [0, 1, 2] (by decide)⟩)
set_option maxRecDepth 20000 in
set_option maxHeartbeats 4000000 in
set_option maxRecDepth 20000 in
set_option maxHeartbeats 4000000 in
theorem find_b (g mg : Nat) (dp : Option Addr) (dc : Nat) (ep : Option Addr) (ec : Nat) (seed : ByteArray) (n : Nat) (M : Int → Option Nat) (id : Int) (hid : okI id) (b : Nat) (hM : M id = some b)  (w : World) (HS : S w [Ob g (.cells #[.slice dp n dc, .slice ep n ec, .string seed, .map (some mg)] 49 (0, 0)), Mp (Value.int .i64) ptV okI mg M]) : Calls Tryd.prog 24 #[.pointer (some ⟨g, 0, none⟩), .int .i64 id] w fun e w' => (∃ b : Nat, 0 ≤ id ∧ M id = some b ∧ e = .returned (.tuple #[.pointer (some ⟨b, 0, none⟩), .int .i64 0]) ∧ S w' ([Ob g (.cells #[.slice dp n dc, .slice ep n ec, .string seed, .map (some mg)] 49 (0, 0)), Mp (Value.int .i64) ptV okI mg M] ++ [Old w (fps [Ob g (.cells #[.slice dp n dc, .slice ep n ec, .string seed, .map (some mg)] 49 (0, 0)), Mp (Value.int .i64) ptV okI mg M])])) ∨ (id < 0 ∧ e = .returned (.tuple #[.pointer none, .int .i64 7]) ∧ S w' ([Ob g (.cells #[.slice dp n dc, .slice ep n ec, .string seed, .map (some mg)] 49 (0, 0)), Mp (Value.int .i64) ptV okI mg M] ++ [Old w (fps [Ob g (.cells #[.slice dp n dc, .slice ep n ec, .string seed, .map (some mg)] 49 (0, 0)), Mp (Value.int .i64) ptV okI mg M])])) ∨ (0 ≤ id ∧ M id = none ∧ e = .returned (.tuple #[.pointer none, .int .i64 8]) ∧ S w' ([Ob g (.cells #[.slice dp n dc, .slice ep n ec, .string seed, .map (some mg)] 49 (0, 0)), Mp (Value.int .i64) ptV okI mg M] ++ [Old w (fps [Ob g (.cells #[.slice dp n dc, .slice ep n ec, .string seed, .map (some mg)] 49 (0, 0)), Mp (Value.int .i64) ptV okI mg M])])) := by
  have H00 := HS.beginI
  have H0 : S w ([Ob g (.cells #[.slice dp n dc, .slice ep n ec, .string seed, .map (some mg)] 49 (0, 0)), Mp (Value.int .i64) ptV okI mg M, Old w (fps [Ob g (.cells #[.slice dp n dc, .slice ep n ec, .string seed, .map (some mg)] 49 (0, 0)), Mp (Value.int .i64) ptV okI mg M])]) := H00
  refine enter 27 Tryd.func24 rfl rfl rfl ?_
  refine g_weak [(0, .pointer (some ⟨g, 0, none⟩)), (1, .int .i64 id)] ⟨rfl, rfl, trivial⟩ ?_
  refine g_seq ?_
  refine g_region ?_
  refine l_of (s_val (v := .pointer none) (wt0 rfl) rfl rfl (x_assign rfl rfl) ?_)
  refine l_of (s_val (v := .int .i64 0) (wt0 rfl) rfl rfl (x_assign rfl rfl) ?_)
  refine g_nil ?_
  refine g_then ?_
  refine g_seq ?_
  refine g_seq ?_
  refine g_region ?_
  refine l_of (s_val (v := .pointer (some ⟨g, 0, none⟩)) (wt0 rfl) rfl rfl (x_move rfl rfl) ?_)
  refine l_of (s_val (v := .int .i64 id) (wt0 rfl) rfl rfl (x_move rfl rfl) ?_)
  refine l_of (s_call (wt0 rfl) (x_call' rfl rfl cl39) (asked_s g id _) ?_)
  rintro _ wq1 ⟨rfl, H2⟩
  replace H2 : S wq1 [Ob g (.cells #[.slice dp n dc, .slice ep n ec, .string seed, .map (some mg)] 49 (0, 0)), Mp (Value.int .i64) ptV okI mg M, Old w (fps [Ob g (.cells #[.slice dp n dc, .slice ep n ec, .string seed, .map (some mg)] 49 (0, 0)), Mp (Value.int .i64) ptV okI mg M])] := H0.absorb (new := []) H2
  refine b_ret rfl rfl ?_
  refine l_of (s_val (v := .int .i64 ((ask7 id))) (wt0 rfl) rfl rfl (x_assign rfl rfl) ?_)
  refine g_nil ?_
  refine g_then ?_
  refine g_seq ?_
  refine g_region ?_
  refine l_of (s_val (v := .int .i64 ((ask7 id))) (wt0 rfl) rfl rfl (x_move rfl rfl) ?_)
  refine l_of (s_val (v := .bool (!decide (((ask7 id) : Int) = 0))) (wt0 rfl) rfl rfl (x_bin rfl rfl rfl b_neq) ?_)
  refine g_nil ?_
  refine g_then ?_
  by_cases hb3 : ((ask7 id) : Int) = 0
  · skip
    refine g_cond_f rfl (nf hb3) ?_
    refine g_skip ?_
    refine g_then ?_
    refine g_seq ?_
    refine g_region ?_
    refine l_of (s_val (v := .pointer (some ⟨g, 0, none⟩)) (wt0 rfl) rfl rfl (x_move rfl rfl) ?_)
    refine l_of (s_val (v := .pointer (some ⟨g, 0, none⟩)) (wt0 rfl) rfl rfl (x_nilCheck rfl rfl) ?_)
    refine l_of (s_val (v := .pointer (some ⟨g, 3, none⟩)) (wt0 rfl) rfl rfl (x_fieldAddr rfl rfl fo49_2 rfl) ?_)
    refine l_of (s_val (v := .map (some mg)) (wt0 rfl) rfl rfl (x_load1 H2 0 rfl rfl Tryd.underlying47 rfl rfl rfl) ?_)
    refine l_of (s_val (v := .int .i64 id) (wt0 rfl) rfl rfl (x_move rfl rfl) ?_)
    refine l_of (s_val (v := .tuple #[.pointer (some ⟨b, 0, none⟩), .bool ((M id).isSome)]) (wt0 rfl) rfl rfl (ex_cast (x_lookup (x := id) (intTy Tryd.underlying47 Tryd.underlying3) H2 1 rfl rfl rfl rfl (hid) ze53) (by rw [look_ps hM])) ?_)
    refine l_of (s_val (v := .tuple #[.pointer (some ⟨b, 0, none⟩), .bool ((M id).isSome)]) (wt0 rfl) rfl rfl (x_move rfl rfl) ?_)
    refine l_of (s_val (v := .pointer (some ⟨b, 0, none⟩)) (wt0 rfl) rfl rfl (x_extract rfl rfl rfl) ?_)
    refine l_of (s_val (v := .bool ((M id).isSome)) (wt0 rfl) rfl rfl (x_extract rfl rfl rfl) ?_)
    refine l_of (s_val (v := .pointer (some ⟨b, 0, none⟩)) (wt0 rfl) rfl rfl (x_assign rfl rfl) ?_)
    refine l_of (s_val (v := .bool ((M id).isSome)) (wt0 rfl) rfl rfl (x_assign rfl rfl) ?_)
    refine g_nil ?_
    refine g_then ?_
    refine g_weak [(7, .pointer (some ⟨b, 0, none⟩)), (8, .bool ((M id).isSome))] ⟨rfl, rfl, trivial⟩ ?_
    refine g_seq ?_
    refine g_seq ?_
    refine g_region ?_
    refine l_of (s_val (v := .bool ((M id).isSome)) (wt0 rfl) rfl rfl (x_move rfl rfl) ?_)
    refine l_of (s_val (v := .bool (!((M id).isSome))) (wt0 rfl) rfl rfl (x_not (b := (M id).isSome) rfl rfl) ?_)
    refine g_nil ?_
    refine g_then ?_
    refine g_cond_f rfl (neg_of (isS_s hM)) ?_
    refine g_skip ?_
    refine g_then ?_
    refine g_seq ?_
    refine g_region ?_
    refine l_of (s_val (v := .pointer (some ⟨b, 0, none⟩)) (wt0 rfl) rfl rfl (x_move rfl rfl) ?_)
    refine l_of (s_val (v := .pointer (some ⟨b, 0, none⟩)) (wt0 rfl) rfl rfl (x_assign rfl rfl) ?_)
    refine l_of (s_val (v := .int .i64 0) (wt0 rfl) rfl rfl (x_assign rfl rfl) ?_)
    refine g_nil ?_
    refine g_then ?_
    refine g_ret ?_
    refine fin_ret [.tmp 4, .tmp 5] [.pointer (some ⟨b, 0, none⟩), .int .i64 0] rfl ⟨rfl, rfl, trivial⟩ ?_
    have h7 : ¬ id < 0 := by unfold ask7 at *; split at * <;> omega
    exact .inl ⟨b, by omega, hM, rfl, H2.takes [0, 1, 2] (by decide)⟩
  · skip
    refine g_cond_t rfl (nt hb3) ?_
    refine g_seq ?_
    refine g_region ?_
    refine l_of (s_val (v := .int .i64 ((ask7 id))) (wt0 rfl) rfl rfl (x_move rfl rfl) ?_)
    refine l_of (s_val (v := .pointer none) (wt0 rfl) rfl rfl (x_assign rfl rfl) ?_)
    refine l_of (s_val (v := .int .i64 ((ask7 id))) (wt0 rfl) rfl rfl (x_assign rfl rfl) ?_)
    refine g_nil ?_
    refine g_then ?_
    refine g_ret ?_
    refine g_then_ret ?_
    refine fin_ret [.tmp 4, .tmp 5] [.pointer none, .int .i64 ((ask7 id))] rfl ⟨rfl, rfl, trivial⟩ ?_
    have h7 : id < 0 := by unfold ask7 at *; split at * <;> omega
    have h8 : ask7 id = 7 := if_pos h7
    rw [h8]
    exact .inr (.inl ⟨h7, rfl, H2.takes [0, 1, 2] (by decide)⟩)
theorem find_s (g mg : Nat) (dp : Option Addr) (dc : Nat) (ep : Option Addr) (ec : Nat) (seed : ByteArray) (n : Nat) (M : Int → Option Nat) (id : Int) (hid : okI id) (w : World) (HS : S w [Ob g (.cells #[.slice dp n dc, .slice ep n ec, .string seed, .map (some mg)] 49 (0, 0)), Mp (Value.int .i64) ptV okI mg M]) : Calls Tryd.prog 24 #[.pointer (some ⟨g, 0, none⟩), .int .i64 id] w fun e w' => (∃ b : Nat, 0 ≤ id ∧ M id = some b ∧ e = .returned (.tuple #[.pointer (some ⟨b, 0, none⟩), .int .i64 0]) ∧ S w' ([Ob g (.cells #[.slice dp n dc, .slice ep n ec, .string seed, .map (some mg)] 49 (0, 0)), Mp (Value.int .i64) ptV okI mg M] ++ [Old w (fps [Ob g (.cells #[.slice dp n dc, .slice ep n ec, .string seed, .map (some mg)] 49 (0, 0)), Mp (Value.int .i64) ptV okI mg M])])) ∨ (id < 0 ∧ e = .returned (.tuple #[.pointer none, .int .i64 7]) ∧ S w' ([Ob g (.cells #[.slice dp n dc, .slice ep n ec, .string seed, .map (some mg)] 49 (0, 0)), Mp (Value.int .i64) ptV okI mg M] ++ [Old w (fps [Ob g (.cells #[.slice dp n dc, .slice ep n ec, .string seed, .map (some mg)] 49 (0, 0)), Mp (Value.int .i64) ptV okI mg M])])) ∨ (0 ≤ id ∧ M id = none ∧ e = .returned (.tuple #[.pointer none, .int .i64 8]) ∧ S w' ([Ob g (.cells #[.slice dp n dc, .slice ep n ec, .string seed, .map (some mg)] 49 (0, 0)), Mp (Value.int .i64) ptV okI mg M] ++ [Old w (fps [Ob g (.cells #[.slice dp n dc, .slice ep n ec, .string seed, .map (some mg)] 49 (0, 0)), Mp (Value.int .i64) ptV okI mg M])])) := by
  cases hM : M id with
  | none => have := find_a g mg dp dc ep ec seed n M id hid hM w HS; rwa [hM] at this
  | some b => have := find_b g mg dp dc ep ec seed n M id hid b hM w HS; rwa [hM] at this
set_option maxRecDepth 20000 in
set_option maxHeartbeats 4000000 in
set_option maxRecDepth 20000 in
set_option maxHeartbeats 4000000 in
theorem told_s (j g mg : Nat) (dp : Option Addr) (dc : Nat) (ep : Option Addr) (ec : Nat) (seed : ByteArray) (n : Nat) (ps : List Pp) (hX : PI j (⟨seed, n, ps.map Pp.sh⟩ : SP)) (hj : j ≤ 1000) (id : Int) (hid : okI id)  (w : World) (HS : S w [(XM.I ⟨g, mg, dp, dc, ep, ec, seed, n, ps⟩)]) : Calls Tryd.prog 18 #[.pointer (some ⟨g, 0, none⟩), .int .i64 id] w fun e w' => ∃ p' c', e = .returned (.tuple #[.slice p' (toldV (⟨seed, n, ps.map Pp.sh⟩ : SP) id).length c', .int .i64 (findE (⟨seed, n, ps.map Pp.sh⟩ : SP) id)]) ∧ S w' ([Rw 3 1 p' (toldV (⟨seed, n, ps.map Pp.sh⟩ : SP) id).length c' (fl intL (toldV (⟨seed, n, ps.map Pp.sh⟩ : SP) id)), (XM.I ⟨g, mg, dp, dc, ep, ec, seed, n, ps⟩)] ++ [Old w (fps [(XM.I ⟨g, mg, dp, dc, ep, ec, seed, n, ps⟩)])]) := by
  have H00 := HS.beginI
  have H0 : S w ([(XM.I ⟨g, mg, dp, dc, ep, ec, seed, n, ps⟩), Old w (fps [(XM.I ⟨g, mg, dp, dc, ep, ec, seed, n, ps⟩)])]) := H00
  have hPI : PI j (⟨seed, n, ps.map Pp.sh⟩ : SP) := hX
  have hnd : (ps.map Pp.id).Nodup := by have := hPI.nd; rwa [sh_ids] at this
  have hps : ps.length ≤ j := by have := hPI.len; simpa using this
  have hn30 : n ≤ 30 := hPI.n30
  replace H0 : S w [Ob g (.cells #[.slice dp n dc, .slice ep n ec, .string seed, .map (some mg)] 49 (0, 0)), Rw 3 1 dp n dc (fl intL (cntL n (tcF (ps.map Pp.sh)))), Rw 3 1 ep n ec (fl intL (cntL n (hcF (ps.map Pp.sh)))), Mp (Value.int .i64) ptV okI mg (peerM ps), (Lst PeI ps), Old w (fps [(XM.I ⟨g, mg, dp, dc, ep, ec, seed, n, ps⟩)])] := S.unbig H0
  have hcD : (cntL n (tcF (ps.map Pp.sh))).length = n := cntL_len _ _
  have hcE : (cntL n (hcF (ps.map Pp.sh))).length = n := cntL_len _ _
  refine enter 22 Tryd.func18 rfl rfl rfl ?_
  refine g_weak [(0, .pointer (some ⟨g, 0, none⟩)), (1, .int .i64 id)] ⟨rfl, rfl, trivial⟩ ?_
  refine g_seq ?_
  refine g_region ?_
  refine l_of (s_val (v := .slice none 0 0) (wt0 rfl) rfl rfl (x_assign rfl rfl) ?_)
  refine l_of (s_val (v := .int .i64 0) (wt0 rfl) rfl rfl (x_assign rfl rfl) ?_)
  refine g_nil ?_
  refine g_then ?_
  refine g_seq ?_
  refine g_region ?_
  refine l_of (s_val (v := .pointer (some ⟨g, 0, none⟩)) (wt0 rfl) rfl rfl (x_move rfl rfl) ?_)
  refine l_of (s_val (v := .int .i64 id) (wt0 rfl) rfl rfl (x_move rfl rfl) ?_)
  refine l_of (s_call (wt0 rfl) (x_call' rfl rfl cl24) (find_s g mg dp dc ep ec seed n (peerM ps) id hid _ (H0.takes [0, 3] (by decide))) ?_)
  rintro ee3 wq1 hor4
  rcases hor4 with ⟨b, h0i, hMb, rfl, H2⟩ | ⟨h0i, rfl, H2⟩ | ⟨h0i, hMb, rfl, H2⟩
  · skip
    replace H2 : S wq1 [Ob g (.cells #[.slice dp n dc, .slice ep n ec, .string seed, .map (some mg)] 49 (0, 0)), Mp (Value.int .i64) ptV okI mg (peerM ps), Rw 3 1 dp n dc (fl intL (cntL n (tcF (ps.map Pp.sh)))), Rw 3 1 ep n ec (fl intL (cntL n (hcF (ps.map Pp.sh)))), (Lst PeI ps), Old w (fps [(XM.I ⟨g, mg, dp, dc, ep, ec, seed, n, ps⟩)])] := H0.absorbI (new := [Ob g (.cells #[.slice dp n dc, .slice ep n ec, .string seed, .map (some mg)] 49 (0, 0)), Mp (Value.int .i64) ptV okI mg (peerM ps)]) [0, 3] H2
    obtain ⟨i, p, hp, hpi, hpb⟩ := peerM_some hMb
    subst hpb
    subst hpi
    have hq : (ps.map Pp.sh)[i]? = some p.sh := by rw [List.getElem?_map, hp]; rfl
    have hf : fnd (ps.map Pp.sh) p.id = some i := fnd_of hPI.nd hq rfl
    have hpk := hPI.at (p := p.sh) hq
    have hg9 : getP (⟨seed, n, ps.map Pp.sh⟩ : SP) i = p.sh := getP_at hq
    have htl : p.told.length ≤ j := hpk.2.1
    have H5 : S wq1 [Ob p.b (.cells #[.slice p.tp p.told.length p.tc, .map (some p.hm)] 58 (0, 0)), Rw 3 1 p.tp p.told.length p.tc (fl intL p.told), Mp (Value.int .i64) Value.bool okI p.hm (hMap p.holds), (Lst PeI (ps.eraseIdx i)), Ob g (.cells #[.slice dp n dc, .slice ep n ec, .string seed, .map (some mg)] 49 (0, 0)), Mp (Value.int .i64) ptV okI mg (peerM ps), Rw 3 1 dp n dc (fl intL (cntL n (tcF (ps.map Pp.sh)))), Rw 3 1 ep n ec (fl intL (cntL n (hcF (ps.map Pp.sh)))), Old w (fps [(XM.I ⟨g, mg, dp, dc, ep, ec, seed, n, ps⟩)])] := S.unbig (L := [_, _, _]) (S.lstOut (F := PeI) (H2.takes [4, 0, 1, 2, 3, 5] (by decide)) hp)
    refine b_ret rfl rfl ?_
    refine l_of (s_val (v := .tuple #[.pointer (some ⟨p.b, 0, none⟩), .int .i64 0]) (wt0 rfl) rfl rfl (x_move rfl rfl) ?_)
    refine l_of (s_val (v := .pointer (some ⟨p.b, 0, none⟩)) (wt0 rfl) rfl rfl (x_extract rfl rfl rfl) ?_)
    refine l_of (s_val (v := .int .i64 0) (wt0 rfl) rfl rfl (x_extract rfl rfl rfl) ?_)
    refine l_of (s_val (v := .pointer (some ⟨p.b, 0, none⟩)) (wt0 rfl) rfl rfl (x_assign rfl rfl) ?_)
    refine l_of (s_val (v := .int .i64 0) (wt0 rfl) rfl rfl (x_assign rfl rfl) ?_)
    refine g_nil ?_
    refine g_then ?_
    refine g_seq ?_
    refine g_seq ?_
    refine g_region ?_
    refine l_of (s_val (v := .int .i64 0) (wt0 rfl) rfl rfl (x_move rfl rfl) ?_)
    refine l_of (s_val (v := .bool (!decide ((0 : Int) = 0))) (wt0 rfl) rfl rfl (x_bin rfl rfl rfl b_neq) ?_)
    refine g_nil ?_
    refine g_then ?_
    refine g_cond_f rfl (nf rfl) ?_
    refine g_skip ?_
    refine g_then ?_
    refine g_weak [(6, .pointer (some ⟨p.b, 0, none⟩))] ⟨rfl, trivial⟩ ?_
    refine g_seq ?_
    refine g_region ?_
    refine l_of (s_val (v := .pointer (some ⟨p.b, 0, none⟩)) (wt0 rfl) rfl rfl (x_move rfl rfl) ?_)
    refine l_of (s_val (v := .pointer (some ⟨p.b, 0, none⟩)) (wt0 rfl) rfl rfl (x_nilCheck rfl rfl) ?_)
    refine l_of (s_val (v := .pointer (some ⟨p.b, 0, none⟩)) (wt0 rfl) rfl rfl (x_fieldAddr rfl rfl fo58_0 rfl) ?_)
    refine l_of (s_val (v := .slice p.tp p.told.length p.tc) (wt0 rfl) rfl rfl (x_load1 H5 0 rfl rfl Tryd.underlying35 rfl rfl rfl) ?_)
    refine l_of (s_call (wt0 rfl) (x_call' rfl rfl cl38) (clone_i p.told p.tp p.told.length p.tc (by omega) _ (H5.rwReads (k := 1) rfl)) ?_)
    rintro _ wq8 ⟨pz6, cz7, rfl, H9⟩
    replace H9 : S wq8 [Rw 3 1 pz6 p.told.length cz7 (fl intL p.told), Ob p.b (.cells #[.slice p.tp p.told.length p.tc, .map (some p.hm)] 58 (0, 0)), Rw 3 1 p.tp p.told.length p.tc (fl intL p.told), Mp (Value.int .i64) Value.bool okI p.hm (hMap p.holds), (Lst PeI (ps.eraseIdx i)), Ob g (.cells #[.slice dp n dc, .slice ep n ec, .string seed, .map (some mg)] 49 (0, 0)), Mp (Value.int .i64) ptV okI mg (peerM ps), Rw 3 1 dp n dc (fl intL (cntL n (tcF (ps.map Pp.sh)))), Rw 3 1 ep n ec (fl intL (cntL n (hcF (ps.map Pp.sh)))), Old w (fps [(XM.I ⟨g, mg, dp, dc, ep, ec, seed, n, ps⟩)])] := H5.absorb (new := [Rw 3 1 pz6 p.told.length cz7 (fl intL p.told)]) H9
    refine b_ret rfl rfl ?_
    refine l_of (s_val (v := .slice pz6 p.told.length cz7) (wt0 rfl) rfl rfl (x_assign rfl rfl) ?_)
    refine l_of (s_val (v := .int .i64 0) (wt0 rfl) rfl rfl (x_assign rfl rfl) ?_)
    refine g_nil ?_
    refine g_then ?_
    refine g_ret ?_
    refine fin_ret [.tmp 4, .tmp 5] [.slice pz6 p.told.length cz7, .int .i64 0] rfl ⟨rfl, rfl, trivial⟩ ?_
    have hv : toldV (⟨seed, n, ps.map Pp.sh⟩ : SP) p.id = p.told := by unfold toldV; rw [show fnd (SP.ps (⟨seed, n, ps.map Pp.sh⟩ : SP)) p.id = some i from hf]; show (getP (⟨seed, n, ps.map Pp.sh⟩ : SP) i).told = _; rw [hg9]; rfl
    have he : findE (⟨seed, n, ps.map Pp.sh⟩ : SP) p.id = 0 := by unfold findE; rw [show fnd (SP.ps (⟨seed, n, ps.map Pp.sh⟩ : SP)) p.id = some i from hf]
    rw [hv, he]
    have h9 := (S.big (L := [_, _, _, _, _]) ((S.lstBack (F := PeI) (S.big (L := [_, _, _]) (H9.takes [1, 2, 3, 4, 5, 7, 8, 6, 0, 9] (by decide))) hp).takes [1, 2, 3, 4, 0, 5, 6] (by decide)))
    exact ⟨_, _, rfl, h9.takes [1, 0, 2] (by decide)⟩
  · skip
    replace H2 : S wq1 [Ob g (.cells #[.slice dp n dc, .slice ep n ec, .string seed, .map (some mg)] 49 (0, 0)), Mp (Value.int .i64) ptV okI mg (peerM ps), Rw 3 1 dp n dc (fl intL (cntL n (tcF (ps.map Pp.sh)))), Rw 3 1 ep n ec (fl intL (cntL n (hcF (ps.map Pp.sh)))), (Lst PeI ps), Old w (fps [(XM.I ⟨g, mg, dp, dc, ep, ec, seed, n, ps⟩)])] := H0.absorbI (new := [Ob g (.cells #[.slice dp n dc, .slice ep n ec, .string seed, .map (some mg)] 49 (0, 0)), Mp (Value.int .i64) ptV okI mg (peerM ps)]) [0, 3] H2
    have hf : fnd (ps.map Pp.sh) id = none := by cases h9 : fnd (ps.map Pp.sh) id with | none => rfl | some i9 => have := hPI.neg (id := id) h9; omega
    refine b_ret rfl rfl ?_
    refine l_of (s_val (v := .tuple #[.pointer none, .int .i64 7]) (wt0 rfl) rfl rfl (x_move rfl rfl) ?_)
    refine l_of (s_val (v := .pointer none) (wt0 rfl) rfl rfl (x_extract rfl rfl rfl) ?_)
    refine l_of (s_val (v := .int .i64 7) (wt0 rfl) rfl rfl (x_extract rfl rfl rfl) ?_)
    refine l_of (s_val (v := .pointer none) (wt0 rfl) rfl rfl (x_assign rfl rfl) ?_)
    refine l_of (s_val (v := .int .i64 7) (wt0 rfl) rfl rfl (x_assign rfl rfl) ?_)
    refine g_nil ?_
    refine g_then ?_
    refine g_seq ?_
    refine g_seq ?_
    refine g_region ?_
    refine l_of (s_val (v := .int .i64 7) (wt0 rfl) rfl rfl (x_move rfl rfl) ?_)
    refine l_of (s_val (v := .bool (!decide ((7 : Int) = 0))) (wt0 rfl) rfl rfl (x_bin rfl rfl rfl b_neq) ?_)
    refine g_nil ?_
    refine g_then ?_
    refine g_cond_t rfl (by decide) ?_
    refine g_seq ?_
    refine g_region ?_
    refine l_of (s_val (v := .int .i64 7) (wt0 rfl) rfl rfl (x_move rfl rfl) ?_)
    refine l_of (s_val (v := .slice none 0 0) (wt0 rfl) rfl rfl (x_assign rfl rfl) ?_)
    refine l_of (s_val (v := .int .i64 7) (wt0 rfl) rfl rfl (x_assign rfl rfl) ?_)
    refine g_nil ?_
    refine g_then ?_
    refine g_weak [(4, .slice none 0 0), (5, .int .i64 7)] ⟨rfl, rfl, trivial⟩ ?_
    refine g_ret ?_
    refine g_then_ret ?_
    refine fin_ret [.tmp 4, .tmp 5] [.slice none 0 0, .int .i64 7] rfl ⟨rfl, rfl, trivial⟩ ?_
    have hv : toldV (⟨seed, n, ps.map Pp.sh⟩ : SP) id = [] := by unfold toldV; rw [show fnd (SP.ps (⟨seed, n, ps.map Pp.sh⟩ : SP)) id = none from hf]
    have he : findE (⟨seed, n, ps.map Pp.sh⟩ : SP) id = 7 := (by unfold findE; rw [show fnd (SP.ps (⟨seed, n, ps.map Pp.sh⟩ : SP)) id = none from hf]; exact if_pos h0i)
    rw [hv, he]
    exact ⟨none, 0, rfl, ((S.big (L := [_, _, _, _, _]) (H2.takes [0, 2, 3, 1, 4, 5] (by decide))).nilFl 3 1 intL)⟩
  · skip
    replace H2 : S wq1 [Ob g (.cells #[.slice dp n dc, .slice ep n ec, .string seed, .map (some mg)] 49 (0, 0)), Mp (Value.int .i64) ptV okI mg (peerM ps), Rw 3 1 dp n dc (fl intL (cntL n (tcF (ps.map Pp.sh)))), Rw 3 1 ep n ec (fl intL (cntL n (hcF (ps.map Pp.sh)))), (Lst PeI ps), Old w (fps [(XM.I ⟨g, mg, dp, dc, ep, ec, seed, n, ps⟩)])] := H0.absorbI (new := [Ob g (.cells #[.slice dp n dc, .slice ep n ec, .string seed, .map (some mg)] 49 (0, 0)), Mp (Value.int .i64) ptV okI mg (peerM ps)]) [0, 3] H2
    have hf : fnd (ps.map Pp.sh) id = none := peerM_none hMb
    refine b_ret rfl rfl ?_
    refine l_of (s_val (v := .tuple #[.pointer none, .int .i64 8]) (wt0 rfl) rfl rfl (x_move rfl rfl) ?_)
    refine l_of (s_val (v := .pointer none) (wt0 rfl) rfl rfl (x_extract rfl rfl rfl) ?_)
    refine l_of (s_val (v := .int .i64 8) (wt0 rfl) rfl rfl (x_extract rfl rfl rfl) ?_)
    refine l_of (s_val (v := .pointer none) (wt0 rfl) rfl rfl (x_assign rfl rfl) ?_)
    refine l_of (s_val (v := .int .i64 8) (wt0 rfl) rfl rfl (x_assign rfl rfl) ?_)
    refine g_nil ?_
    refine g_then ?_
    refine g_seq ?_
    refine g_seq ?_
    refine g_region ?_
    refine l_of (s_val (v := .int .i64 8) (wt0 rfl) rfl rfl (x_move rfl rfl) ?_)
    refine l_of (s_val (v := .bool (!decide ((8 : Int) = 0))) (wt0 rfl) rfl rfl (x_bin rfl rfl rfl b_neq) ?_)
    refine g_nil ?_
    refine g_then ?_
    refine g_cond_t rfl (by decide) ?_
    refine g_seq ?_
    refine g_region ?_
    refine l_of (s_val (v := .int .i64 8) (wt0 rfl) rfl rfl (x_move rfl rfl) ?_)
    refine l_of (s_val (v := .slice none 0 0) (wt0 rfl) rfl rfl (x_assign rfl rfl) ?_)
    refine l_of (s_val (v := .int .i64 8) (wt0 rfl) rfl rfl (x_assign rfl rfl) ?_)
    refine g_nil ?_
    refine g_then ?_
    refine g_weak [(4, .slice none 0 0), (5, .int .i64 8)] ⟨rfl, rfl, trivial⟩ ?_
    refine g_ret ?_
    refine g_then_ret ?_
    refine fin_ret [.tmp 4, .tmp 5] [.slice none 0 0, .int .i64 8] rfl ⟨rfl, rfl, trivial⟩ ?_
    have hv : toldV (⟨seed, n, ps.map Pp.sh⟩ : SP) id = [] := by unfold toldV; rw [show fnd (SP.ps (⟨seed, n, ps.map Pp.sh⟩ : SP)) id = none from hf]
    have he : findE (⟨seed, n, ps.map Pp.sh⟩ : SP) id = 8 := (by unfold findE; rw [show fnd (SP.ps (⟨seed, n, ps.map Pp.sh⟩ : SP)) id = none from hf]; exact if_neg (by omega))
    rw [hv, he]
    exact ⟨none, 0, rfl, ((S.big (L := [_, _, _, _, _]) (H2.takes [0, 2, 3, 1, 4, 5] (by decide))).nilFl 3 1 intL)⟩
set_option maxRecDepth 20000 in
set_option maxHeartbeats 4000000 in
set_option maxRecDepth 20000 in
set_option maxHeartbeats 4000000 in
theorem count_s (j g mg : Nat) (dp : Option Addr) (dc : Nat) (ep : Option Addr) (ec : Nat) (seed : ByteArray) (n : Nat) (ps : List Pp) (hX : PI j (⟨seed, n, ps.map Pp.sh⟩ : SP)) (hj : j ≤ 1000) (k : Int)  (w : World) (HS : S w [(XM.I ⟨g, mg, dp, dc, ep, ec, seed, n, ps⟩)]) : Calls Tryd.prog 19 #[.pointer (some ⟨g, 0, none⟩), .int .i64 k] w fun e w' => e = .returned (.tuple #[.int .i64 (countT (⟨seed, n, ps.map Pp.sh⟩ : SP) k), .int .i64 (countH (⟨seed, n, ps.map Pp.sh⟩ : SP) k), .int .i64 (countE (⟨seed, n, ps.map Pp.sh⟩ : SP) k)]) ∧ S w' ([(XM.I ⟨g, mg, dp, dc, ep, ec, seed, n, ps⟩)] ++ [Old w (fps [(XM.I ⟨g, mg, dp, dc, ep, ec, seed, n, ps⟩)])]) := by
  have H00 := HS.beginI
  have H0 : S w ([(XM.I ⟨g, mg, dp, dc, ep, ec, seed, n, ps⟩), Old w (fps [(XM.I ⟨g, mg, dp, dc, ep, ec, seed, n, ps⟩)])]) := H00
  have hPI : PI j (⟨seed, n, ps.map Pp.sh⟩ : SP) := hX
  have hnd : (ps.map Pp.id).Nodup := by have := hPI.nd; rwa [sh_ids] at this
  have hps : ps.length ≤ j := by have := hPI.len; simpa using this
  have hn30 : n ≤ 30 := hPI.n30
  replace H0 : S w [Ob g (.cells #[.slice dp n dc, .slice ep n ec, .string seed, .map (some mg)] 49 (0, 0)), Rw 3 1 dp n dc (fl intL (cntL n (tcF (ps.map Pp.sh)))), Rw 3 1 ep n ec (fl intL (cntL n (hcF (ps.map Pp.sh)))), Mp (Value.int .i64) ptV okI mg (peerM ps), (Lst PeI ps), Old w (fps [(XM.I ⟨g, mg, dp, dc, ep, ec, seed, n, ps⟩)])] := S.unbig H0
  have hcD : (cntL n (tcF (ps.map Pp.sh))).length = n := cntL_len _ _
  have hcE : (cntL n (hcF (ps.map Pp.sh))).length = n := cntL_len _ _
  refine enter 39 Tryd.func19 rfl rfl rfl ?_
  refine g_weak [(0, .pointer (some ⟨g, 0, none⟩)), (1, .int .i64 k)] ⟨rfl, rfl, trivial⟩ ?_
  refine g_seq ?_
  refine g_region ?_
  refine l_of (s_val (v := .int .i64 0) (wt0 rfl) rfl rfl (x_assign rfl rfl) ?_)
  refine l_of (s_val (v := .int .i64 0) (wt0 rfl) rfl rfl (x_assign rfl rfl) ?_)
  refine l_of (s_val (v := .int .i64 0) (wt0 rfl) rfl rfl (x_assign rfl rfl) ?_)
  refine g_nil ?_
  refine g_then ?_
  refine g_seq ?_
  refine g_block ?_
  refine g_seq ?_
  refine g_region ?_
  refine l_of (s_val (v := .pointer (some ⟨g, 0, none⟩)) (wt0 rfl) rfl rfl (x_move rfl rfl) ?_)
  refine l_of (s_val (v := .bool false) (wt0 rfl) rfl rfl (x_bin rfl rfl rfl (b_eqN (r := false) Tryd.underlying24 rfl)) ?_)
  refine l_of (s_val (v := .bool false) (wt0 rfl) rfl rfl (x_assign rfl rfl) ?_)
  refine g_nil ?_
  refine g_then ?_
  refine g_cond_f rfl rfl ?_
  refine g_seq ?_
  refine g_region ?_
  refine l_of (s_val (v := .int .i64 k) (wt0 rfl) rfl rfl (x_move rfl rfl) ?_)
  refine l_of (s_val (v := .bool (decide ((k : Int) < 0))) (wt0 rfl) rfl rfl (x_bin rfl rfl rfl b_lss) ?_)
  refine l_of (s_val (v := .bool (decide ((k : Int) < 0))) (wt0 rfl) rfl rfl (x_move rfl rfl) ?_)
  by_cases hb1 : (k : Int) < 0
  · skip
    refine l_of (s_not (wn1 rfl rfl rfl rfl (decide_eq_true hb1)) rfl rfl ?_)
    refine l_of (s_not (wn1 rfl rfl rfl rfl (decide_eq_true hb1)) rfl rfl ?_)
    refine l_of (s_not (wn1 rfl rfl rfl rfl (decide_eq_true hb1)) rfl rfl ?_)
    refine l_of (s_not (wn1 rfl rfl rfl rfl (decide_eq_true hb1)) rfl rfl ?_)
    refine l_of (s_not (wn1 rfl rfl rfl rfl (decide_eq_true hb1)) rfl rfl ?_)
    refine l_of (s_not (wn1 rfl rfl rfl rfl (decide_eq_true hb1)) rfl rfl ?_)
    refine l_of (s_not (wn1 rfl rfl rfl rfl (decide_eq_true hb1)) rfl rfl ?_)
    refine l_of (s_not (wn1 rfl rfl rfl rfl (decide_eq_true hb1)) rfl rfl ?_)
    refine l_of (s_val (v := .bool true) (wt0 rfl) rfl rfl (x_pick_t rfl rfl (decide_eq_true hb1) rfl) ?_)
    refine l_of (s_val (v := .bool true) (wt0 rfl) rfl rfl (x_assign rfl rfl) ?_)
    refine g_nil ?_
    refine g_then ?_
    refine g_weak [(0, .pointer (some ⟨g, 0, none⟩)), (1, .int .i64 k), (10, .bool true)] ⟨rfl, rfl, rfl, trivial⟩ ?_
    refine g_cond_t rfl rfl ?_
    refine g_seq ?_
    refine g_region ?_
    refine l_of (s_val (v := .int .i64 0) (wt0 rfl) rfl rfl (x_assign rfl rfl) ?_)
    refine l_of (s_val (v := .int .i64 0) (wt0 rfl) rfl rfl (x_assign rfl rfl) ?_)
    refine l_of (s_val (v := .int .i64 7) (wt0 rfl) rfl rfl (x_assign rfl rfl) ?_)
    refine g_nil ?_
    refine g_then ?_
    refine g_ret ?_
    refine g_in_ret ?_
    refine g_then_ret ?_
    refine fin_ret [.tmp 4, .tmp 5, .tmp 6] [.int .i64 0, .int .i64 0, .int .i64 7] rfl ⟨rfl, rfl, rfl, trivial⟩ ?_
    have hk7 : k < 0 ∨ (n : Int) ≤ k := by omega
    have h1 : countT (⟨seed, n, ps.map Pp.sh⟩ : SP) k = 0 := if_pos hk7
    have h2 : countH (⟨seed, n, ps.map Pp.sh⟩ : SP) k = 0 := if_pos hk7
    have h3 : countE (⟨seed, n, ps.map Pp.sh⟩ : SP) k = 7 := if_pos hk7
    rw [h1, h2, h3]
    exact ⟨rfl, (S.big (L := [_, _, _, _, _]) (H0.takes [0, 1, 2, 3, 4, 5] (by decide)))⟩
  · skip
    refine l_of (s_val (v := .int .i64 k) (wt1 rfl rfl rfl rfl (decide_eq_false hb1)) rfl rfl (x_move rfl rfl) ?_)
    refine l_of (s_val (v := .pointer (some ⟨g, 0, none⟩)) (wt1 rfl rfl rfl rfl (decide_eq_false hb1)) rfl rfl (x_move rfl rfl) ?_)
    refine l_of (s_val (v := .pointer (some ⟨g, 0, none⟩)) (wt1 rfl rfl rfl rfl (decide_eq_false hb1)) rfl rfl (x_nilCheck rfl rfl) ?_)
    refine l_of (s_val (v := .pointer (some ⟨g, 0, none⟩)) (wt1 rfl rfl rfl rfl (decide_eq_false hb1)) rfl rfl (x_fieldAddr rfl rfl fo49_0 rfl) ?_)
    refine l_of (s_val (v := .pointer (some ⟨g, 1, none⟩)) (wt1 rfl rfl rfl rfl (decide_eq_false hb1)) rfl rfl (x_fieldAddr rfl rfl fo46_1 rfl) ?_)
    refine l_of (s_val (v := .slice ep n ec) (wt1 rfl rfl rfl rfl (decide_eq_false hb1)) rfl rfl (x_load1 H0 0 rfl rfl Tryd.underlying35 rfl rfl rfl) ?_)
    refine l_of (s_val (v := .int .i64 ((n : Int))) (wt1 rfl rfl rfl rfl (decide_eq_false hb1)) rfl rfl (x_lenl rfl rfl Tryd.underlying35) ?_)
    refine l_of (s_val (v := .bool (decide (((n : Int) : Int) ≤ k))) (wt1 rfl rfl rfl rfl (decide_eq_false hb1)) rfl rfl (x_bin rfl rfl rfl b_geq) ?_)
    refine l_of (s_val (v := .bool (decide (((n : Int) : Int) ≤ k))) (wt0 rfl) rfl rfl (x_pick_f rfl rfl (decide_eq_false hb1) rfl) ?_)
    refine l_of (s_val (v := .bool (decide (((n : Int) : Int) ≤ k))) (wt0 rfl) rfl rfl (x_assign rfl rfl) ?_)
    refine g_nil ?_
    refine g_then ?_
    refine g_weak [(0, .pointer (some ⟨g, 0, none⟩)), (1, .int .i64 k), (10, .bool (decide (((n : Int) : Int) ≤ k)))] ⟨rfl, rfl, rfl, trivial⟩ ?_
    by_cases hb2 : ((n : Int) : Int) ≤ k
    · skip
      refine g_cond_t rfl (decide_eq_true hb2) ?_
      refine g_seq ?_
      refine g_region ?_
      refine l_of (s_val (v := .int .i64 0) (wt0 rfl) rfl rfl (x_assign rfl rfl) ?_)
      refine l_of (s_val (v := .int .i64 0) (wt0 rfl) rfl rfl (x_assign rfl rfl) ?_)
      refine l_of (s_val (v := .int .i64 7) (wt0 rfl) rfl rfl (x_assign rfl rfl) ?_)
      refine g_nil ?_
      refine g_then ?_
      refine g_ret ?_
      refine g_in_ret ?_
      refine g_then_ret ?_
      refine fin_ret [.tmp 4, .tmp 5, .tmp 6] [.int .i64 0, .int .i64 0, .int .i64 7] rfl ⟨rfl, rfl, rfl, trivial⟩ ?_
      have hk7 : k < 0 ∨ (n : Int) ≤ k := by omega
      have h1 : countT (⟨seed, n, ps.map Pp.sh⟩ : SP) k = 0 := if_pos hk7
      have h2 : countH (⟨seed, n, ps.map Pp.sh⟩ : SP) k = 0 := if_pos hk7
      have h3 : countE (⟨seed, n, ps.map Pp.sh⟩ : SP) k = 7 := if_pos hk7
      rw [h1, h2, h3]
      exact ⟨rfl, (S.big (L := [_, _, _, _, _]) (H0.takes [0, 1, 2, 3, 4, 5] (by decide)))⟩
    · skip
      refine g_cond_f rfl (decide_eq_false hb2) ?_
      refine g_skip ?_
      refine g_in ?_
      refine g_then ?_
      refine g_seq ?_
      refine g_quiet (by kernel_rfl) (by kernel_rfl) H0 ?_
      refine q_val (v := .pointer (some ⟨g, 0, none⟩)) (wt0 rfl) rfl rfl (fun wx H => x_move rfl rfl) ?_
      refine q_val (v := .pointer (some ⟨g, 0, none⟩)) (wt0 rfl) rfl rfl (fun wx H => x_nilCheck rfl rfl) ?_
      refine q_val (v := .pointer (some ⟨g, 0, none⟩)) (wt0 rfl) rfl rfl (fun wx H => x_fieldAddr rfl rfl fo49_0 rfl) ?_
      refine q_val (v := .pointer (some ⟨g, 0, none⟩)) (wt0 rfl) rfl rfl (fun wx H => x_fieldAddr rfl rfl fo46_0 rfl) ?_
      refine q_val (v := .slice dp n dc) (wt0 rfl) rfl rfl (fun wx H => x_load1 H 0 rfl rfl Tryd.underlying35 rfl rfl rfl) ?_
      refine q_val (v := .int .i64 k) (wt0 rfl) rfl rfl (fun wx H => x_move rfl rfl) ?_
      refine q_val (v := .pointer ((dp).map fun q => q.add (((k).toNat) * 1))) (wt0 rfl) rfl rfl (fun wx H => x_idxP ((k).toNat) ((H0.rwReads (k := 1) rfl).some (by omega)) rfl rfl rfl Tryd.underlying35 sz3 (by omega)) ?_
      have hlq := (H0.rwReads (k := 1) rfl).lenL intE
      obtain ⟨x3, hx3⟩ := ex_at (l := (cntL n (tcF (ps.map Pp.sh)))) (j := ((k).toNat)) (by omega)
      clear hlq
      refine q_val (v := .int .i64 x3) (wt0 rfl) rfl rfl (fun wx H => x_loadR1 ((k).toNat) (H.rwReads (k := 1) rfl) (by omega) rfl rfl Tryd.underlying3 rfl (intE.flAt1 hx3 rfl)) ?_
      refine q_val (v := .pointer (some ⟨g, 0, none⟩)) (wt0 rfl) rfl rfl (fun wx H => x_move rfl rfl) ?_
      refine q_val (v := .pointer (some ⟨g, 0, none⟩)) (wt0 rfl) rfl rfl (fun wx H => x_nilCheck rfl rfl) ?_
      refine q_val (v := .pointer (some ⟨g, 0, none⟩)) (wt0 rfl) rfl rfl (fun wx H => x_fieldAddr rfl rfl fo49_0 rfl) ?_
      refine q_val (v := .pointer (some ⟨g, 1, none⟩)) (wt0 rfl) rfl rfl (fun wx H => x_fieldAddr rfl rfl fo46_1 rfl) ?_
      refine q_val (v := .slice ep n ec) (wt0 rfl) rfl rfl (fun wx H => x_load1 H 0 rfl rfl Tryd.underlying35 rfl rfl rfl) ?_
      refine q_val (v := .int .i64 k) (wt0 rfl) rfl rfl (fun wx H => x_move rfl rfl) ?_
      refine q_val (v := .pointer ((ep).map fun q => q.add (((k).toNat) * 1))) (wt0 rfl) rfl rfl (fun wx H => x_idxP ((k).toNat) ((H0.rwReads (k := 2) rfl).some (by omega)) rfl rfl rfl Tryd.underlying35 sz3 (by omega)) ?_
      have hlq := (H0.rwReads (k := 2) rfl).lenL intE
      obtain ⟨x4, hx4⟩ := ex_at (l := (cntL n (hcF (ps.map Pp.sh)))) (j := ((k).toNat)) (by omega)
      clear hlq
      refine q_val (v := .int .i64 x4) (wt0 rfl) rfl rfl (fun wx H => x_loadR1 ((k).toNat) (H.rwReads (k := 2) rfl) (by omega) rfl rfl Tryd.underlying3 rfl (intE.flAt1 hx4 rfl)) ?_
      refine q_val (v := .int .i64 x3) (wt0 rfl) rfl rfl (fun wx H => x_assign rfl rfl) ?_
      refine q_val (v := .int .i64 x4) (wt0 rfl) rfl rfl (fun wx H => x_assign rfl rfl) ?_
      refine q_val (v := .int .i64 0) (wt0 rfl) rfl rfl (fun wx H => x_assign rfl rfl) ?_
      refine q_nil (fun wq5 H6 => ?_)
      refine g_then ?_
      refine g_weak [(4, .int .i64 x3), (5, .int .i64 x4), (6, .int .i64 0)] ⟨rfl, rfl, rfl, trivial⟩ ?_
      refine g_ret ?_
      refine fin_ret [.tmp 4, .tmp 5, .tmp 6] [.int .i64 x3, .int .i64 x4, .int .i64 0] rfl ⟨rfl, rfl, rfl, trivial⟩ ?_
      have hk7 : ¬ (k < 0 ∨ (n : Int) ≤ k) := by omega
      have ek : ((k.toNat : Nat) : Int) = k := by omega
      have h1 : countT (⟨seed, n, ps.map Pp.sh⟩ : SP) k = x3 := by rw [(cntL_at hx3).2]; unfold countT; rw [if_neg hk7]; unfold tcF; rw [ek]
      have h2 : countH (⟨seed, n, ps.map Pp.sh⟩ : SP) k = x4 := by rw [(cntL_at hx4).2]; unfold countH; rw [if_neg hk7]; unfold hcF; rw [ek]
      have h3 : countE (⟨seed, n, ps.map Pp.sh⟩ : SP) k = 0 := if_neg hk7
      rw [h1, h2, h3]
      exact ⟨rfl, (S.big (L := [_, _, _, _, _]) (H6.takes [0, 1, 2, 3, 4, 5] (by decide)))⟩
set_option maxRecDepth 20000 in
set_option maxHeartbeats 4000000 in
set_option maxRecDepth 20000 in
set_option maxHeartbeats 4000000 in
theorem whole_s (j g mg : Nat) (dp : Option Addr) (dc : Nat) (ep : Option Addr) (ec : Nat) (seed : ByteArray) (n : Nat) (ps : List Pp) (hX : PI j (⟨seed, n, ps.map Pp.sh⟩ : SP)) (hj : j ≤ 1000)  (w : World) (HS : S w [(XM.I ⟨g, mg, dp, dc, ep, ec, seed, n, ps⟩)]) : Calls Tryd.prog 21 #[.pointer (some ⟨g, 0, none⟩)] w fun e w' => e = .returned (.bool (wholeB (⟨seed, n, ps.map Pp.sh⟩ : SP))) ∧ S w' ([(XM.I ⟨g, mg, dp, dc, ep, ec, seed, n, ps⟩)] ++ [Old w (fps [(XM.I ⟨g, mg, dp, dc, ep, ec, seed, n, ps⟩)])]) := by
  have H00 := HS.beginI
  have H0 : S w ([(XM.I ⟨g, mg, dp, dc, ep, ec, seed, n, ps⟩), Old w (fps [(XM.I ⟨g, mg, dp, dc, ep, ec, seed, n, ps⟩)])]) := H00
  have hPI : PI j (⟨seed, n, ps.map Pp.sh⟩ : SP) := hX
  have hnd : (ps.map Pp.id).Nodup := by have := hPI.nd; rwa [sh_ids] at this
  have hps : ps.length ≤ j := by have := hPI.len; simpa using this
  have hn30 : n ≤ 30 := hPI.n30
  replace H0 : S w [Ob g (.cells #[.slice dp n dc, .slice ep n ec, .string seed, .map (some mg)] 49 (0, 0)), Rw 3 1 dp n dc (fl intL (cntL n (tcF (ps.map Pp.sh)))), Rw 3 1 ep n ec (fl intL (cntL n (hcF (ps.map Pp.sh)))), Mp (Value.int .i64) ptV okI mg (peerM ps), (Lst PeI ps), Old w (fps [(XM.I ⟨g, mg, dp, dc, ep, ec, seed, n, ps⟩)])] := S.unbig H0
  have hcD : (cntL n (tcF (ps.map Pp.sh))).length = n := cntL_len _ _
  have hcE : (cntL n (hcF (ps.map Pp.sh))).length = n := cntL_len _ _
  refine enter 14 Tryd.func21 rfl rfl rfl ?_
  refine g_weak [(0, .pointer (some ⟨g, 0, none⟩))] ⟨rfl, trivial⟩ ?_
  refine g_seq ?_
  refine g_region ?_
  refine l_of (s_val (v := .bool false) (wt0 rfl) rfl rfl (x_assign rfl rfl) ?_)
  refine g_nil ?_
  refine g_then ?_
  refine g_seq ?_
  refine g_region ?_
  refine l_of (s_val (v := .pointer (some ⟨g, 0, none⟩)) (wt0 rfl) rfl rfl (x_move rfl rfl) ?_)
  refine l_of (s_val (v := .bool true) (wt0 rfl) rfl rfl (x_bin rfl rfl rfl (b_neN (r := false) Tryd.underlying24 rfl)) ?_)
  refine l_of (s_val (v := .bool true) (wt0 rfl) rfl rfl (x_move rfl rfl) ?_)
  refine l_of (s_val (v := .pointer (some ⟨g, 0, none⟩)) (wt1 rfl rfl rfl rfl rfl) rfl rfl (x_move rfl rfl) ?_)
  refine l_of (s_val (v := .pointer (some ⟨g, 0, none⟩)) (wt1 rfl rfl rfl rfl rfl) rfl rfl (x_nilCheck rfl rfl) ?_)
  refine l_of (s_val (v := .pointer (some ⟨g, 0, none⟩)) (wt1 rfl rfl rfl rfl rfl) rfl rfl (x_fieldAddr rfl rfl fo49_0 rfl) ?_)
  refine l_of (s_val (v := .pointer (some ⟨g, 1, none⟩)) (wt1 rfl rfl rfl rfl rfl) rfl rfl (x_fieldAddr rfl rfl fo46_1 rfl) ?_)
  refine l_of (s_val (v := .slice ep n ec) (wt1 rfl rfl rfl rfl rfl) rfl rfl (x_load1 H0 0 rfl rfl Tryd.underlying35 rfl rfl rfl) ?_)
  refine l_of (s_call (wt1 rfl rfl rfl rfl rfl) (x_call' rfl rfl cl33) (cont_i (cntL n (hcF (ps.map Pp.sh))) ep n ec 0 (by omega) _ (H0.rwReads (k := 2) rfl)) ?_)
  rintro _ wq1 ⟨rfl, H2⟩
  replace H2 : S wq1 [Ob g (.cells #[.slice dp n dc, .slice ep n ec, .string seed, .map (some mg)] 49 (0, 0)), Rw 3 1 dp n dc (fl intL (cntL n (tcF (ps.map Pp.sh)))), Rw 3 1 ep n ec (fl intL (cntL n (hcF (ps.map Pp.sh)))), Mp (Value.int .i64) ptV okI mg (peerM ps), (Lst PeI ps), Old w (fps [(XM.I ⟨g, mg, dp, dc, ep, ec, seed, n, ps⟩)])] := H0.absorb (new := []) H2
  refine b_ret rfl rfl ?_
  refine l_of (s_val (v := .bool (!((decide (0 ∈ (cntL n (hcF (ps.map Pp.sh)))))))) (wt1 rfl rfl rfl rfl rfl) rfl rfl (x_not (b := (decide (0 ∈ (cntL n (hcF (ps.map Pp.sh)))))) rfl rfl) ?_)
  refine l_of (s_val (v := .bool (!((decide (0 ∈ (cntL n (hcF (ps.map Pp.sh)))))))) (wt0 rfl) rfl rfl (x_pick_t rfl rfl rfl rfl) ?_)
  refine l_of (s_val (v := .bool (!((decide (0 ∈ (cntL n (hcF (ps.map Pp.sh)))))))) (wt0 rfl) rfl rfl (x_assign rfl rfl) ?_)
  refine g_nil ?_
  refine g_then ?_
  refine g_weak [(2, .bool (!((decide (0 ∈ (cntL n (hcF (ps.map Pp.sh))))))))] ⟨rfl, trivial⟩ ?_
  refine g_ret ?_
  refine fin_ret [.tmp 2] [.bool (!((decide (0 ∈ (cntL n (hcF (ps.map Pp.sh)))))))] rfl ⟨rfl, trivial⟩ ?_
  exact ⟨rfl, (S.big (L := [_, _, _, _, _]) (H2.takes [0, 1, 2, 3, 4, 5] (by decide)))⟩
end Go.Proofs.YthfglkkjkpdkpaaDoor
