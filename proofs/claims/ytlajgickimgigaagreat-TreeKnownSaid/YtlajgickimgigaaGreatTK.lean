import Derived.Test.YtlajgickimgigaaGreatTG
import Derived.Test.YtlajgickimgigaaGreatFc
set_option linter.unusedSimpArgs false
set_option linter.unusedVariables false
namespace Go.Proofs.YtlajgickimgigaaGreat
open Go.RowKit

theorem S.open1 {w : World} {b C : Item} {L : List Item} (h : S w [b, Big L, C]) : S w (b :: (L ++ [C])) := by
  have h1 : S w (Big L :: [b, C]) := h.perm (List.Perm.swap ..)
  exact h1.unbig.perm List.perm_middle
theorem S.close1 {w : World} {b C : Item} {L : List Item} (h : S w (b :: (L ++ [C]))) : S w [b, Big L, C] := by
  have h1 : S w (L ++ [b, C]) := h.perm List.perm_middle.symm
  exact h1.big.perm (List.Perm.swap ..)
theorem ex_cast {P : Program} {N : Nat} {f : Fr} {ds : List Deferred} {o : Oper} {w w' : World} {v v' : Value} (h : Ex P N f ds o w v w') (e : v = v') : Ex P N f ds o w v' w' := e ▸ h
section
variable {P : Program} {N : Nat} {f : Fr} {ds : List Deferred} {w : World} {o : Oper}
/-- A slice with low, high and max, wherever it lies. -/
theorem x_slice3R {t e size n c : Nat} {p : Option Addr} {x y1 y2 y3 : Operand} {k1 k2 k3 : IntKind} {i1 i2 i3 : Int} (l h m : Nat) (ho : o.op = .slice t x (some y1) (some y2) (some y3)) (hx : evo f x = some (.slice p n c)) (h1 : evo f y1 = some (.int k1 i1)) (h2 : evo f y2 = some (.int k2 i2)) (h3 : evo f y3 = some (.int k3 i3))
    (hu : P.underlying t = some (.slice e)) (hz : szO P e = some size) (hb : i1 = (l : Int) ∧ i2 = (h : Int) ∧ i3 = (m : Int) ∧ l ≤ h ∧ h ≤ m ∧ m ≤ c ∧ l < m) :
    Ex P N f ds o w (.slice (p.map fun q => q.add (l * size)) (h - l) (m - l)) w :=
  ex_of (x := Instr.sliceAt t (.slice p n c) (some (.int k1 i1)) (some (.int k2 i2)) (some (.int k3 i3))) (fun a ha => by unfold execOp; simp only [ho, ha.eval hx, ha.eval h1, ha.eval h2, ha.eval h3, Option.map_some]) (by
    obtain ⟨rfl, rfl, rfl, q1, q2, q3, q4⟩ := hb
    have hel : P.elem t = e := by unfold Program.elem; rw [hu]
    have hu' : P.underlying t = some (.slice (P.elem t)) := by rw [hel]; exact hu
    rw [run_sliceAt_slice (P := P) w t _ _ _ _ hu', run_slice_lhm (P := P) w t p n c hu' k1 k2 k3 (l : Int) (h : Int) (m : Int) (by omega) (by omega) (by omega) (by omega), hel, run_sz hz]
    simp only [Result.andThen_ok, sliced, Int.toNat_natCast]
    rw [if_neg (by omega)])
/-- A slice with high and max from its beginning. -/
theorem x_clip {t e size n c : Nat} {p : Option Addr} {x y2 y3 : Operand} {k2 k3 : IntKind} {i2 i3 : Int} (h m : Nat) (ho : o.op = .slice t x none (some y2) (some y3)) (hx : evo f x = some (.slice p n c)) (h2 : evo f y2 = some (.int k2 i2)) (h3 : evo f y3 = some (.int k3 i3))
    (hu : P.underlying t = some (.slice e)) (hz : szO P e = some size) (hb : i2 = (h : Int) ∧ i3 = (m : Int) ∧ h ≤ m ∧ m ≤ c) :
    Ex P N f ds o w (.slice (if m = 0 then p else p.map fun q => q.add (0 * size)) h m) w :=
  ex_of (x := Instr.sliceAt t (.slice p n c) none (some (.int k2 i2)) (some (.int k3 i3))) (fun a ha => by unfold execOp; simp only [ho, ha.eval hx, ha.eval h2, ha.eval h3, Option.map_some, Option.map_none]) (by
    obtain ⟨rfl, rfl, q2, q3⟩ := hb
    have hel : P.elem t = e := by unfold Program.elem; rw [hu]
    have hu' : P.underlying t = some (.slice (P.elem t)) := by rw [hel]; exact hu
    have hrun : (Instr.slice t (.slice p n c) none (some (.int k2 (h : Int))) (some (.int k3 (m : Int)))).run P w = ((sizeOf (P.elem t)).run P w).andThen fun s w => .ok (sliced p 0 h m s) w := by
      simp [Instr.slice, run_underlying hu', Instr.sliceBounds, run_sliceBound, sliced, q2, q3]
    rw [run_sliceAt_slice (P := P) w t _ _ _ _ hu', hrun, hel, run_sz hz]
    simp only [Result.andThen_ok, sliced, Nat.sub_zero])
end
theorem reads_two {w : World} {p : Option Addr} {n c i : Nat} {l : List ByteArray} (hr : Reads w p n c 1 (stV l)) (hi : 2 * i + 1 < n) : Reads w (p.map fun q => q.add (2 * i * 1)) 2 2 1 (stV [l.getD (2 * i) ⟨#[]⟩, l.getD (2 * i + 1) ⟨#[]⟩]) := by
  obtain ⟨k1, k2, k3⟩ := hr
  have hl : l.length = n := by rw [stV_len] at k1; omega
  obtain ⟨a, rfl, hc⟩ := k3 (by omega)
  refine ⟨rfl, Nat.le_refl _, fun _ => ⟨a.add (2 * i * 1), rfl, fun j u hu => ?_⟩⟩
  rw [addr_add]
  match j, hu with
  | 0, hu =>
    have : u = .string (l.getD (2 * i) ⟨#[]⟩) := by simpa [stV] using hu.symm
    subst this
    have := stV_at (l := l) (j := 2 * i) (by omega)
    exact hc _ _ (by rw [show 2 * i * 1 + 0 = 2 * i * 1 from rfl]; exact this)
  | 1, hu =>
    have : u = .string (l.getD (2 * i + 1) ⟨#[]⟩) := by simpa [stV] using hu.symm
    subst this
    have := stV_at (l := l) (j := 2 * i + 1) (by omega)
    exact hc _ _ (by rw [show 2 * i * 1 + 1 = (2 * i + 1) * 1 from by omega]; exact this)
  | j + 2, hu => simp [stV] at hu
def encP (p : Option Addr) (i : Nat) : Array Value := #[.slice (p.map fun q => q.add (2 * i * 1)) 2 2]
end Go.Proofs.YtlajgickimgigaaGreat
namespace Go.Proofs.YtlajgickimgigaaGreat
open Go.RowKit

set_option maxRecDepth 20000 in
set_option maxHeartbeats 4000000 in
theorem chunk_s (p : Option Addr) (n c : Nat)  (w : World) : Calls Tryz.prog 72 #[.slice p n c, .int .i64 2] w fun e w' => ∃ g1 g2, e = .returned (.func (.func 90) #[] #[.pointer (some ⟨g1, 0, none⟩), .pointer (some ⟨g2, 0, none⟩)]) ∧ S w' ([Ob g2 (.cells #[.int .i64 2] 3 (0, 0)), Ob g1 (.cells #[.slice p n c] 22 (0, 0))] ++ [Old w no]) := by
  have H0 := S.old w
  refine enter 9 Tryz.func72 rfl rfl rfl ?_
  refine g_weak [(0, .slice p n c), (1, .int .i64 2)] ⟨rfl, rfl, trivial⟩ ?_
  refine g_seq ?_
  refine g_region ?_
  refine l_of (s_box H0 (wt0 rfl) rfl rfl rfl rfl ?_)
  intro g1 wq2 H3
  refine l_of (s_box H3 (wt0 rfl) rfl rfl rfl rfl ?_)
  intro g4 wq5 H6
  refine l_of (s_val (v := .nilFunc) (wt0 rfl) rfl rfl (x_assign rfl rfl) ?_)
  refine g_nil ?_
  refine g_then ?_
  refine g_seq ?_
  refine g_seq ?_
  refine g_region ?_
  refine l_of (s_val (v := .int .i64 2) (wt0 rfl) rfl rfl (x_load1 H6 0 rfl rfl Tryz.underlying3 rfl rfl rfl) ?_)
  refine l_of (s_val (v := .bool (decide ((2 : Int) < 1))) (wt0 rfl) rfl rfl (x_bin rfl rfl rfl b_lss) ?_)
  refine g_nil ?_
  refine g_then ?_
  refine g_cond_f rfl (by decide) ?_
  refine g_skip ?_
  refine g_then ?_
  refine g_seq ?_
  refine g_region ?_
  refine l_of (s_val (v := .func (.func 90) #[] #[.pointer (some ⟨g1, 0, none⟩), .pointer (some ⟨g4, 0, none⟩)]) (wt0 rfl) rfl rfl (x_makeFunc rfl rfl rfl) ?_)
  refine l_of (s_val (v := .func (.func 90) #[] #[.pointer (some ⟨g1, 0, none⟩), .pointer (some ⟨g4, 0, none⟩)]) (wt0 rfl) rfl rfl (x_assign rfl rfl) ?_)
  refine g_nil ?_
  refine g_then ?_
  refine g_ret ?_
  refine fin_ret [.tmp 4] [.func (.func 90) #[] #[.pointer (some ⟨g1, 0, none⟩), .pointer (some ⟨g4, 0, none⟩)]] rfl ⟨rfl, trivial⟩ ?_
  exact ⟨_, _, rfl, H6⟩
set_option maxRecDepth 20000 in
set_option maxHeartbeats 4000000 in
theorem clip_s (p : Option Addr) (n c : Nat) (hc : n ≤ c) (w : World) : Calls Tryz.prog 70 #[.slice p n c] w fun e w' => e = .returned (.slice (if n = 0 then p else p.map fun q => q.add (0 * 1)) n n) ∧ S w' [Old w no] := by
  have H0 := S.old w
  refine enter 9 Tryz.func70 rfl rfl rfl ?_
  refine g_weak [(0, .slice p n c)] ⟨rfl, trivial⟩ ?_
  refine g_seq ?_
  refine g_region ?_
  refine l_of (s_val (v := .slice none 0 0) (wt0 rfl) rfl rfl (x_assign rfl rfl) ?_)
  refine g_nil ?_
  refine g_then ?_
  refine g_seq ?_
  refine g_region ?_
  refine l_of (s_val (v := .slice p n c) (wt0 rfl) rfl rfl (x_move rfl rfl) ?_)
  refine l_of (s_val (v := .slice p n c) (wt0 rfl) rfl rfl (x_move rfl rfl) ?_)
  refine l_of (s_val (v := .int .i64 ((n : Int))) (wt0 rfl) rfl rfl (x_lenl rfl rfl Tryz.underlying22) ?_)
  refine l_of (s_val (v := .slice p n c) (wt0 rfl) rfl rfl (x_move rfl rfl) ?_)
  refine l_of (s_val (v := .int .i64 ((n : Int))) (wt0 rfl) rfl rfl (x_lenl rfl rfl Tryz.underlying22) ?_)
  refine l_of (s_val (v := .slice (if n = 0 then p else p.map fun q => q.add (0 * 1)) n n) (wt0 rfl) rfl rfl (x_clip n n rfl rfl rfl rfl Tryz.underlying22 sz9 (by omega)) ?_)
  refine l_of (s_val (v := .slice (if n = 0 then p else p.map fun q => q.add (0 * 1)) n n) (wt0 rfl) rfl rfl (x_assign rfl rfl) ?_)
  refine g_nil ?_
  refine g_then ?_
  refine g_ret ?_
  refine fin_ret [.tmp 2] [.slice (if n = 0 then p else p.map fun q => q.add (0 * 1)) n n] rfl ⟨rfl, trivial⟩ ?_
  exact ⟨rfl, H0.mask [true]⟩
set_option maxRecDepth 20000 in
set_option maxHeartbeats 4000000 in
set_option maxRecDepth 20000 in
set_option maxHeartbeats 4000000 in
theorem chunk_it {n0 q : Nat} {p : Option Addr} {g1 g2 n c : Nat} {base : Item} (hn : n = 2 * q) (hc : n ≤ c) (hn6 : n ≤ 1099511627776) :
    IterS n0 Tryz.prog 90 #[.pointer (some ⟨g1, 0, none⟩), .pointer (some ⟨g2, 0, none⟩)] (encP p) base (fun pre i _ => i = pre.length ∧ i < q) (fun _ => True) (fun xs => xs = List.range q) (fun _ => True) (Big [Ob g2 (.cells #[.int .i64 2] 3 (0, 0)), Ob g1 (.cells #[.slice p n c] 22 (0, 0))]) := by
  intro l J Jx W C hOk hY h0 HS
  have H0 := HS.open1
  replace H0 : S W [base, Ob g2 (.cells #[.int .i64 2] 3 (0, 0)), Ob g1 (.cells #[.slice p n c] 22 (0, 0)), C] := H0
  refine enter_ci 31 Tryz.func90 rfl rfl rfl ?_
  have hL : ¬ LetsOut (bodyPost Tryz.prog Tryz.f90 fun e W' => (∃ v, e = .returned v) ∧ ((∃ xs C, xs = List.range q ∧ J xs C ∧ S W' [base, C]) ∨ (∃ pre C, True ∧ Jx pre C ∧ S W' [base, C]))) := by
    rintro ⟨_, _, ⟨_, h⟩, _⟩
    cases h
  refine g_weak [(0, .func (.yield l) #[] #[]), (1, .pointer (some ⟨g1, 0, none⟩)), (2, .pointer (some ⟨g2, 0, none⟩))] ⟨rfl, rfl, rfl, trivial⟩ ?_
  refine R.g_seq ?_
  refine R.g_region ?_
  refine R.l_of rfl (fun h => hL h) (s_val (v := .int .i64 0) (wt0 rfl) rfl rfl (x_assign rfl rfl) ?_)
  refine R.g_nil ?_
  refine g_then ?_
  refine R.g_block ?_
  refine R.g_loop (ι := Nat × Item) (fun (k, C1) => [(0, .func (.yield l) #[] #[]), (1, .pointer (some ⟨g1, 0, none⟩)), (2, .pointer (some ⟨g2, 0, none⟩)), (4, .int .i64 (((2 * k : Nat) : Int)))]) (fun (k, C1) wx => (k ≤ q) ∧ (J (List.range k) C1) ∧ S wx [base, Ob g2 (.cells #[.int .i64 2] 3 (0, 0)), Ob g1 (.cells #[.slice p n c] 22 (0, 0)), C1]) (fun (k, C1) => q - k) (0, C) ⟨rfl, rfl, rfl, rfl, trivial⟩ ⟨Nat.zero_le _, h0, H0⟩ ?_
  rintro ⟨k, C1⟩ wq1 ⟨hk, hJ0, H2⟩
  replace H2 : S wq1 [base, Ob g2 (.cells #[.int .i64 2] 3 (0, 0)), Ob g1 (.cells #[.slice p n c] 22 (0, 0)), C1] := H2
  refine g_weak [(0, .func (.yield l) #[] #[]), (1, .pointer (some ⟨g1, 0, none⟩)), (2, .pointer (some ⟨g2, 0, none⟩)), (4, .int .i64 (((2 * k : Nat) : Int)))] ⟨rfl, rfl, rfl, rfl, trivial⟩ ?_
  refine R.g_seq ?_
  refine R.g_seq ?_
  refine R.g_region ?_
  refine R.l_of rfl (fun h => hL h) (s_val (v := .int .i64 (((2 * k : Nat) : Int))) (wt0 rfl) rfl rfl (x_move rfl rfl) ?_)
  refine R.l_of rfl (fun h => hL h) (s_val (v := .slice p n c) (wt0 rfl) rfl rfl (x_load1 H2 2 rfl rfl Tryz.underlying22 rfl rfl rfl) ?_)
  refine R.l_of rfl (fun h => hL h) (s_val (v := .int .i64 ((n : Int))) (wt0 rfl) rfl rfl (x_lenl rfl rfl Tryz.underlying22) ?_)
  refine R.l_of rfl (fun h => hL h) (s_val (v := .bool (decide ((((2 * k : Nat) : Int) : Int) < (n : Int)))) (wt0 rfl) rfl rfl (x_bin rfl rfl rfl b_lss) ?_)
  refine R.g_nil ?_
  refine g_then ?_
  by_cases hb3 : (((2 * k : Nat) : Int) : Int) < (n : Int)
  · skip
    have hkq : k < q := by omega
    refine R.g_cond_t rfl (decide_eq_true hb3) ?_
    refine R.g_skip ?_
    refine g_then ?_
    refine R.g_seq ?_
    refine R.g_block ?_
    refine R.g_seq ?_
    refine R.g_anyY [] (fun wx => S wx [Ob g2 (.cells #[.int .i64 2] 3 (0, 0)), Ob g1 (.cells #[.slice p n c] 22 (0, 0))]) (fun wx => S wx [Ob g2 (.cells #[.int .i64 2] 3 (0, 0)), Ob g1 (.cells #[.slice p n c] 22 (0, 0))]) [] (by kernel_rfl) (by kernel_rfl) (fun h => hL h) H2 (fun wq4 H5 => ?_)
    refine y_take (v := .int .i64 2) 0 rfl (wt0 rfl) rfl rfl rfl (by kernel_rfl) (by kernel_rfl) (by kernel_rfl) (by kernel_rfl) (by kernel_rfl) (H5.mask [false, true, true, false]) (fun wx H => x_load1 H 0 rfl rfl Tryz.underlying3 rfl rfl rfl) ?_
    refine y_take (v := .slice p n c) 1 rfl (wt0 rfl) rfl rfl rfl (by kernel_rfl) (by kernel_rfl) (by kernel_rfl) (by kernel_rfl) (by kernel_rfl) (H5.mask [false, true, true, false]) (fun wx H => x_load1 H 1 rfl rfl Tryz.underlying22 rfl rfl rfl) ?_
    refine y_pure (v := .int .i64 (((2 * k : Nat) : Int))) 2 rfl (wt0 rfl) rfl rfl rfl (by kernel_rfl) (by kernel_rfl) (by kernel_rfl) (by kernel_rfl) (fun wx => x_move rfl rfl) ?_
    refine y_pure (v := .slice (cutP p (2 * k) c 1) ((n - 2 * k) : Nat) ((c - 2 * k) : Nat)) 3 rfl (wt0 rfl) rfl rfl rfl (by kernel_rfl) (by kernel_rfl) (by kernel_rfl) (by kernel_rfl) (fun wx => x_cut (2 * k) rfl rfl rfl Tryz.underlying22 sz9 (by omega)) ?_
    refine y_pure (v := .int .i64 ((((n - 2 * k) : Nat) : Int))) 4 rfl (wt0 rfl) rfl rfl rfl (by kernel_rfl) (by kernel_rfl) (by kernel_rfl) (by kernel_rfl) (fun wx => x_lenl rfl rfl Tryz.underlying22) ?_
    refine y_pure (v := .int .i64 2) 5 rfl (wt0 rfl) rfl rfl rfl (by kernel_rfl) (by kernel_rfl) (by kernel_rfl) (by kernel_rfl) (fun wx => ex_cast (x_min rfl rfl rfl) (congrArg (Value.int .i64) (by omega))) ?_
    refine y_pure (v := .int .i64 2) 6 rfl (wt0 rfl) rfl rfl rfl (by kernel_rfl) (by kernel_rfl) (by kernel_rfl) (by kernel_rfl) (fun wx => x_assign rfl rfl) ?_
    refine y_done (by kernel_rfl) ?_
    refine g_then ?_
    refine R.g_seq ?_
    refine R.g_region ?_
    refine R.l_of rfl (fun h => hL h) (s_val (v := .func (.yield l) #[] #[]) (wt0 rfl) rfl rfl (x_move rfl rfl) ?_)
    refine R.l_of rfl (fun h => hL h) (s_val (v := .slice p n c) (wt0 rfl) rfl rfl (x_load1 H5 2 rfl rfl Tryz.underlying22 rfl rfl rfl) ?_)
    refine R.l_of rfl (fun h => hL h) (s_val (v := .int .i64 (((2 * k : Nat) : Int))) (wt0 rfl) rfl rfl (x_move rfl rfl) ?_)
    refine R.l_of rfl (fun h => hL h) (s_val (v := .int .i64 (((2 * k : Nat) : Int))) (wt0 rfl) rfl rfl (x_move rfl rfl) ?_)
    refine R.l_of rfl (fun h => hL h) (s_val (v := .int .i64 2) (wt0 rfl) rfl rfl (x_move rfl rfl) ?_)
    refine R.l_of rfl (fun h => hL h) (s_val (v := .int .i64 (((2 * k + 2 : Nat) : Int))) (wt0 rfl) rfl rfl (x_bin rfl rfl rfl (b_addN (a := 2 * k) (b := 2) (by omega))) ?_)
    refine R.l_of rfl (fun h => hL h) (s_val (v := .int .i64 (((2 * k : Nat) : Int))) (wt0 rfl) rfl rfl (x_move rfl rfl) ?_)
    refine R.l_of rfl (fun h => hL h) (s_val (v := .int .i64 2) (wt0 rfl) rfl rfl (x_move rfl rfl) ?_)
    refine R.l_of rfl (fun h => hL h) (s_val (v := .int .i64 (((2 * k + 2 : Nat) : Int))) (wt0 rfl) rfl rfl (x_bin rfl rfl rfl (b_addN (a := 2 * k) (b := 2) (by omega))) ?_)
    refine R.l_of rfl (fun h => hL h) (s_val (v := .slice (p.map fun q => q.add (2 * k * 1)) 2 2) (wt0 rfl) rfl rfl (ex_cast (x_slice3R (2 * k) (2 * k + 2) (2 * k + 2) rfl rfl rfl rfl rfl Tryz.underlying22 sz9 (by omega)) (by rw [Nat.add_sub_cancel_left])) ?_)
    refine l_yield (wt0 rfl) rfl rfl rfl rfl rfl (hY (List.range k) k wq4 _ C1 hJ0 ⟨by simp, hkq⟩ (S.close1 (L := [_, _]) H5)) ?_
    rintro _ wq6 (⟨rfl, C2, hJ2, hS2⟩ | ⟨rfl, C2, hJx, hS2⟩)
    · skip
      refine ⟨_, rfl, ?_⟩
      have H7 : S wq6 [base, Ob g2 (.cells #[.int .i64 2] 3 (0, 0)), Ob g1 (.cells #[.slice p n c] 22 (0, 0)), C2] := hS2.open1
      rw [← List.range_succ] at hJ2
      refine R.l_of rfl (fun h => hL h) (s_val (v := .bool false) (wt0 rfl) rfl rfl (x_not (b := true) rfl rfl) ?_)
      refine R.g_nil ?_
      refine g_then ?_
      refine g_weak [(0, .func (.yield l) #[] #[]), (1, .pointer (some ⟨g1, 0, none⟩)), (2, .pointer (some ⟨g2, 0, none⟩)), (4, .int .i64 (((2 * k : Nat) : Int))), (30, .bool false)] ⟨rfl, rfl, rfl, rfl, rfl, trivial⟩ ?_
      refine R.g_cond_f rfl rfl ?_
      refine R.g_skip ?_
      refine g_in ?_
      refine g_then ?_
      refine R.g_region ?_
      refine R.l_of rfl (fun h => hL h) (s_val (v := .int .i64 (((2 * k : Nat) : Int))) (wt0 rfl) rfl rfl (x_move rfl rfl) ?_)
      refine R.l_of rfl (fun h => hL h) (s_val (v := .int .i64 2) (wt0 rfl) rfl rfl (x_load1 H7 1 rfl rfl Tryz.underlying3 rfl rfl rfl) ?_)
      refine R.l_of rfl (fun h => hL h) (s_val (v := .int .i64 (((2 * (k + 1) : Nat) : Int))) (wt0 rfl) rfl rfl (x_bin rfl rfl rfl (b_add (by rw [w64 (by omega)]; omega))) ?_)
      refine R.l_of rfl (fun h => hL h) (s_val (v := .int .i64 (((2 * (k + 1) : Nat) : Int))) (wt0 rfl) rfl rfl (x_assign rfl rfl) ?_)
      refine R.g_nil ?_
      refine g_then ?_
      refine g_round (i := (k, C1)) (k + 1, C2) ?_ ?_ ?_
      · exact ⟨rfl, rfl, rfl, rfl, trivial⟩
      · exact ⟨by omega, hJ2, H7⟩
      · (try dsimp only); omega
    · skip
      refine ⟨_, rfl, ?_⟩
      have H8 : S wq6 [base, Ob g2 (.cells #[.int .i64 2] 3 (0, 0)), Ob g1 (.cells #[.slice p n c] 22 (0, 0)), C2] := hS2.open1
      refine R.l_of rfl (fun h => hL h) (s_val (v := .bool true) (wt0 rfl) rfl rfl (x_not (b := false) rfl rfl) ?_)
      refine R.g_nil ?_
      refine g_then ?_
      refine g_weak [(0, .func (.yield l) #[] #[]), (1, .pointer (some ⟨g1, 0, none⟩)), (2, .pointer (some ⟨g2, 0, none⟩)), (4, .int .i64 (((2 * k : Nat) : Int))), (30, .bool true)] ⟨rfl, rfl, rfl, rfl, rfl, trivial⟩ ?_
      refine R.g_cond_t rfl rfl ?_
      refine R.g_ret ?_
      refine g_in_ret ?_
      refine g_then_ret ?_
      refine g_then_ret ?_
      refine g_in_ret ?_
      refine fin_ret [] [] rfl trivial ?_
      exact ⟨⟨_, rfl⟩, .inr ⟨_, _, trivial, hJx, (H8.mask [true, false, false, true])⟩⟩
  · skip
    refine R.g_cond_f rfl (decide_eq_false hb3) ?_
    refine R.g_exit ?_
    refine g_then_exit ?_
    refine g_then_exit ?_
    refine g_in_hit ?_
    refine fin_end [] [] rfl trivial ?_
    have hk2 : k = q := by omega
    subst hk2
    exact ⟨⟨_, rfl⟩, .inl ⟨_, _, rfl, hJ0, (H2.mask [true, false, false, true])⟩⟩
end Go.Proofs.YtlajgickimgigaaGreat
namespace Go.Proofs.YtlajgickimgigaaGreat
open Go.RowKit

section
variable {P : Program} {N : Nat} {f : Fr} {ds : List Deferred} {w : World} {ops : Array Oper} {Q : Exit → Act → World → Prop} {K : Act → World → Prop} {o : Oper} {L : List Item}
/-- append to a slice that is only read and has no room: a new block. -/
theorem s_appendFull {d t e size bytes n m c : Nat} {s x : Operand} {z : Value} {xs news : List Value} {p q : Option Addr} (H : S w L) (hw : Wt ops f o) (hd : o.dst = some d) (hN : Nat.blt d N = true)
    (ho : o.op = .call { callee := .builtin .append, args := #[s, x], argTypes := #[t, t] }) (hs : evo f s = some (.slice p n n)) (hx : evo f x = some (.slice q m c)) (hr0 : Reads w p n n size xs) (hn : 0 < n)
    (ht : P.underlying t = some (.slice e)) (hi : infO P e = some (some z, size, bytes)) (hz : z.cells.size = size) (hsz : 0 < size) (hb0 : 0 < bytes) (hr : Reads w q m c size news) (hm : 0 < m) (h1 : news.all (·.oneCell') = true)
    (hb : (n + m) * bytes ≤ 140737488355328)
    (h : ∀ p' c' w', S w' (Rw e size p' (n + m) c' (xs ++ news) :: L) → G N K ((d, .slice p' (n + m) c') :: f) ds w') : G N (StepK P ops Q o K) f ds w := by
  obtain ⟨i, hi1, hi2, hi3, hi4⟩ := inf_of hi
  have h63 : n + m ≤ maxLen := by
    have : n + m ≤ (n + m) * bytes := Nat.le_mul_of_pos_right _ hb0
    unfold maxLen; omega
  obtain ⟨k1, _, k3⟩ := hr0
  obtain ⟨a, rfl, hold⟩ := k3 hn
  obtain ⟨q1, _, q3⟩ := hr
  obtain ⟨ad, rfl, hnews⟩ := q3 hm
  have hlen : (xs ++ news).length = (n + m) * size := by rw [List.length_append, k1, q1, Nat.add_mul]
  obtain ⟨v', w', hr, hown, hg⟩ := run_append_arg_grows (P := P) w t o.type e i z size bytes ht hi1 hi2 hi3 hi4 hz hsz a n n xs k1 hold ad m c news q1 hnews (by omega) h63 hb
  rcases hown.2 with ⟨_, h0⟩ | ⟨g, cap, cur, rfl, hge, hgg, hle, hmx, hcs, htk⟩
  · omega
  · have hS : S w' (Rw e size (some ⟨g, 0, none⟩) (n + m) cap (xs ++ news) :: L) := by
      refine (H.move ⟨hg.os, hg.tape, hg.output, hg.size, fun b hb => hg.block b hb (by simp)⟩).cons ⟨hlen, hle, hmx, .inr ⟨g, 0, cur, rfl, hgg, by omega, fun j u hu => ?_⟩⟩ (fun b hb => ?_) (fun x hx b hb hb' => ?_)
      · rw [Nat.zero_add, ← Array.getElem?_toList]
        rw [← htk, List.getElem?_take] at hu
        split at hu
        · exact hu
        · cases hu
      · obtain ⟨q, hq⟩ := hb; cases hq
        exact (Array.getElem?_eq_some_iff.1 hgg).1
      · obtain ⟨q, hq⟩ := hb; cases hq
        have := (H.1 x hx).2 _ hb'
        omega
    exact s_val hw hd hN (x_builtin (vs := [.slice (some a) n n, .slice (some ad) m c]) ho (by simp only [Array.toList, evs, hs, hx]) (fun cs => by
      simp only [builtin, Sem.run_bind, hr, Result.andThen_ok, Sem.run_pure])) (h _ _ w' hS)
end
theorem reads_clip {w : World} {p : Option Addr} {n c : Nat} {xs : List Value} (hr : Reads w p n c 1 xs) (hn : 0 < n) : Reads w (if n = 0 then p else p.map fun q => q.add (0 * 1)) n n 1 xs := by
  obtain ⟨k1, k2, k3⟩ := hr
  obtain ⟨a, rfl, hc⟩ := k3 hn
  rw [if_neg (by omega)]
  refine ⟨k1, Nat.le_refl _, fun _ => ⟨a.add (0 * 1), rfl, fun j u hu => ?_⟩⟩
  rw [addr_add, show 0 * 1 + j = j from by omega]
  exact hc j u hu
/-! ## The levels that count -/
def padL (k : Nat) (l : List ByteArray) : List ByteArray := if l.length % 2 = 1 then l ++ [zeroS k] else l
def nextS (k : Nat) (l : List ByteArray) : List ByteArray := upS (padL k l)
def lvlS (k : Nat) (l : List ByteArray) : Nat → List ByteArray
  | 0 => l
  | j + 1 => nextS (k + j) (lvlS k l j)
theorem padL_even (k : Nat) (l : List ByteArray) : ∃ q, (padL k l).length = 2 * q := by
  unfold padL
  split
  · exact ⟨(l.length + 1) / 2, by rw [List.length_append, List.length_singleton]; omega⟩
  · exact ⟨l.length / 2, by omega⟩
theorem padL_le (k : Nat) (l : List ByteArray) : (padL k l).length ≤ l.length + 1 := by
  unfold padL
  split
  · simp
  · omega
theorem nextS_len (k : Nat) (l : List ByteArray) : (nextS k l).length = (padL k l).length / 2 := upS_len _
theorem nextS_le (k : Nat) (l : List ByteArray) : (nextS k l).length ≤ l.length := by
  rw [nextS_len]
  unfold padL
  split
  · rw [List.length_append, List.length_singleton]; omega
  · omega
theorem padL_size {k : Nat} {l : List ByteArray} {B : Nat} (hB : 32 ≤ B) (h : ∀ s ∈ l, s.size ≤ B) : ∀ s ∈ padL k l, s.size ≤ B := by
  intro s hs
  unfold padL at hs
  split at hs
  · rcases List.mem_append.1 hs with hs | hs
    · exact h s hs
    · rw [List.mem_singleton] at hs; subst hs; rw [zeroS_size]; exact hB
  · exact h s hs
theorem lvlS_size {k : Nat} {l : List ByteArray} {B : Nat} (hB : 32 ≤ B) (h : ∀ s ∈ l, s.size ≤ B) : ∀ j, ∀ s ∈ lvlS k l j, s.size ≤ B
  | 0 => h
  | j + 1 => fun s hs => by rw [upS_size s hs]; exact hB
theorem lvlS_le (k : Nat) (l : List ByteArray) : ∀ j, (lvlS k l j).length ≤ l.length
  | 0 => Nat.le_refl _
  | j + 1 => Nat.le_trans (nextS_le _ _) (lvlS_le k l j)
theorem getD_size {l : List ByteArray} {B i : Nat} (h : ∀ s ∈ l, s.size ≤ B) (hi : i < l.length) : (l.getD i ⟨#[]⟩).size ≤ B := by
  rw [List.getD_eq_getElem?_getD, List.getElem?_eq_getElem hi]; exact h _ (List.getElem_mem hi)
theorem S.nilBig {w : World} {L : List Item} (h : S w L) : S w (Big [] :: L) := h.cons (S.nil w) (fun g hg => by obtain ⟨_, h, _⟩ := hg; cases h) (fun _ _ g hg => by obtain ⟨_, h, _⟩ := hg; cases h)
end Go.Proofs.YtlajgickimgigaaGreat
namespace Go.Proofs.YtlajgickimgigaaGreat
open Go.RowKit

theorem cl28 : callable Tryz.prog 28 = true := by kernel_rfl
theorem cl29 : callable Tryz.prog 29 = true := by kernel_rfl
set_option maxRecDepth 20000 in
set_option maxHeartbeats 4000000 in
theorem zero_s (v : Nat) (hv : v ≤ 1000) (w : World) : Calls Tryz.prog 71 #[.int .i64 ((v : Int))] w fun e w' => e = .returned (.string (zeroS v)) ∧ S w' [Old w no] := by
  have H0 := S.old w
  refine enter 13 Tryz.func71 rfl rfl rfl ?_
  refine g_weak [(0, .int .i64 ((v : Int)))] ⟨rfl, trivial⟩ ?_
  refine g_seq ?_
  refine g_region ?_
  refine l_of (s_val (v := .string (⟨#[]⟩)) (wt0 rfl) rfl rfl (x_assign rfl rfl) ?_)
  refine g_nil ?_
  refine g_then ?_
  refine g_seq ?_
  refine g_region ?_
  refine l_of (s_call (wt0 rfl) (x_call' rfl rfl cl29) (zero_h _) ?_)
  rintro _ wq1 ⟨rfl, H2⟩
  replace H2 : S wq1 [Old w no] := H0.absorb (new := []) H2
  refine b_ret rfl rfl ?_
  refine l_of (s_val (v := .string zeroB) (wt0 rfl) rfl rfl (x_assign rfl rfl) ?_)
  refine g_nil ?_
  refine g_then ?_
  refine g_seq ?_
  refine g_seq ?_
  refine g_region ?_
  refine l_of (s_val (v := .int .i64 ((v : Int))) (wt0 rfl) rfl rfl (x_move rfl rfl) ?_)
  refine l_of (s_val (v := .int .i64 0) (wt0 rfl) rfl rfl (x_move rfl rfl) ?_)
  refine g_nil ?_
  refine g_then ?_
  refine g_block ?_
  refine g_loop (ι := Nat) (fun i => [(3, .string ((zeroS i))), (5, .int .i64 ((v : Int))), (6, .int .i64 ((i : Int)))]) (fun i wx => (i ≤ v) ∧ S wx [Old w no]) (fun i => v - i) (0) ⟨rfl, rfl, rfl, trivial⟩ ⟨Nat.zero_le _, H2⟩ ?_
  rintro i wq3 ⟨hi, H4⟩
  replace H4 : S wq3 [Old w no] := H4
  refine g_weak [(3, .string ((zeroS i))), (5, .int .i64 ((v : Int))), (6, .int .i64 ((i : Int)))] ⟨rfl, rfl, rfl, trivial⟩ ?_
  have hz := zeroS_size i
  refine g_seq ?_
  refine g_region ?_
  refine l_of (s_val (v := .bool (decide (((i : Int) : Int) < (v : Int)))) (wt0 rfl) rfl rfl (x_bin rfl rfl rfl b_lss) ?_)
  refine g_nil ?_
  refine g_then ?_
  refine g_seq ?_
  by_cases hb5 : ((i : Int) : Int) < (v : Int)
  · skip
    refine g_cond_t rfl (decide_eq_true hb5) ?_
    refine g_skip ?_
    refine g_then ?_
    refine g_seq ?_
    refine g_block ?_
    refine g_region ?_
    refine l_of (s_val (v := .string ((zeroS i))) (wt0 rfl) rfl rfl (x_move rfl rfl) ?_)
    refine l_of (s_val (v := .string ((zeroS i))) (wt0 rfl) rfl rfl (x_move rfl rfl) ?_)
    refine l_of (s_call (wt0 rfl) (x_call' rfl rfl cl28) (pair_h _ _ (by omega) _) ?_)
    rintro _ wq6 ⟨rfl, H7⟩
    replace H7 : S wq6 [Old w no] := H4.absorb (new := []) H7
    refine b_ret rfl rfl ?_
    refine l_of (s_val (v := .string ((pairS (zeroS i) (zeroS i)))) (wt0 rfl) rfl rfl (x_assign rfl rfl) ?_)
    refine g_nil ?_
    refine g_in ?_
    refine g_then ?_
    refine g_region ?_
    refine l_of (s_val (v := .int .i64 ((i : Int) + 1)) (wt0 rfl) rfl rfl (x_bin rfl rfl rfl (b_add (w64 (by omega)))) ?_)
    refine l_of (s_val (v := .int .i64 ((i : Int) + 1)) (wt0 rfl) rfl rfl (x_move rfl rfl) ?_)
    refine g_nil ?_
    refine g_then ?_
    refine g_round (i := (i)) (i + 1) ?_ ?_ ?_
    · exact ⟨rfl, rfl, rfl, trivial⟩
    · exact ⟨by omega, H7⟩
    · (try dsimp only); omega
  · skip
    refine g_cond_f rfl (decide_eq_false hb5) ?_
    refine g_exit ?_
    refine g_then_exit ?_
    refine g_then_exit ?_
    refine g_in_hit ?_
    refine g_then ?_
    refine g_seq ?_
    refine g_region ?_
    refine l_of (s_val (v := .string ((zeroS i))) (wt0 rfl) rfl rfl (x_move rfl rfl) ?_)
    refine l_of (s_val (v := .string ((zeroS i))) (wt0 rfl) rfl rfl (x_assign rfl rfl) ?_)
    refine g_nil ?_
    refine g_then ?_
    refine g_ret ?_
    refine fin_ret [.tmp 2] [.string ((zeroS i))] rfl ⟨rfl, trivial⟩ ?_
    have hiv : i = v := by omega
    exact ⟨by rw [hiv]; rfl, H4.mask [true]⟩
set_option maxRecDepth 20000 in
set_option maxHeartbeats 4000000 in
set_option maxRecDepth 20000 in
set_option maxHeartbeats 4000000 in
theorem clone_s (l : List ByteArray) (p : Option Addr) (m c : Nat) (h1 : 0 < m) (hm : m ≤ 1099511627776) (w : World) (hr : Reads w p m c 1 (stV l)) : Calls Tryz.prog 68 #[.slice p m c] w fun e w' => ∃ p' c', e = .returned (.slice p' m c') ∧ S w' ([Rw 9 1 p' m c' (stV l)] ++ [Old w no]) := by
  have H0 := S.old w
  obtain ⟨a, rfl⟩ : ∃ a, p = some a := (hr.2.2 h1).imp fun _ h => h.1
  refine enter 8 Tryz.func68 rfl rfl rfl ?_
  refine g_weak [(0, .slice (some a) m c)] ⟨rfl, trivial⟩ ?_
  refine g_seq ?_
  refine g_region ?_
  refine l_of (s_val (v := .slice none 0 0) (wt0 rfl) rfl rfl (x_assign rfl rfl) ?_)
  refine g_nil ?_
  refine g_then ?_
  refine g_seq ?_
  refine g_seq ?_
  refine g_region ?_
  refine l_of (s_val (v := .slice (some a) m c) (wt0 rfl) rfl rfl (x_move rfl rfl) ?_)
  refine l_of (s_val (v := .bool false) (wt0 rfl) rfl rfl (x_bin rfl rfl rfl (b_eqN (r := false) Tryz.underlying22 rfl)) ?_)
  refine g_nil ?_
  refine g_then ?_
  refine g_cond_f rfl rfl ?_
  refine g_skip ?_
  refine g_then ?_
  refine g_seq ?_
  refine g_region ?_
  refine l_of (s_buildSlice0 H0 (wt0 rfl) rfl rfl rfl Tryz.underlying22 sz9 ?_)
  intro g1 wq2 H4
  have H3 : S wq2 [Rw 9 1 (some ⟨g1, 0, none⟩) 0 0 (stV []), Old w no] := H4.obRw (k := 0) (n := 0) rfl rfl (by decide)
  refine l_of (s_val (v := .slice (some a) m c) (wt0 rfl) rfl rfl (x_move rfl rfl) ?_)
  refine l_of (s_appendW (n := 0) (m := m) (sc := 0) (xs := stV []) (news := stV l) (p := (some ⟨g1, 0, none⟩)) (q := some a) H3 0 (wt0 rfl) rfl rfl rfl rfl rfl rfl Tryz.underlying22 inf9 rfl (by decide) (by decide) (H3.oldReads (k := 1) rfl hr) (stV_one l) (by omega) ?_)
  intro p5 c6 wq7 H8
  rw [Nat.zero_add] at H8 ⊢
  replace H8 : S wq7 [Rw 9 1 p5 m c6 (stV l), Old w no] := H8
  refine l_of (s_val (v := .slice p5 m c6) (wt0 rfl) rfl rfl (x_assign rfl rfl) ?_)
  refine g_nil ?_
  refine g_then ?_
  refine g_ret ?_
  refine fin_ret [.tmp 2] [.slice p5 m c6] rfl ⟨rfl, trivial⟩ ?_
  exact ⟨_, _, rfl, H8⟩
set_option maxRecDepth 20000 in
set_option maxHeartbeats 4000000 in
theorem levels_s (k : Int) (p : Option Addr) (n c : Nat)  (w : World) : Calls Tryz.prog 33 #[.int .i64 k, .slice p n c, .func (.func 28) #[] #[]] w fun e w' => ∃ b1 b2 b3, e = .returned (.func (.func 69) #[] #[.pointer (some ⟨b1, 0, none⟩), .pointer (some ⟨b2, 0, none⟩), .pointer (some ⟨b3, 0, none⟩)]) ∧ S w' ([Ob b3 (.cells #[.func (.func 28) #[] #[]] 61 (0, 0)), Ob b2 (.cells #[.slice p n c] 22 (0, 0)), Ob b1 (.cells #[.int .i64 k] 3 (0, 0))] ++ [Old w no]) := by
  have H0 := S.old w
  refine enter 8 Tryz.func33 rfl rfl rfl ?_
  refine g_weak [(0, .int .i64 k), (1, .slice p n c), (2, .func (.func 28) #[] #[])] ⟨rfl, rfl, rfl, trivial⟩ ?_
  refine g_seq ?_
  refine g_region ?_
  refine l_of (s_box H0 (wt0 rfl) rfl rfl rfl rfl ?_)
  intro g1 wq2 H3
  refine l_of (s_box H3 (wt0 rfl) rfl rfl rfl rfl ?_)
  intro g4 wq5 H6
  refine l_of (s_box H6 (wt0 rfl) rfl rfl rfl rfl ?_)
  intro g7 wq8 H9
  refine l_of (s_val (v := .nilFunc) (wt0 rfl) rfl rfl (x_assign rfl rfl) ?_)
  refine g_nil ?_
  refine g_then ?_
  refine g_seq ?_
  refine g_region ?_
  refine l_of (s_val (v := .func (.func 69) #[] #[.pointer (some ⟨g1, 0, none⟩), .pointer (some ⟨g4, 0, none⟩), .pointer (some ⟨g7, 0, none⟩)]) (wt0 rfl) rfl rfl (x_makeFunc rfl rfl rfl) ?_)
  refine l_of (s_val (v := .func (.func 69) #[] #[.pointer (some ⟨g1, 0, none⟩), .pointer (some ⟨g4, 0, none⟩), .pointer (some ⟨g7, 0, none⟩)]) (wt0 rfl) rfl rfl (x_assign rfl rfl) ?_)
  refine g_nil ?_
  refine g_then ?_
  refine g_ret ?_
  refine fin_ret [.tmp 6] [.func (.func 69) #[] #[.pointer (some ⟨g1, 0, none⟩), .pointer (some ⟨g4, 0, none⟩), .pointer (some ⟨g7, 0, none⟩)]] rfl ⟨rfl, trivial⟩ ?_
  exact ⟨_, _, _, rfl, H9⟩
end Go.Proofs.YtlajgickimgigaaGreat
