import Derived.Test.YtlajgickimgigaaUB
set_option linter.unusedSimpArgs false
set_option linter.unusedVariables false
namespace Go.Proofs.Ytlajgickimgigaa
open Go.RowKit

theorem cl56 : callable Try.prog 56 = true := by kernel_rfl
theorem cl88 : callable Try.prog 88 = true := by kernel_rfl
def encB (p : Option Addr) (n i : Nat) : Array Value := #[.slice (p.map fun q => q.add (16 * i * 1)) (min 16 (n - 16 * i)) (min 16 (n - 16 * i))]
theorem chunkB_list {s : ByteArray} {k : Nat} (h : 16 * k < s.size) : (chunkB s k).data.toList = (s.data.toList.drop (16 * k)).take (min 16 (s.size - 16 * k)) := by
  have e : s.data.toList.length = s.size := by simp
  unfold chunkB
  rw [show (s.extract (16 * k) (min (16 * k + 16) s.size)).data = s.data.extract (16 * k) (min (16 * k + 16) s.size) from ByteArray.data_extract]
  rw [Array.toList_extract, List.extract_eq_take_drop, show min (16 * k + 16) s.size - 16 * k = min 16 (s.size - 16 * k) from by omega]
theorem reads_chunk {s : ByteArray} {k c : Nat} {p : Option Addr} {w : World} (hr : Reads w p s.size c 1 (bytesV s.data.toList)) (h : 16 * k < s.size) :
    Reads w (p.map fun q => q.add (16 * k * 1)) (min 16 (s.size - 16 * k)) (min 16 (s.size - 16 * k)) 1 (bytesV (chunkB s k).data.toList) := by
  have e : s.data.toList.length = s.size := by simp
  obtain ⟨k1, k2, k3⟩ := hr
  obtain ⟨a, rfl, hc⟩ := k3 (by omega)
  refine ⟨?_, Nat.le_refl _, fun _ => ⟨a.add (16 * k * 1), rfl, fun j u hu => ?_⟩⟩
  · rw [chunkB_list h]; unfold bytesV; rw [List.length_map, List.length_take, List.length_drop]; omega
  · rw [addr_add]
    refine hc _ _ ?_
    rw [chunkB_list h] at hu
    unfold bytesV at hu ⊢
    rw [List.map_take, List.map_drop] at hu
    have hj : j < min 16 (s.size - 16 * k) := by
      have := (List.getElem?_eq_some_iff.1 hu).1
      rw [List.length_take] at this; omega
    rw [List.getElem?_take_of_lt hj, List.getElem?_drop] at hu
    rw [show 16 * k * 1 + j = 16 * k + j from by omega]; exact hu
theorem reads_text {w : World} {g c e : Nat} {cs : Array Value} {fr : Nat × Nat} {s : ByteArray} {L : List Item} {k : Nat} (H : S w L) (hk : L[k]? = some (Ob g (.cells cs e fr))) (hcs : ∀ j, j < s.size → cs[j]? = some (.int .u8 ((s.data.toList.getD j 0).toNat : Nat))) (hc : s.size ≤ c) :
    Reads w (some ⟨g, 0, none⟩) s.size c 1 (bytesV s.data.toList) := by
  have e1 : s.data.toList.length = s.size := by simp
  refine ⟨by unfold bytesV; rw [List.length_map, e1]; omega, hc, fun _ => ⟨_, rfl, fun j u hu => ?_⟩⟩
  have hj : j < s.size := by have := (List.getElem?_eq_some_iff.1 hu).1; unfold bytesV at this; rw [List.length_map, e1] at this; exact this
  have hu2 : u = .int .u8 ((s.data.toList.getD j 0).toNat : Nat) := by
    unfold bytesV at hu
    rw [List.getElem?_map, List.getElem?_eq_getElem (by rw [e1]; exact hj)] at hu
    rw [List.getD_eq_getElem?_getD, List.getElem?_eq_getElem (by rw [e1]; exact hj)]
    simpa using hu.symm
  have := H.cell (i := j) hk (hcs j hj)
  rw [hu2, add_lit', Nat.zero_add]; exact this
set_option maxRecDepth 20000 in
set_option maxHeartbeats 4000000 in
set_option maxRecDepth 20000 in
set_option maxHeartbeats 4000000 in
theorem chunkB_s (p : Option Addr) (n c : Nat) (w : World) : Calls Try.prog 56 #[.slice p n c, .int .i64 16] w fun e w' => ∃ g1 g2, e = .returned (.func (.func 88) #[] #[.pointer (some ⟨g1, 0, none⟩), .pointer (some ⟨g2, 0, none⟩)]) ∧ S w' ([Ob g2 (.cells #[.int .i64 16] 3 (0, 0)), Ob g1 (.cells #[.slice p n c] 75 (0, 0))] ++ [Old w no]) := by
  have H0 := S.old w
  refine enter 9 Try.func56 rfl rfl rfl ?_
  refine g_weak [(0, .slice p n c), (1, .int .i64 16)] ⟨rfl, rfl, trivial⟩ ?_
  refine g_seq ?_
  refine g_region ?_
  refine l_of (s_box H0 (wt0 rfl) rfl rfl rfl rfl ?_)
  intro g1 wq2 H3
  refine l_of (s_box H3 (wt0 rfl) rfl rfl rfl rfl ?_)
  intro g4 wq5 H6
  refine l_of (s_val (v := .nilFunc) (wt0 rfl) rfl rfl (x_assign rfl rfl) ?_)
  refine g_nil ?_
  refine g_then ?_
  refine g_seq ?_
  refine g_seq ?_
  refine g_region ?_
  refine l_of (s_val (v := .int .i64 16) (wt0 rfl) rfl rfl (x_load1 H6 0 rfl rfl Try.underlying3 rfl rfl rfl) ?_)
  refine l_of (s_val (v := .bool (decide ((16 : Int) < 1))) (wt0 rfl) rfl rfl (x_bin rfl rfl rfl b_lss) ?_)
  refine g_nil ?_
  refine g_then ?_
  refine g_cond_f rfl (by decide) ?_
  refine g_skip ?_
  refine g_then ?_
  refine g_seq ?_
  refine g_region ?_
  refine l_of (s_val (v := .func (.func 88) #[] #[.pointer (some ⟨g1, 0, none⟩), .pointer (some ⟨g4, 0, none⟩)]) (wt0 rfl) rfl rfl (x_makeFunc rfl rfl rfl) ?_)
  refine l_of (s_val (v := .func (.func 88) #[] #[.pointer (some ⟨g1, 0, none⟩), .pointer (some ⟨g4, 0, none⟩)]) (wt0 rfl) rfl rfl (x_assign rfl rfl) ?_)
  refine g_nil ?_
  refine g_then ?_
  refine g_ret ?_
  refine fin_ret [.tmp 4] [.func (.func 88) #[] #[.pointer (some ⟨g1, 0, none⟩), .pointer (some ⟨g4, 0, none⟩)]] rfl ⟨rfl, trivial⟩ ?_
  exact ⟨_, _, rfl, H6⟩
set_option maxRecDepth 20000 in
set_option maxHeartbeats 4000000 in
set_option maxRecDepth 20000 in
set_option maxHeartbeats 4000000 in
theorem chunkB_it {n0 q : Nat} {p : Option Addr} {g1 g2 n c : Nat} {base : Item} (hn : q = (n + 15) / 16) (hc : n ≤ c) (hn6 : n ≤ 1099511627776) :
    IterS n0 Try.prog 88 #[.pointer (some ⟨g1, 0, none⟩), .pointer (some ⟨g2, 0, none⟩)] (encB p n) base (fun pre i _ => i = pre.length ∧ i < q) (fun _ => True) (fun xs => xs = List.range q) (fun _ => True) (Big [Ob g2 (.cells #[.int .i64 16] 3 (0, 0)), Ob g1 (.cells #[.slice p n c] 75 (0, 0))]) := by
  intro l J Jx W C hOk hY h0 HS
  have H0 := HS.open1
  replace H0 : S W [base, Ob g2 (.cells #[.int .i64 16] 3 (0, 0)), Ob g1 (.cells #[.slice p n c] 75 (0, 0)), C] := H0
  refine enter_ci 31 Try.func88 rfl rfl rfl ?_
  have hL : ¬ LetsOut (bodyPost Try.prog Try.f88 fun e W' => (∃ v, e = .returned v) ∧ ((∃ xs C, xs = List.range q ∧ J xs C ∧ S W' [base, C]) ∨ (∃ pre C, True ∧ Jx pre C ∧ S W' [base, C]))) := by
    rintro ⟨_, _, ⟨_, h⟩, _⟩
    cases h
  refine g_weak [(0, .func (.yield l) #[] #[]), (1, .pointer (some ⟨g1, 0, none⟩)), (2, .pointer (some ⟨g2, 0, none⟩))] ⟨rfl, rfl, rfl, trivial⟩ ?_
  refine R.g_seq ?_
  refine R.g_region ?_
  refine R.l_of rfl (fun h => hL h) (s_val (v := .int .i64 0) (wt0 rfl) rfl rfl (x_assign rfl rfl) ?_)
  refine R.g_nil ?_
  refine g_then ?_
  refine R.g_block ?_
  refine R.g_loop (ι := Nat × Item) (fun (k, C1) => [(0, .func (.yield l) #[] #[]), (1, .pointer (some ⟨g1, 0, none⟩)), (2, .pointer (some ⟨g2, 0, none⟩)), (4, .int .i64 (((16 * k : Nat) : Int)))]) (fun (k, C1) wx => (k ≤ q) ∧ (J (List.range k) C1) ∧ S wx [base, Ob g2 (.cells #[.int .i64 16] 3 (0, 0)), Ob g1 (.cells #[.slice p n c] 75 (0, 0)), C1]) (fun (k, C1) => q - k) (0, C) ⟨rfl, rfl, rfl, rfl, trivial⟩ ⟨Nat.zero_le _, h0, H0⟩ ?_
  rintro ⟨k, C1⟩ wq1 ⟨hk, hJ0, H2⟩
  replace H2 : S wq1 [base, Ob g2 (.cells #[.int .i64 16] 3 (0, 0)), Ob g1 (.cells #[.slice p n c] 75 (0, 0)), C1] := H2
  refine g_weak [(0, .func (.yield l) #[] #[]), (1, .pointer (some ⟨g1, 0, none⟩)), (2, .pointer (some ⟨g2, 0, none⟩)), (4, .int .i64 (((16 * k : Nat) : Int)))] ⟨rfl, rfl, rfl, rfl, trivial⟩ ?_
  refine R.g_seq ?_
  refine R.g_seq ?_
  refine R.g_region ?_
  refine R.l_of rfl (fun h => hL h) (s_val (v := .int .i64 (((16 * k : Nat) : Int))) (wt0 rfl) rfl rfl (x_move rfl rfl) ?_)
  refine R.l_of rfl (fun h => hL h) (s_val (v := .slice p n c) (wt0 rfl) rfl rfl (x_load1 H2 2 rfl rfl Try.underlying75 rfl rfl rfl) ?_)
  refine R.l_of rfl (fun h => hL h) (s_val (v := .int .i64 ((n : Int))) (wt0 rfl) rfl rfl (x_lenl rfl rfl Try.underlying75) ?_)
  refine R.l_of rfl (fun h => hL h) (s_val (v := .bool (decide ((((16 * k : Nat) : Int) : Int) < (n : Int)))) (wt0 rfl) rfl rfl (x_bin rfl rfl rfl b_lss) ?_)
  refine R.g_nil ?_
  refine g_then ?_
  by_cases hb3 : (((16 * k : Nat) : Int) : Int) < (n : Int)
  · skip
    have hkq : k < q := by omega
    refine R.g_cond_t rfl (decide_eq_true hb3) ?_
    refine R.g_skip ?_
    refine g_then ?_
    refine R.g_seq ?_
    refine R.g_block ?_
    refine R.g_seq ?_
    refine R.g_anyY [] (fun wx => S wx [Ob g2 (.cells #[.int .i64 16] 3 (0, 0)), Ob g1 (.cells #[.slice p n c] 75 (0, 0))]) (fun wx => S wx [Ob g2 (.cells #[.int .i64 16] 3 (0, 0)), Ob g1 (.cells #[.slice p n c] 75 (0, 0))]) [] (by kernel_rfl) (by kernel_rfl) (fun h => hL h) H2 (fun wq4 H5 => ?_)
    refine y_take (v := .int .i64 16) 0 rfl (wt0 rfl) rfl rfl rfl (by kernel_rfl) (by kernel_rfl) (by kernel_rfl) (by kernel_rfl) (by kernel_rfl) (H5.mask [false, true, true, false]) (fun wx H => x_load1 H 0 rfl rfl Try.underlying3 rfl rfl rfl) ?_
    refine y_take (v := .slice p n c) 1 rfl (wt0 rfl) rfl rfl rfl (by kernel_rfl) (by kernel_rfl) (by kernel_rfl) (by kernel_rfl) (by kernel_rfl) (H5.mask [false, true, true, false]) (fun wx H => x_load1 H 1 rfl rfl Try.underlying75 rfl rfl rfl) ?_
    refine y_pure (v := .int .i64 (((16 * k : Nat) : Int))) 2 rfl (wt0 rfl) rfl rfl rfl (by kernel_rfl) (by kernel_rfl) (by kernel_rfl) (by kernel_rfl) (fun wx => x_move rfl rfl) ?_
    refine y_pure (v := .slice (cutP p (16 * k) c 1) ((n - 16 * k) : Nat) ((c - 16 * k) : Nat)) 3 rfl (wt0 rfl) rfl rfl rfl (by kernel_rfl) (by kernel_rfl) (by kernel_rfl) (by kernel_rfl) (fun wx => x_cut (16 * k) rfl rfl rfl Try.underlying75 sz5 (by omega)) ?_
    refine y_pure (v := .int .i64 ((((n - 16 * k) : Nat) : Int))) 4 rfl (wt0 rfl) rfl rfl rfl (by kernel_rfl) (by kernel_rfl) (by kernel_rfl) (by kernel_rfl) (fun wx => x_lenl rfl rfl Try.underlying75) ?_
    refine y_pure (v := .int .i64 (((min 16 (n - 16 * k) : Nat) : Int))) 5 rfl (wt0 rfl) rfl rfl rfl (by kernel_rfl) (by kernel_rfl) (by kernel_rfl) (by kernel_rfl) (fun wx => ex_cast (x_min rfl rfl rfl) (congrArg (Value.int .i64) (show _ = ((min 16 (n - 16 * k) : Nat) : Int) by omega))) ?_
    refine y_pure (v := .int .i64 (((min 16 (n - 16 * k) : Nat) : Int))) 6 rfl (wt0 rfl) rfl rfl rfl (by kernel_rfl) (by kernel_rfl) (by kernel_rfl) (by kernel_rfl) (fun wx => x_assign rfl rfl) ?_
    refine y_done (by kernel_rfl) ?_
    refine g_then ?_
    refine R.g_seq ?_
    refine R.g_region ?_
    refine R.l_of rfl (fun h => hL h) (s_val (v := .func (.yield l) #[] #[]) (wt0 rfl) rfl rfl (x_move rfl rfl) ?_)
    refine R.l_of rfl (fun h => hL h) (s_val (v := .slice p n c) (wt0 rfl) rfl rfl (x_load1 H5 2 rfl rfl Try.underlying75 rfl rfl rfl) ?_)
    refine R.l_of rfl (fun h => hL h) (s_val (v := .int .i64 (((16 * k : Nat) : Int))) (wt0 rfl) rfl rfl (x_move rfl rfl) ?_)
    refine R.l_of rfl (fun h => hL h) (s_val (v := .int .i64 (((16 * k : Nat) : Int))) (wt0 rfl) rfl rfl (x_move rfl rfl) ?_)
    refine R.l_of rfl (fun h => hL h) (s_val (v := .int .i64 (((min 16 (n - 16 * k) : Nat) : Int))) (wt0 rfl) rfl rfl (x_move rfl rfl) ?_)
    refine R.l_of rfl (fun h => hL h) (s_val (v := .int .i64 (((16 * k + (min 16 (n - 16 * k)) : Nat) : Int))) (wt0 rfl) rfl rfl (x_bin rfl rfl rfl (b_addN (a := 16 * k) (b := (min 16 (n - 16 * k))) (by omega))) ?_)
    refine R.l_of rfl (fun h => hL h) (s_val (v := .int .i64 (((16 * k : Nat) : Int))) (wt0 rfl) rfl rfl (x_move rfl rfl) ?_)
    refine R.l_of rfl (fun h => hL h) (s_val (v := .int .i64 (((min 16 (n - 16 * k) : Nat) : Int))) (wt0 rfl) rfl rfl (x_move rfl rfl) ?_)
    refine R.l_of rfl (fun h => hL h) (s_val (v := .int .i64 (((16 * k + (min 16 (n - 16 * k)) : Nat) : Int))) (wt0 rfl) rfl rfl (x_bin rfl rfl rfl (b_addN (a := 16 * k) (b := (min 16 (n - 16 * k))) (by omega))) ?_)
    refine R.l_of rfl (fun h => hL h) (s_val (v := .slice (p.map fun q => q.add (16 * k * 1)) (min 16 (n - 16 * k)) (min 16 (n - 16 * k))) (wt0 rfl) rfl rfl (ex_cast (x_slice3R (16 * k) (16 * k + (min 16 (n - 16 * k))) (16 * k + (min 16 (n - 16 * k))) rfl rfl rfl rfl rfl Try.underlying75 sz5 (by omega)) (by rw [Nat.add_sub_cancel_left])) ?_)
    refine l_yield (wt0 rfl) rfl rfl rfl rfl rfl (hY (List.range k) k wq4 _ C1 hJ0 ⟨by simp, hkq⟩ (S.close1 (L := [_, _]) H5)) ?_
    rintro _ wq6 (⟨rfl, C2, hJ2, hS2⟩ | ⟨rfl, C2, hJx, hS2⟩)
    · skip
      refine ⟨_, rfl, ?_⟩
      have H7 : S wq6 [base, Ob g2 (.cells #[.int .i64 16] 3 (0, 0)), Ob g1 (.cells #[.slice p n c] 75 (0, 0)), C2] := hS2.open1
      rw [← List.range_succ] at hJ2
      refine R.l_of rfl (fun h => hL h) (s_val (v := .bool false) (wt0 rfl) rfl rfl (x_not (b := true) rfl rfl) ?_)
      refine R.g_nil ?_
      refine g_then ?_
      refine g_weak [(0, .func (.yield l) #[] #[]), (1, .pointer (some ⟨g1, 0, none⟩)), (2, .pointer (some ⟨g2, 0, none⟩)), (4, .int .i64 (((16 * k : Nat) : Int))), (30, .bool false)] ⟨rfl, rfl, rfl, rfl, rfl, trivial⟩ ?_
      refine R.g_cond_f rfl rfl ?_
      refine R.g_skip ?_
      refine g_in ?_
      refine g_then ?_
      refine R.g_region ?_
      refine R.l_of rfl (fun h => hL h) (s_val (v := .int .i64 (((16 * k : Nat) : Int))) (wt0 rfl) rfl rfl (x_move rfl rfl) ?_)
      refine R.l_of rfl (fun h => hL h) (s_val (v := .int .i64 16) (wt0 rfl) rfl rfl (x_load1 H7 1 rfl rfl Try.underlying3 rfl rfl rfl) ?_)
      refine R.l_of rfl (fun h => hL h) (s_val (v := .int .i64 (((16 * (k + 1) : Nat) : Int))) (wt0 rfl) rfl rfl (x_bin rfl rfl rfl (b_add (by rw [w64 (by omega)]; omega))) ?_)
      refine R.l_of rfl (fun h => hL h) (s_val (v := .int .i64 (((16 * (k + 1) : Nat) : Int))) (wt0 rfl) rfl rfl (x_assign rfl rfl) ?_)
      refine R.g_nil ?_
      refine g_then ?_
      refine g_round (i := (k, C1)) (k + 1, C2) ?_ ?_ ?_
      · exact ⟨rfl, rfl, rfl, rfl, trivial⟩
      · exact ⟨by omega, hJ2, H7⟩
      · (try dsimp only); omega
    · skip
      refine ⟨_, rfl, ?_⟩
      have H8 : S wq6 [base, Ob g2 (.cells #[.int .i64 16] 3 (0, 0)), Ob g1 (.cells #[.slice p n c] 75 (0, 0)), C2] := hS2.open1
      refine R.l_of rfl (fun h => hL h) (s_val (v := .bool true) (wt0 rfl) rfl rfl (x_not (b := false) rfl rfl) ?_)
      refine R.g_nil ?_
      refine g_then ?_
      refine g_weak [(0, .func (.yield l) #[] #[]), (1, .pointer (some ⟨g1, 0, none⟩)), (2, .pointer (some ⟨g2, 0, none⟩)), (4, .int .i64 (((16 * k : Nat) : Int))), (30, .bool true)] ⟨rfl, rfl, rfl, rfl, rfl, trivial⟩ ?_
      refine R.g_cond_t rfl rfl ?_
      refine R.g_ret ?_
      refine g_in_ret ?_
      refine g_then_ret ?_
      refine g_then_ret ?_
      refine g_in_ret ?_
      refine fin_ret [] [] rfl trivial ?_
      exact ⟨⟨_, rfl⟩, .inr ⟨_, _, trivial, hJx, (H8.mask [true, false, false, true])⟩⟩
  · skip
    refine R.g_cond_f rfl (decide_eq_false hb3) ?_
    refine R.g_exit ?_
    refine g_then_exit ?_
    refine g_then_exit ?_
    refine g_in_hit ?_
    refine fin_end [] [] rfl trivial ?_
    have hk2 : k = q := by omega
    subst hk2
    exact ⟨⟨_, rfl⟩, .inl ⟨_, _, rfl, hJ0, (H2.mask [true, false, false, true])⟩⟩
set_option maxRecDepth 20000 in
set_option maxHeartbeats 4000000 in
set_option maxRecDepth 20000 in
set_option maxHeartbeats 4000000 in
theorem leaves_s (s : ByteArray) (w : World) : Calls Try.prog 13 #[.string s] w fun e w' => ∃ p c, e = .returned (.tuple #[.slice p (leavesS s).1.length c, .int .i64 (leavesS s).2]) ∧ S w' ([Rw 9 1 p (leavesS s).1.length c (stV (leavesS s).1)] ++ [Old w no]) := by
  have H0 := S.old w
  refine enter_m 24 Try.func13 rfl rfl rfl ?_
  have hL : ¬ LetsOut (bodyPostM (WF none) 9 Try.prog Try.f13 fun e w' => ∃ p c, e = .returned (.tuple #[.slice p (leavesS s).1.length c, .int .i64 (leavesS s).2]) ∧ S w' ([Rw 9 1 p (leavesS s).1.length c (stV (leavesS s).1)] ++ [Old w no])) := by
    rintro ⟨_, _, ⟨_, _, h, _⟩⟩
    cases h
  refine g_weak [(0, .string s)] ⟨rfl, trivial⟩ ?_
  refine R.g_seq ?_
  refine R.g_region ?_
  refine R.l_of rfl (fun h => hL h) (s_val (v := .slice none 0 0) (wt0 rfl) rfl rfl (x_assign rfl rfl) ?_)
  refine R.l_of rfl (fun h => hL h) (s_val (v := .int .i64 0) (wt0 rfl) rfl rfl (x_assign rfl rfl) ?_)
  refine R.g_nil ?_
  refine g_then ?_
  refine R.g_seq ?_
  refine R.g_block ?_
  refine R.g_seq ?_
  refine R.g_region ?_
  refine R.l_of rfl (fun h => hL h) (s_val (v := .string s) (wt0 rfl) rfl rfl (x_move rfl rfl) ?_)
  refine R.l_of rfl (fun h => hL h) (s_val (v := .bool (decide (s = ⟨#[]⟩))) (wt0 rfl) rfl rfl (x_bin rfl rfl rfl b_eqs) ?_)
  refine R.l_of rfl (fun h => hL h) (s_val (v := .bool (decide (s = ⟨#[]⟩))) (wt0 rfl) rfl rfl (x_assign rfl rfl) ?_)
  refine R.g_nil ?_
  refine g_then ?_
  by_cases hb1 : s = ⟨#[]⟩
  · skip
    refine R.g_cond_t rfl (decide_eq_true hb1) ?_
    refine R.g_seq ?_
    refine R.g_region ?_
    refine R.l_of rfl (fun h => hL h) (s_val (v := .slice none 0 0) (wt0 rfl) rfl rfl (x_assign rfl rfl) ?_)
    refine R.l_of rfl (fun h => hL h) (s_val (v := .int .i64 11) (wt0 rfl) rfl rfl (x_assign rfl rfl) ?_)
    refine R.g_nil ?_
    refine g_then ?_
    refine R.g_ret ?_
    refine g_in_ret ?_
    refine g_then_ret ?_
    refine fin_plain [.tmp 2, .tmp 3] [.slice none 0 0, .int .i64 11] rfl ⟨rfl, rfl, trivial⟩ ?_
    have hd : leavesS s = ([], 11) := by unfold leavesS; rw [if_pos ((empty_iff s).1 hb1)]
    rw [hd]
    exact ⟨none, 0, rfl, (H0.takes [0] (by decide)).nilRw 9 1⟩
  · skip
    refine R.g_cond_f rfl (decide_eq_false hb1) ?_
    refine R.g_seq ?_
    refine R.g_region ?_
    refine R.l_of rfl (fun h => hL h) (s_val (v := .string s) (wt0 rfl) rfl rfl (x_move rfl rfl) ?_)
    refine R.l_of rfl (fun h => hL h) (s_val (v := .int .i64 ((s.size : Int))) (wt0 rfl) rfl rfl (x_lens rfl rfl Try.underlying9) ?_)
    refine R.l_of rfl (fun h => hL h) (s_val (v := .bool (decide ((65536 : Int) < (s.size : Int)))) (wt0 rfl) rfl rfl (x_bin rfl rfl rfl b_gtr) ?_)
    refine R.l_of rfl (fun h => hL h) (s_val (v := .bool (decide ((65536 : Int) < (s.size : Int)))) (wt0 rfl) rfl rfl (x_assign rfl rfl) ?_)
    refine R.g_nil ?_
    refine g_then ?_
    by_cases hb2 : (65536 : Int) < (s.size : Int)
    · skip
      refine R.g_cond_t rfl (decide_eq_true hb2) ?_
      refine R.g_seq ?_
      refine R.g_region ?_
      refine R.l_of rfl (fun h => hL h) (s_val (v := .slice none 0 0) (wt0 rfl) rfl rfl (x_assign rfl rfl) ?_)
      refine R.l_of rfl (fun h => hL h) (s_val (v := .int .i64 4) (wt0 rfl) rfl rfl (x_assign rfl rfl) ?_)
      refine R.g_nil ?_
      refine g_then ?_
      refine R.g_ret ?_
      refine g_in_ret ?_
      refine g_then_ret ?_
      refine fin_plain [.tmp 2, .tmp 3] [.slice none 0 0, .int .i64 4] rfl ⟨rfl, rfl, trivial⟩ ?_
      have hd : leavesS s = ([], 4) := by unfold leavesS; rw [if_neg (fun h => hb1 ((empty_iff s).2 h)), if_pos (by omega)]
      rw [hd]
      exact ⟨none, 0, rfl, (H0.takes [0] (by decide)).nilRw 9 1⟩
    · skip
      refine R.g_cond_f rfl (decide_eq_false hb2) ?_
      refine R.g_skip ?_
      refine g_in ?_
      refine g_then ?_
      refine R.g_seq ?_
      refine R.g_region ?_
      refine R.l_of rfl (fun h => hL h) (s_alloc H0 (wt0 rfl) rfl rfl rfl ze22 ?_)
      intro g3 wq4 H5
      refine R.g_nil ?_
      refine g_then ?_
      refine R.g_seq ?_
      refine R.g_seq ?_
      refine R.g_region ?_
      refine R.l_of rfl (fun h => hL h) (s_val (v := .string s) (wt0 rfl) rfl rfl (x_move rfl rfl) ?_)
      refine R.l_of rfl (fun h => hL h) (s_bytesOf H5 (wt0 rfl) rfl rfl rfl rfl Try.underlying9 Try.underlying75 Try.underlying5 ?_)
      intro g6 c7 fr8 cs9 wq10 H11 hcs12 hcc13
      replace H11 : S wq10 [Ob g6 (.cells cs9 5 fr8), Ob g3 (.cells #[.slice none 0 0] 22 (0, 0)), Old w no] := H11
      refine R.l_of rfl (fun h => hL h) (s_call (wt0 rfl) (x_call' rfl rfl cl56) (chunkB_s _ _ _ _) ?_)
      rintro _ wq16 ⟨g14, g15, rfl, H17⟩
      replace H17 : S wq16 [Ob g15 (.cells #[.int .i64 16] 3 (0, 0)), Ob g14 (.cells #[.slice (some ⟨g6, 0, none⟩) s.size c7] 75 (0, 0)), Ob g6 (.cells cs9 5 fr8), Ob g3 (.cells #[.slice none 0 0] 22 (0, 0)), Old w no] := H11.absorb (new := [Ob g15 (.cells #[.int .i64 16] 3 (0, 0)), Ob g14 (.cells #[.slice (some ⟨g6, 0, none⟩) s.size c7] 75 (0, 0))]) H17
      refine b_ret rfl rfl ?_
      refine R.g_nil ?_
      refine g_then ?_
      refine R.g_block ?_
      have hrb : ∀ W, (Big [Old w no, Ob g6 (.cells cs9 5 fr8)]).ok W → Reads W (some ⟨g6, 0, none⟩) s.size c7 1 (bytesV s.data.toList) := fun W h => reads_text (k := 1) (show S W [Old w no, Ob g6 (.cells cs9 5 fr8)] from h) rfl hcs12 hcc13
      have H18 : S wq16 [Rw 9 1 none 0 0 (stV (leafTo s 0)), Ob g15 (.cells #[.int .i64 16] 3 (0, 0)), Ob g14 (.cells #[.slice (some ⟨g6, 0, none⟩) s.size c7] 75 (0, 0)), Ob g6 (.cells cs9 5 fr8), Ob g3 (.cells #[.slice none 0 0] 22 (0, 0)), Old w no] := H17.nilRw 9 1
      have H19 := S.big2 (A := [_, _]) (B := [_, _]) (H18.takes [5, 3, 1, 2, 4, 0] (by decide))
      refine g_rangeS (α := Nat) (encs := encB (some ⟨g6, 0, none⟩) s.size) (base := Big [Old w no, Ob g6 (.cells cs9 5 fr8)]) (by omega) rfl cl88 (chunkB_it (n := s.size) rfl hcc13 (by omega)) (fun _ => rfl) rfl (fun pre Lx => ∃ q1 d, Lx = [Ob g3 (.cells #[.slice q1 pre.length d] 22 (0, 0)), Rw 9 1 q1 pre.length d (stV (leafTo s pre.length))]) (fun _ _ => False) (fun x => [(4, .pointer (some ⟨g3, 0, none⟩)), (5, .slice (((some ⟨g6, 0, none⟩) : Option Addr).map fun q => q.add (16 * x * 1)) (min 16 (s.size - 16 * x)) (min 16 (s.size - 16 * x)))]) (fun _ _ _ => trivial) ⟨none, 0, rfl⟩ H19 ?_ ?_ ?_ (fun _ _ _ _ _ h => h.elim)
      · rintro l1 x Ly W20 H21
        have hL : ¬ LetsOut (fun (_ : Exit) (_ : Act) (_ : World) => False) := fun ⟨_, _, h⟩ => h
        refine g_weak [(4, .pointer (some ⟨g3, 0, none⟩)), (16, .slice (((some ⟨g6, 0, none⟩) : Option Addr).map fun q => q.add (16 * x * 1)) (min 16 (s.size - 16 * x)) (min 16 (s.size - 16 * x)))] ⟨rfl, rfl, trivial⟩ ?_
        refine R.g_region ?_
        refine R.l_of rfl (fun h => hL h) (s_val (v := .slice (((some ⟨g6, 0, none⟩) : Option Addr).map fun q => q.add (16 * x * 1)) (min 16 (s.size - 16 * x)) (min 16 (s.size - 16 * x))) (wt0 rfl) rfl rfl (x_assign rfl rfl) ?_)
        refine R.g_nil ?_
        refine g_then ?_
        exact rs_assign ⟨rfl, rfl, trivial⟩ H21
      · rintro l1 pr x I Kx _ W22 ⟨q1, d, rfl⟩ ⟨rfl, hxq⟩ H23
        replace H23 : S W22 [Big [Old w no, Ob g6 (.cells cs9 5 fr8)], I, Kx, Ob g3 (.cells #[.slice q1 pr.length d] 22 (0, 0)), Rw 9 1 q1 pr.length d (stV (leafTo s pr.length))] := H23
        have hcz : (chunkB s pr.length).size = min 16 (s.size - 16 * pr.length) := chunkB_size (by omega)
        refine g_weak [(4, .pointer (some ⟨g3, 0, none⟩)), (5, .slice (((some ⟨g6, 0, none⟩) : Option Addr).map fun q => q.add (16 * pr.length * 1)) (min 16 (s.size - 16 * pr.length)) (min 16 (s.size - 16 * pr.length)))] ⟨rfl, rfl, trivial⟩ ?_
        refine R.g_block ?_
        refine R.g_anyY [] (fun wx => S wx [Ob g3 (.cells #[.slice q1 pr.length d] 22 (0, 0))]) (fun wx => S wx []) [6] (by kernel_rfl) (by kernel_rfl) (fun ⟨_, _, h⟩ => h) H23 (fun wq24 H25 => ?_)
        refine y_take (v := .slice q1 pr.length d) 0 rfl (wt0 rfl) rfl rfl rfl (by kernel_rfl) (by kernel_rfl) (by kernel_rfl) (by kernel_rfl) (by kernel_rfl) (H25.mask [false, false, false, true, false]) (fun wx H => x_load1 H 0 rfl rfl Try.underlying22 rfl rfl rfl) ?_
        refine y_pure (v := .slice (((some ⟨g6, 0, none⟩) : Option Addr).map fun q => q.add (16 * pr.length * 1)) (min 16 (s.size - 16 * pr.length)) (min 16 (s.size - 16 * pr.length))) 1 rfl (wt0 rfl) rfl rfl rfl (by kernel_rfl) (by kernel_rfl) (by kernel_rfl) (by kernel_rfl) (fun wx => x_move rfl rfl) ?_
        refine y_one (i := 2) (by kernel_rfl) rfl ?_
        refine s_val (v := .string ((chunkB s pr.length))) (wt0 rfl) rfl rfl (x_bytesR (l := (chunkB s pr.length).data.toList) rfl rfl Try.underlying75 Try.underlying9 Try.underlying5 (reads_chunk (hrb _ (H25.at (k := 0) rfl)) (by omega)) (by rw [← hcz]; simp)) ?_
        refine y_k (H25.mask [false, false, false, true, false]) (H25.mask [false, false, false, false, false]) ?_
        refine y_one (i := 3) (by kernel_rfl) rfl ?_
        refine s_call (wt0 rfl) (x_call' rfl rfl cl42) (sum_h _ (by omega) _) ?_
        rintro _ wq26 ⟨rfl, H27⟩
        replace H27 : S wq26 [Big [Old w no, Ob g6 (.cells cs9 5 fr8)], I, Kx, Ob g3 (.cells #[.slice q1 pr.length d] 22 (0, 0)), Rw 9 1 q1 pr.length d (stV (leafTo s pr.length))] := H25.absorb (new := []) H27
        refine b_ret rfl rfl ?_
        refine y_k (H27.mask [false, false, false, true, false]) (H27.mask [false, false, false, false, false]) ?_
        refine y_one (i := 4) (by kernel_rfl) rfl ?_
        refine s_buildSlice H27 (wt0 rfl) rfl rfl rfl (vs := [.string ((sumS (chunkB s pr.length)))]) rfl Try.underlying22 sz9 ze9 rfl rfl (cells := #[.string ((sumS (chunkB s pr.length)))]) (by kernel_rfl) ?_
        intro g28 wq29 H30
        refine y_k (H30.mask [false, false, false, false, true, false]) (H30.mask [false, false, false, false, false, false]) ?_
        refine y_one (i := 5) (by kernel_rfl) rfl ?_
        refine s_appendR (n := pr.length) (m := 1) (sc := d) (xs := (stV (leafTo s pr.length))) (news := [.string ((sumS (chunkB s pr.length)))]) (p := q1) (ad := ⟨g28, 0, none⟩) H30 5 (wt0 rfl) rfl rfl rfl rfl rfl rfl Try.underlying22 inf9 rfl (by decide) (by decide) rfl (by decide) (news_ob H30 (j0 := 0) rfl) rfl (by omega) ?_
        intro p31 c32 wq33 (H34 : S wq33 [Ob g28 (.cells #[.string ((sumS (chunkB s pr.length)))] 9 (0, 0)), Big [Old w no, Ob g6 (.cells cs9 5 fr8)], I, Kx, Ob g3 (.cells #[.slice q1 pr.length d] 22 (0, 0)), Rw 9 1 p31 (pr.length + 1) c32 ((stV (leafTo s pr.length)) ++ [.string ((sumS (chunkB s pr.length)))])])
        refine y_k (H34.mask [false, false, false, false, true, false]) (H34.mask [false, false, false, false, false, false]) ?_
        refine y_one (i := 6) (by kernel_rfl) rfl ?_
        refine s_store H34 4 (wt0 rfl) rfl rfl rfl rfl rfl sz22 rfl rfl (cs' := #[.slice p31 (pr.length + 1) c32]) rfl ?_
        intro wq35 H36
        refine y_kt rfl (H36.mask [false, false, false, false, false, false]) ?_
        refine y_done (by kernel_rfl) ?_
        refine g_in ?_
        have HF := H36.takes [1, 2, 3, 4, 5] (by decide)
        have e1 : (pr ++ [pr.length]).length = pr.length + 1 := by simp
        have e2 : stV (leafTo s (pr ++ [pr.length]).length) = stV (leafTo s pr.length) ++ [.string (sumS (chunkB s pr.length))] := by rw [e1, leafTo_next, stV_snoc]
        exact rs_next ⟨p31, c32, rfl⟩ (by rw [e2, e1]; exact HF)
      · rintro D xs _ W37 rfl ⟨q1, d, rfl⟩ H38
        rw [List.length_range] at H38
        replace H38 : S W37 [Ob D (.deferred (some [])), Big [Old w no, Ob g6 (.cells cs9 5 fr8)], Ob g3 (.cells #[.slice q1 ((s.size + 15) / 16) d] 22 (0, 0)), Rw 9 1 q1 ((s.size + 15) / 16) d (stV (leafTo s ((s.size + 15) / 16)))] := H38
        refine g_in ?_
        refine g_then ?_
        refine g_weak [(4, .pointer (some ⟨g3, 0, none⟩))] ⟨rfl, trivial⟩ ?_
        refine R.g_seq ?_
        refine R.g_region ?_
        refine R.l_of rfl (fun h => hL h) (s_val (v := .slice q1 ((s.size + 15) / 16) d) (wt0 rfl) rfl rfl (x_load1 H38 2 rfl rfl Try.underlying22 rfl rfl rfl) ?_)
        refine R.l_of rfl (fun h => hL h) (s_val (v := .slice q1 ((s.size + 15) / 16) d) (wt0 rfl) rfl rfl (x_assign rfl rfl) ?_)
        refine R.l_of rfl (fun h => hL h) (s_val (v := .int .i64 0) (wt0 rfl) rfl rfl (x_assign rfl rfl) ?_)
        refine R.g_nil ?_
        refine g_then ?_
        refine R.g_ret ?_
        refine fin_mark H38 0 rfl [.tmp 2, .tmp 3] [.slice q1 ((s.size + 15) / 16) d, .int .i64 0] rfl (fun wq39 H40 => ⟨⟨rfl, rfl, trivial⟩, ?_⟩)
        replace H40 : S wq39 [Ob D (.deferred none), Big [Old w no, Ob g6 (.cells cs9 5 fr8)], Ob g3 (.cells #[.slice q1 ((s.size + 15) / 16) d] 22 (0, 0)), Rw 9 1 q1 ((s.size + 15) / 16) d (stV (leafTo s ((s.size + 15) / 16)))] := H40
        have hd : leavesS s = (leafTo s ((s.size + 15) / 16), 0) := by unfold leavesS; rw [if_neg (fun h => hb1 ((empty_iff s).2 h)), if_neg (by omega)]
        rw [hd]
        have HF := S.unbig (H40.takes [1, 3] (by decide))
        simp only [leafTo_len]
        exact ⟨_, _, rfl, S.takes HF [2, 0] (by decide)⟩
end Go.Proofs.Ytlajgickimgigaa
