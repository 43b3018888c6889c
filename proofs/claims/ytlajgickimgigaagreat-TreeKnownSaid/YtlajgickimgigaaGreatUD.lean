import Derived.Test.YtlajgickimgigaaGreatTX
import Derived.Test.YtlajgickimgigaaGreatFc
set_option linter.unusedSimpArgs false
set_option linter.unusedVariables false
namespace Go.Proofs.YtlajgickimgigaaGreat
open Go.RowKit

theorem texts_no {l m : List ByteArray} {i : Nat} (h : ¬ l.getD i ⟨#[]⟩ = m.getD i ⟨#[]⟩) : ¬ l = m := fun e => h (by rw [e])
theorem texts_yes {l m : List ByteArray} (hl : l.length = m.length) (h : ∀ i, i < l.length → l.getD i ⟨#[]⟩ = m.getD i ⟨#[]⟩) : l = m := by
  apply List.ext_getElem hl
  intro i h1 h2
  have := h i h1
  rwa [List.getD_eq_getElem?_getD, List.getD_eq_getElem?_getD, List.getElem?_eq_getElem h1, List.getElem?_eq_getElem h2] at this
theorem tall4096 : tallN 4096 = 12 := by decide
theorem few_len {l : List ByteArray} (h : fewB l = true) : l.length ≤ 70 := by
  unfold fewB at h
  rw [Bool.and_eq_true] at h
  exact of_decide_eq_true h.2
set_option maxRecDepth 20000 in
set_option maxHeartbeats 4000000 in
set_option maxRecDepth 20000 in
set_option maxHeartbeats 4000000 in
theorem texts_l (l m : List ByteArray) (p q : Option Addr) (n c k d : Nat) (hn : n = l.length) (hk : k = m.length) (hm : n ≤ 1099511627776) (w : World) (hr1 : Reads w p n c 1 (stV l)) (hr2 : Reads w q k d 1 (stV m)) : Calls Tryz.prog 21 #[.slice p n c, .slice q k d] w fun e w' => e = .returned (.bool (decide (l = m))) ∧ S w' [Old w no] := by
  have H0 := S.old w
  refine enter 26 Tryz.func21 rfl rfl rfl ?_
  refine g_weak [(0, .slice p n c), (1, .slice q k d)] ⟨rfl, rfl, trivial⟩ ?_
  refine g_seq ?_
  refine g_region ?_
  refine l_of (s_val (v := .bool false) (wt0 rfl) rfl rfl (x_assign rfl rfl) ?_)
  refine g_nil ?_
  refine g_then ?_
  refine g_seq ?_
  refine g_seq ?_
  refine g_region ?_
  refine l_of (s_val (v := .slice p n c) (wt0 rfl) rfl rfl (x_move rfl rfl) ?_)
  refine l_of (s_val (v := .int .i64 ((n : Int))) (wt0 rfl) rfl rfl (x_lenl rfl rfl Tryz.underlying22) ?_)
  refine l_of (s_val (v := .slice q k d) (wt0 rfl) rfl rfl (x_move rfl rfl) ?_)
  refine l_of (s_val (v := .int .i64 ((k : Int))) (wt0 rfl) rfl rfl (x_lenl rfl rfl Tryz.underlying22) ?_)
  refine l_of (s_val (v := .bool (!decide (((n : Int) : Int) = (k : Int)))) (wt0 rfl) rfl rfl (x_bin rfl rfl rfl b_neq) ?_)
  refine g_nil ?_
  refine g_then ?_
  by_cases hb1 : ((n : Int) : Int) = (k : Int)
  · skip
    refine g_cond_f rfl (nf hb1) ?_
    refine g_skip ?_
    refine g_then ?_
    refine g_seq ?_
    refine g_seq ?_
    refine g_region ?_
    refine l_of (s_val (v := .slice p n c) (wt0 rfl) rfl rfl (x_move rfl rfl) ?_)
    refine l_of (s_val (v := .int .i64 ((n : Int))) (wt0 rfl) rfl rfl (x_lenl rfl rfl Tryz.underlying22) ?_)
    refine l_of (s_val (v := .int .i64 0) (wt0 rfl) rfl rfl (x_move rfl rfl) ?_)
    refine g_nil ?_
    refine g_then ?_
    refine g_block ?_
    refine g_loop (ι := Nat) (fun i => [(0, .slice p n c), (1, .slice q k d), (12, .int .i64 ((n : Int))), (13, .int .i64 ((i : Int)))]) (fun i wx => (i ≤ n) ∧ (∀ j, j < i → l.getD j ⟨#[]⟩ = m.getD j ⟨#[]⟩) ∧ S wx [Old w no]) (fun i => n - i) (0) ⟨rfl, rfl, rfl, rfl, trivial⟩ ⟨Nat.zero_le _, (fun j h => by omega), H0⟩ ?_
    rintro i wq2 ⟨hi, hno, H3⟩
    replace H3 : S wq2 [Old w no] := H3
    refine g_weak [(0, .slice p n c), (1, .slice q k d), (12, .int .i64 ((n : Int))), (13, .int .i64 ((i : Int)))] ⟨rfl, rfl, rfl, rfl, trivial⟩ ?_
    refine g_seq ?_
    refine g_region ?_
    refine l_of (s_val (v := .bool (decide (((i : Int) : Int) < (n : Int)))) (wt0 rfl) rfl rfl (x_bin rfl rfl rfl b_lss) ?_)
    refine g_nil ?_
    refine g_then ?_
    refine g_seq ?_
    by_cases hb4 : ((i : Int) : Int) < (n : Int)
    · skip
      refine g_cond_t rfl (decide_eq_true hb4) ?_
      refine g_skip ?_
      refine g_then ?_
      refine g_seq ?_
      refine g_block ?_
      refine g_seq ?_
      refine g_region ?_
      refine l_of (s_val (v := .int .i64 ((i : Int))) (wt0 rfl) rfl rfl (x_move rfl rfl) ?_)
      refine l_of (s_val (v := .int .i64 ((i : Int))) (wt0 rfl) rfl rfl (x_assign rfl rfl) ?_)
      refine g_nil ?_
      refine g_then ?_
      refine g_seq ?_
      refine g_quiet (by kernel_rfl) (by kernel_rfl) H3 ?_
      refine q_val (v := .slice p n c) (wt0 rfl) rfl rfl (fun wx H => x_move rfl rfl) ?_
      refine q_val (v := .int .i64 ((i : Int))) (wt0 rfl) rfl rfl (fun wx H => x_move rfl rfl) ?_
      refine q_val (v := .pointer ((p).map fun q => q.add (i * 1))) (wt0 rfl) rfl rfl (fun wx H => x_idxP i ((hr1.2.2 (by omega)).imp fun _ h => h.1) rfl rfl rfl Tryz.underlying22 sz9 (by omega)) ?_
      refine q_val (v := .string ((l.getD (i) ⟨#[]⟩))) (wt0 rfl) rfl rfl (fun wx H => x_loadR1 i (H.oldReads (k := 0) rfl hr1) (by omega) rfl rfl Tryz.underlying9 rfl (stV_at (by omega))) ?_
      refine q_val (v := .slice q k d) (wt0 rfl) rfl rfl (fun wx H => x_move rfl rfl) ?_
      refine q_val (v := .int .i64 ((i : Int))) (wt0 rfl) rfl rfl (fun wx H => x_move rfl rfl) ?_
      refine q_val (v := .pointer ((q).map fun q => q.add (i * 1))) (wt0 rfl) rfl rfl (fun wx H => x_idxP i ((hr2.2.2 (by omega)).imp fun _ h => h.1) rfl rfl rfl Tryz.underlying22 sz9 (by omega)) ?_
      refine q_val (v := .string ((m.getD (i) ⟨#[]⟩))) (wt0 rfl) rfl rfl (fun wx H => x_loadR1 i (H.oldReads (k := 0) rfl hr2) (by omega) rfl rfl Tryz.underlying9 rfl (stV_at (by omega))) ?_
      refine q_val (v := .bool (!decide ((l.getD (i) ⟨#[]⟩) = (m.getD (i) ⟨#[]⟩)))) (wt0 rfl) rfl rfl (fun wx H => x_bin rfl rfl rfl b_nes) ?_
      refine q_nil (fun wq5 H6 => ?_)
      refine g_then ?_
      by_cases hb7 : (l.getD (i) ⟨#[]⟩) = (m.getD (i) ⟨#[]⟩)
      · skip
        refine g_cond_f rfl (nf hb7) ?_
        refine g_skip ?_
        refine g_in ?_
        refine g_then ?_
        refine g_weak [(0, .slice p n c), (1, .slice q k d), (12, .int .i64 ((n : Int))), (13, .int .i64 ((i : Int)))] ⟨rfl, rfl, rfl, rfl, trivial⟩ ?_
        refine g_region ?_
        refine l_of (s_val (v := .int .i64 ((i : Int) + 1)) (wt0 rfl) rfl rfl (x_bin rfl rfl rfl (b_add (w64 (by omega)))) ?_)
        refine l_of (s_val (v := .int .i64 ((i : Int) + 1)) (wt0 rfl) rfl rfl (x_move rfl rfl) ?_)
        refine g_nil ?_
        refine g_then ?_
        refine g_round (i := (i)) (i + 1) ?_ ?_ ?_
        · exact ⟨rfl, rfl, rfl, rfl, trivial⟩
        · exact ⟨by omega, (fun j h => by rcases Nat.lt_succ_iff_lt_or_eq.1 h with h | rfl; exact hno j h; exact hb7), H6⟩
        · (try dsimp only); omega
      · skip
        refine g_cond_t rfl (nt hb7) ?_
        refine g_seq ?_
        refine g_region ?_
        refine l_of (s_val (v := .bool false) (wt0 rfl) rfl rfl (x_assign rfl rfl) ?_)
        refine g_nil ?_
        refine g_then ?_
        refine g_weak [(4, .bool false)] ⟨rfl, trivial⟩ ?_
        refine g_ret ?_
        refine g_in_ret ?_
        refine g_then_ret ?_
        refine g_then_ret ?_
        refine g_in_ret ?_
        refine g_then_ret ?_
        refine fin_ret [.tmp 4] [.bool false] rfl ⟨rfl, trivial⟩ ?_
        exact ⟨by rw [decide_eq_false (texts_no hb7)]; rfl, H6.mask [true]⟩
    · skip
      refine g_cond_f rfl (decide_eq_false hb4) ?_
      refine g_exit ?_
      refine g_then_exit ?_
      refine g_then_exit ?_
      refine g_in_hit ?_
      refine g_then ?_
      refine g_seq ?_
      refine g_region ?_
      refine l_of (s_val (v := .bool true) (wt0 rfl) rfl rfl (x_assign rfl rfl) ?_)
      refine g_nil ?_
      refine g_then ?_
      refine g_ret ?_
      refine fin_ret [.tmp 4] [.bool true] rfl ⟨rfl, trivial⟩ ?_
      exact ⟨by rw [decide_eq_true (texts_yes (by omega) (fun j h => hno j (by omega)))]; rfl, H3.mask [true]⟩
  · skip
    refine g_cond_t rfl (nt hb1) ?_
    refine g_seq ?_
    refine g_region ?_
    refine l_of (s_val (v := .bool false) (wt0 rfl) rfl rfl (x_assign rfl rfl) ?_)
    refine g_nil ?_
    refine g_then ?_
    refine g_ret ?_
    refine g_then_ret ?_
    refine fin_ret [.tmp 4] [.bool false] rfl ⟨rfl, trivial⟩ ?_
    exact ⟨by rw [decide_eq_false (fun h => hb1 (by rw [hn, hk, h]))]; rfl, H0.mask [true]⟩
/-- Height. -/
def heightV (n : Int) : Value := if 1 ≤ n ∧ n ≤ 4096 then .tuple #[.int .i64 ((tallN n.toNat : Nat) : Int), .int .i64 0] else .tuple #[.int .i64 0, .int .i64 7]
/-- Zero. -/
def zeroV (v : Int) : ByteArray × Int := if 0 ≤ v ∧ v ≤ 12 then (zeroS v.toNat, 0) else (⟨#[]⟩, 7)
theorem zero_i (v : Int) (h0 : 0 ≤ v) (h1 : v ≤ 1000) (w : World) : Calls Tryz.prog 71 #[.int .i64 v] w fun e w' => e = .returned (.string (zeroS v.toNat)) ∧ S w' [Old w no] := by
  have e : v = (v.toNat : Int) := by omega
  rw [e]; exact zero_s _ (by omega) _
set_option maxRecDepth 20000 in
set_option maxHeartbeats 4000000 in
theorem zero_bad (v : Int) (hbad : ¬ (0 ≤ v ∧ v ≤ 12)) (w : World) : Calls Tryz.prog 39 #[.int .i64 v] w fun e w' => e = .returned (.tuple #[.string ⟨#[]⟩, .int .i64 7]) ∧ S w' [Old w no] := by
  have H0 := S.old w
  refine enter 21 Tryz.func39 rfl rfl rfl ?_
  refine g_weak [(0, .int .i64 v)] ⟨rfl, trivial⟩ ?_
  refine g_seq ?_
  refine g_region ?_
  refine l_of (s_val (v := .string (⟨#[]⟩)) (wt0 rfl) rfl rfl (x_assign rfl rfl) ?_)
  refine l_of (s_val (v := .int .i64 0) (wt0 rfl) rfl rfl (x_assign rfl rfl) ?_)
  refine g_nil ?_
  refine g_then ?_
  refine g_seq ?_
  refine g_seq ?_
  refine g_region ?_
  refine l_of (s_val (v := .int .i64 v) (wt0 rfl) rfl rfl (x_move rfl rfl) ?_)
  refine l_of (s_val (v := .bool (decide ((v : Int) < 0))) (wt0 rfl) rfl rfl (x_bin rfl rfl rfl b_lss) ?_)
  refine l_of (s_val (v := .bool (decide ((v : Int) < 0))) (wt0 rfl) rfl rfl (x_move rfl rfl) ?_)
  by_cases hb1 : (v : Int) < 0
  · skip
    refine l_of (s_not (wn1 rfl rfl rfl rfl (decide_eq_true hb1)) rfl rfl ?_)
    refine l_of (s_not (wn1 rfl rfl rfl rfl (decide_eq_true hb1)) rfl rfl ?_)
    refine l_of (s_not (wn1 rfl rfl rfl rfl (decide_eq_true hb1)) rfl rfl ?_)
    refine l_of (s_val (v := .bool true) (wt0 rfl) rfl rfl (x_pick_t rfl rfl (decide_eq_true hb1) rfl) ?_)
    refine g_nil ?_
    refine g_then ?_
    refine g_cond_t rfl rfl ?_
    refine g_seq ?_
    refine g_region ?_
    refine l_of (s_val (v := .string (⟨#[]⟩)) (wt0 rfl) rfl rfl (x_assign rfl rfl) ?_)
    refine l_of (s_val (v := .int .i64 7) (wt0 rfl) rfl rfl (x_assign rfl rfl) ?_)
    refine g_nil ?_
    refine g_then ?_
    refine g_ret ?_
    refine g_then_ret ?_
    refine fin_ret [.tmp 2, .tmp 3] [.string (⟨#[]⟩), .int .i64 7] rfl ⟨rfl, rfl, trivial⟩ ?_
    exact ⟨rfl, H0.mask [true]⟩
  · skip
    refine l_of (s_val (v := .int .i64 v) (wt1 rfl rfl rfl rfl (decide_eq_false hb1)) rfl rfl (x_move rfl rfl) ?_)
    refine l_of (s_call (wt1 rfl rfl rfl rfl (decide_eq_false hb1)) (x_call' rfl rfl cl38) (tall_r 4096 (by omega) _) ?_)
    rintro _ wq2 ⟨rfl, H3⟩
    replace H3 : S wq2 [Old w no] := H0.absorb (new := []) H3
    refine b_ret rfl rfl ?_
    have h12 := tall4096
    refine l_of (s_val (v := .bool (decide ((((tallN 4096 : Nat) : Int) : Int) < v))) (wt1 rfl rfl rfl rfl (decide_eq_false hb1)) rfl rfl (x_bin rfl rfl rfl b_gtr) ?_)
    refine l_of (s_val (v := .bool (decide ((((tallN 4096 : Nat) : Int) : Int) < v))) (wt0 rfl) rfl rfl (x_pick_f rfl rfl (decide_eq_false hb1) rfl) ?_)
    refine g_nil ?_
    refine g_then ?_
    by_cases hb4 : (((tallN 4096 : Nat) : Int) : Int) < v
    · skip
      refine g_cond_t rfl (decide_eq_true hb4) ?_
      refine g_seq ?_
      refine g_region ?_
      refine l_of (s_val (v := .string (⟨#[]⟩)) (wt0 rfl) rfl rfl (x_assign rfl rfl) ?_)
      refine l_of (s_val (v := .int .i64 7) (wt0 rfl) rfl rfl (x_assign rfl rfl) ?_)
      refine g_nil ?_
      refine g_then ?_
      refine g_ret ?_
      refine g_then_ret ?_
      refine fin_ret [.tmp 2, .tmp 3] [.string (⟨#[]⟩), .int .i64 7] rfl ⟨rfl, rfl, trivial⟩ ?_
      exact ⟨rfl, H3.mask [true]⟩
    · skip
      refine g_cond_f rfl (decide_eq_false hb4) ?_
      refine g_skip ?_
      refine g_then ?_
      refine g_seq ?_
      refine g_region ?_
      exact absurd (show (0 : Int) ≤ v ∧ v ≤ 12 by omega) hbad
theorem zeroV_r (v : Int) (w : World) : Calls Tryz.prog 39 #[.int .i64 v] w fun e w' => e = .returned (.tuple #[.string (zeroV v).1, .int .i64 (zeroV v).2]) ∧ S w' [Old w no] := by
  by_cases h : 0 ≤ v ∧ v ≤ 12
  · have e : v = (v.toNat : Int) := by omega
    have := zeroAt_r v.toNat (by omega) w
    rw [← e] at this
    unfold zeroV
    rw [if_pos h]; exact this
  · unfold zeroV
    rw [if_neg h]; exact zero_bad v h w
end Go.Proofs.YtlajgickimgigaaGreat
namespace Go.Proofs.YtlajgickimgigaaGreat
open Go.RowKit

/-- A piece of data. -/
def chunkB (s : ByteArray) (k : Nat) : ByteArray := s.extract (16 * k) (min (16 * k + 16) s.size)
def leafTo (s : ByteArray) (k : Nat) : List ByteArray := (List.range k).map (fun i => sumS (chunkB s i))
theorem leafTo_next (s : ByteArray) (k : Nat) : leafTo s (k + 1) = leafTo s k ++ [sumS (chunkB s k)] := by unfold leafTo; simp [List.range_succ]
theorem leafTo_len (s : ByteArray) (k : Nat) : (leafTo s k).length = k := by unfold leafTo; simp
theorem chunkB_size {s : ByteArray} {k : Nat} (h : 16 * k < s.size) : (chunkB s k).size = min 16 (s.size - 16 * k) := by unfold chunkB; rw [ByteArray.size_extract]; omega
/-- Leaves. -/
def leavesS (s : ByteArray) : List ByteArray × Int := if s.size = 0 then ([], 11) else if 65536 < s.size then ([], 4) else (leafTo s ((s.size + 15) / 16), 0)
theorem empty_iff (s : ByteArray) : s = ⟨#[]⟩ ↔ s.size = 0 := by
  constructor
  · intro h; rw [h]; rfl
  · intro h
    apply ByteArray.ext
    apply Array.eq_empty_of_size_eq_zero
    exact h
end Go.Proofs.YtlajgickimgigaaGreat
namespace Go.Proofs.YtlajgickimgigaaGreat
open Go.RowKit

def encB (p : Option Addr) (n i : Nat) : Array Value := #[.slice (p.map fun q => q.add (16 * i * 1)) (min 16 (n - 16 * i)) (min 16 (n - 16 * i))]
theorem chunkB_list {s : ByteArray} {k : Nat} (h : 16 * k < s.size) : (chunkB s k).data.toList = (s.data.toList.drop (16 * k)).take (min 16 (s.size - 16 * k)) := by
  have e : s.data.toList.length = s.size := by simp
  unfold chunkB
  rw [show (s.extract (16 * k) (min (16 * k + 16) s.size)).data = s.data.extract (16 * k) (min (16 * k + 16) s.size) from ByteArray.data_extract]
  rw [Array.toList_extract, List.extract_eq_take_drop, show min (16 * k + 16) s.size - 16 * k = min 16 (s.size - 16 * k) from by omega]
theorem reads_chunk {s : ByteArray} {k c : Nat} {p : Option Addr} {w : World} (hr : Reads w p s.size c 1 (bytesV s.data.toList)) (h : 16 * k < s.size) :
    Reads w (p.map fun q => q.add (16 * k * 1)) (min 16 (s.size - 16 * k)) (min 16 (s.size - 16 * k)) 1 (bytesV (chunkB s k).data.toList) := by
  have e : s.data.toList.length = s.size := by simp
  obtain ⟨k1, k2, k3⟩ := hr
  obtain ⟨a, rfl, hc⟩ := k3 (by omega)
  refine ⟨?_, Nat.le_refl _, fun _ => ⟨a.add (16 * k * 1), rfl, fun j u hu => ?_⟩⟩
  · rw [chunkB_list h]; unfold bytesV; rw [List.length_map, List.length_take, List.length_drop]; omega
  · rw [addr_add]
    refine hc _ _ ?_
    rw [chunkB_list h] at hu
    unfold bytesV at hu ⊢
    rw [List.map_take, List.map_drop] at hu
    have hj : j < min 16 (s.size - 16 * k) := by
      have := (List.getElem?_eq_some_iff.1 hu).1
      rw [List.length_take] at this; omega
    rw [List.getElem?_take_of_lt hj, List.getElem?_drop] at hu
    rw [show 16 * k * 1 + j = 16 * k + j from by omega]; exact hu
theorem reads_text {w : World} {g c e : Nat} {cs : Array Value} {fr : Nat × Nat} {s : ByteArray} {L : List Item} {k : Nat} (H : S w L) (hk : L[k]? = some (Ob g (.cells cs e fr))) (hcs : ∀ j, j < s.size → cs[j]? = some (.int .u8 ((s.data.toList.getD j 0).toNat : Nat))) (hc : s.size ≤ c) :
    Reads w (some ⟨g, 0, none⟩) s.size c 1 (bytesV s.data.toList) := by
  have e1 : s.data.toList.length = s.size := by simp
  refine ⟨by unfold bytesV; rw [List.length_map, e1]; omega, hc, fun _ => ⟨_, rfl, fun j u hu => ?_⟩⟩
  have hj : j < s.size := by have := (List.getElem?_eq_some_iff.1 hu).1; unfold bytesV at this; rw [List.length_map, e1] at this; exact this
  have hu2 : u = .int .u8 ((s.data.toList.getD j 0).toNat : Nat) := by
    unfold bytesV at hu
    rw [List.getElem?_map, List.getElem?_eq_getElem (by rw [e1]; exact hj)] at hu
    rw [List.getD_eq_getElem?_getD, List.getElem?_eq_getElem (by rw [e1]; exact hj)]
    simpa using hu.symm
  have := H.cell (i := j) hk (hcs j hj)
  rw [hu2, add_lit', Nat.zero_add]; exact this
end Go.Proofs.YtlajgickimgigaaGreat
namespace Go.Proofs.YtlajgickimgigaaGreat
open Go.RowKit

theorem inf22 : infO Tryz.prog 22 = some (some (.slice none 0 0), 1, 24) := by kernel_rfl
def encT (s : ByteArray) : List Value := [.string s]
theorem stV_flat (l : List ByteArray) : l.flatMap encT = stV l := by
  induction l with
  | nil => rfl
  | cons a l ih => rw [List.flatMap_cons, ih]; rfl
theorem row_read {W : World} {rs : List (Ro ByteArray)} {q : Option Addr} {d j n : Nat} {L : List ByteArray} (h : (RowsI 9 1 encT rs).ok W) (hj : rs[j]? = some ⟨q, d, L⟩) (hL : L.length = n) : Reads W q n d 1 (stV L) := by
  have := rows_read h hj
  rw [stV_flat] at this
  subst hL; exact this
theorem roI_row (q : Option Addr) (d n : Nat) (L : List ByteArray) (hL : L.length = n) : Rw 9 1 q n d (stV L) = roI 9 1 encT ⟨q, d, L⟩ := by
  subst hL; unfold roI; rw [stV_flat]
/-- All levels of a tree with pads. -/
def fullTo (l : List ByteArray) (k : Nat) : List (List ByteArray) := (List.range k).map (fun i => upN i (rowT l.length 0 l))
def fullS (l : List ByteArray) : List (List ByteArray) := fullTo l (tallN l.length + 1)
theorem fullTo_next (l : List ByteArray) (k : Nat) : fullTo l (k + 1) = fullTo l k ++ [upN k (rowT l.length 0 l)] := by unfold fullTo; simp [List.range_succ]
theorem rowT_len {l : List ByteArray} (hn : l.length ≤ 1099511627776) : (rowT l.length 0 l).length = 2 ^ tallN l.length := by
  obtain ⟨h1, _, _⟩ := tall_spec hn
  unfold rowT; rw [List.length_append, List.length_replicate]; simp only [Nat.sub_zero]; omega
theorem upN_len : ∀ (k t : Nat) (l : List ByteArray), l.length = 2 ^ t → k ≤ t → (upN k l).length = 2 ^ (t - k)
  | 0, t, l, h, _ => h
  | k + 1, t, l, h, hk => by
    have h1 : (upS l).length = 2 ^ (t - 1) := by
      rw [upS_len, h]
      conv => lhs; rw [show t = (t - 1) + 1 from by omega, Nat.pow_succ]
      omega
    have := upN_len k (t - 1) (upS l) h1 (by omega)
    rw [show t - 1 - k = t - (k + 1) from by omega] at this
    exact this
theorem full_row {l : List ByteArray} {k : Nat} (hn : l.length ≤ 1099511627776) (hk : k ≤ tallN l.length) : (upN k (rowT l.length 0 l)).length = 2 ^ (tallN l.length - k) := upN_len _ _ _ (rowT_len hn) hk
theorem full_at {l : List ByteArray} {rs : List (Ro ByteArray)} {k j : Nat} (h : rs.map (·.l) = fullTo l k) (hj : j < k) : ∃ p c, rs[j]? = some ⟨p, c, upN j (rowT l.length 0 l)⟩ := by
  have h1 : (rs.map (·.l))[j]? = some (upN j (rowT l.length 0 l)) := by
    rw [h]; unfold fullTo; rw [List.getElem?_map, List.getElem?_range hj]; rfl
  rw [List.getElem?_map] at h1
  cases hr : rs[j]? with
  | none => rw [hr] at h1; cases h1
  | some r =>
    rw [hr] at h1
    obtain ⟨p, c, L⟩ := r
    have : L = upN j (rowT l.length 0 l) := by simpa using h1
    exact ⟨p, c, by rw [this]⟩
theorem full_len {l : List ByteArray} {rs : List (Ro ByteArray)} {k : Nat} (h : rs.map (·.l) = fullTo l k) : rs.length = k := by
  have := congrArg List.length h
  simpa [fullTo] using this
theorem tall_n {l : List ByteArray} {n : Nat} (hn : n = l.length) (hm : n ≤ 1099511627776) (w : World) : Calls Tryz.prog 38 #[.int .i64 (n : Int)] w fun e w' => e = .returned (.int .i64 ((tallN l.length : Nat) : Int)) ∧ S w' [Old w no] := by
  subst hn; exact tall_r _ hm w
set_option maxRecDepth 20000 in
set_option maxHeartbeats 4000000 in
set_option maxRecDepth 20000 in
set_option maxHeartbeats 4000000 in
theorem full_r (l : List ByteArray) (p : Option Addr) (n c : Nat) (hn : n = l.length) (h1 : 1 ≤ n) (hm : n ≤ 4096) (hd : digsB l = true) (w : World) (hr : Reads w p n c 1 (stV l)) : Calls Tryz.prog 35 #[.slice p n c] w fun e w' => ∃ P C rs, e = .returned (.slice P rs.length C) ∧ rs.map (·.l) = fullS l ∧ S w' ([Rw 22 1 P rs.length C (rosV rs), RowsI 9 1 encT rs] ++ [Old w no]) := by
  have H0 := S.old w
  have ht12 := tall_le12 (n := l.length) (by omega)
  obtain ⟨ht1, _, _⟩ := tall_spec (n := l.length) (by omega)
  have h4096 : 2 ^ tallN l.length ≤ 4096 := Nat.pow_le_pow_right (by omega) ht12
  refine enter 31 Tryz.func35 rfl rfl rfl ?_
  refine g_weak [(0, .slice p n c)] ⟨rfl, trivial⟩ ?_
  refine g_seq ?_
  refine g_region ?_
  refine l_of (s_val (v := .slice none 0 0) (wt0 rfl) rfl rfl (x_assign rfl rfl) ?_)
  refine g_nil ?_
  refine g_then ?_
  refine g_seq ?_
  refine g_region ?_
  refine l_of (s_buildSlice0 H0 (wt0 rfl) rfl rfl rfl Tryz.underlying22 sz9 ?_)
  intro g1 wq2 H4
  have H3 : S wq2 [Rw 9 1 (some ⟨g1, 0, none⟩) 0 0 (stV []), Old w no] := H4.obRw (k := 0) (n := 0) rfl rfl (by decide)
  refine l_of (s_val (v := .slice p n c) (wt0 rfl) rfl rfl (x_move rfl rfl) ?_)
  refine l_of (s_appendW (n := 0) (m := n) (sc := 0) (xs := stV []) (news := stV l) (p := (some ⟨g1, 0, none⟩)) (q := p) H3 0 (wt0 rfl) rfl rfl rfl rfl rfl rfl Tryz.underlying22 inf9 rfl (by decide) (by decide) (H3.oldReads (k := 1) rfl hr) (stV_one l) (by omega) ?_)
  intro p5 c6 wq7 H8
  replace H8 : S wq7 [Rw 9 1 p5 (n + 0) c6 (stV (padS 0 l 0)), Old w no] := by unfold padS; rw [List.replicate_zero, List.append_nil, Nat.add_zero]; rw [Nat.zero_add] at H8; exact H8
  rw [show (0 + n) = n + 0 from by omega]
  refine l_of (s_val (v := .slice p5 (n + 0) c6) (wt0 rfl) rfl rfl (x_assign rfl rfl) ?_)
  refine g_nil ?_
  refine g_then ?_
  refine g_seq ?_
  refine g_block ?_
  refine g_loop (ι := Nat × Option Addr × Nat) (fun (k, q, d) => [(0, .slice p n c), (3, .slice q (n + k) d)]) (fun (k, q, d) wx => (n + k ≤ 2 ^ (tallN l.length)) ∧ S wx [Rw 9 1 q (n + k) d (stV (padS 0 l k)), Old w no]) (fun (k, q, d) => 2 ^ (tallN l.length) - (n + k)) (0, p5, c6) ⟨rfl, rfl, trivial⟩ ⟨by omega, (H8.takes [0, 1] (by decide))⟩ ?_
  rintro ⟨k, q, d⟩ wq9 ⟨hk, H10⟩
  replace H10 : S wq9 [Rw 9 1 q (n + k) d (stV (padS 0 l k)), Old w no] := H10
  refine g_weak [(0, .slice p n c), (3, .slice q (n + k) d)] ⟨rfl, rfl, trivial⟩ ?_
  refine g_seq ?_
  refine g_seq ?_
  refine g_region ?_
  refine l_of (s_val (v := .slice q (n + k) d) (wt0 rfl) rfl rfl (x_move rfl rfl) ?_)
  refine l_of (s_val (v := .int .i64 (((n + k) : Int))) (wt0 rfl) rfl rfl (x_lenl rfl rfl Tryz.underlying22) ?_)
  refine l_of (s_val (v := .slice p n c) (wt0 rfl) rfl rfl (x_move rfl rfl) ?_)
  refine l_of (s_val (v := .int .i64 ((n : Int))) (wt0 rfl) rfl rfl (x_lenl rfl rfl Tryz.underlying22) ?_)
  refine l_of (s_call (wt0 rfl) (x_call' rfl rfl cl38) (tall_n hn (by omega) _) ?_)
  rintro _ wq11 ⟨rfl, H12⟩
  replace H12 : S wq11 [Rw 9 1 q (n + k) d (stV (padS 0 l k)), Old w no] := H10.absorb (new := []) H12
  refine b_ret rfl rfl ?_
  refine l_of (s_call (wt0 rfl) (x_call' rfl rfl cl40) (two_r _ (by omega) _) ?_)
  rintro _ wq13 ⟨rfl, H14⟩
  replace H14 : S wq13 [Rw 9 1 q (n + k) d (stV (padS 0 l k)), Old w no] := H12.absorb (new := []) H14
  refine b_ret rfl rfl ?_
  refine l_of (s_val (v := .bool (decide ((((n + k) : Int) : Int) < ((2 ^ ((tallN l.length)) : Nat) : Int)))) (wt0 rfl) rfl rfl (x_bin rfl rfl rfl b_lss) ?_)
  refine g_nil ?_
  refine g_then ?_
  by_cases hb15 : (((n + k) : Int) : Int) < ((2 ^ ((tallN l.length)) : Nat) : Int)
  · skip
    refine g_cond_t rfl (decide_eq_true hb15) ?_
    refine g_skip ?_
    refine g_then ?_
    refine g_block ?_
    refine g_region ?_
    refine l_of (s_val (v := .slice q (n + k) d) (wt0 rfl) rfl rfl (x_move rfl rfl) ?_)
    refine l_of (s_call (wt0 rfl) (x_call' rfl rfl cl73) (zero_r _) ?_)
    rintro _ wq16 ⟨rfl, H17⟩
    replace H17 : S wq16 [Rw 9 1 q (n + k) d (stV (padS 0 l k)), Old w no] := H14.absorb (new := []) H17
    refine b_ret rfl rfl ?_
    refine l_of (s_buildSlice H17 (wt0 rfl) rfl rfl rfl (vs := [.string zeroB]) rfl Tryz.underlying22 sz9 ze9 rfl rfl (cells := #[.string zeroB]) (by kernel_rfl) ?_)
    intro g18 wq19 H20
    refine l_of (s_appendR (n := (n + k)) (m := 1) (sc := d) (xs := (stV (padS 0 l k))) (news := [.string zeroB]) (p := q) (ad := ⟨g18, 0, none⟩) H20 1 (wt0 rfl) rfl rfl rfl rfl rfl rfl Tryz.underlying22 inf9 rfl (by decide) (by decide) rfl (by decide) (news_ob H20 (j0 := 0) rfl) rfl (by omega) ?_)
    intro p21 c22 wq23 (H24 : S wq23 [Ob g18 (.cells #[.string zeroB] 9 (0, 0)), Rw 9 1 p21 ((n + k) + 1) c22 ((stV (padS 0 l k)) ++ [.string zeroB]), Old w no])
    refine l_of (s_val (v := .slice p21 ((n + k) + 1) c22) (wt0 rfl) rfl rfl (x_assign rfl rfl) ?_)
    refine g_nil ?_
    refine g_in ?_
    refine g_then ?_
    refine g_round (i := (k, q, d)) (k + 1, p21, c22) ?_ ?_ ?_
    · exact ⟨rfl, rfl, trivial⟩
    · exact ⟨by omega, (by rw [padS_next, stV_snoc]; exact (H24.takes [1, 2] (by decide)))⟩
    · (try dsimp only); omega
  · skip
    refine g_cond_f rfl (decide_eq_false hb15) ?_
    refine g_exit ?_
    refine g_then_exit ?_
    refine g_then_exit ?_
    refine g_in_hit ?_
    refine g_then ?_
    refine g_seq ?_
    refine g_region ?_
    refine l_of (s_val (v := .slice q (n + k) d) (wt0 rfl) rfl rfl (x_move rfl rfl) ?_)
    refine l_of (s_buildSlice H14 (wt0 rfl) rfl rfl rfl (vs := [.slice q (n + k) d]) rfl Tryz.underlying76 sz22 ze22 rfl rfl (cells := #[.slice q (n + k) d]) (by kernel_rfl) ?_)
    intro g25 wq26 H27
    refine l_of (s_val (v := .slice (some ⟨g25, 0, none⟩) (1) (1)) (wt0 rfl) rfl rfl (x_assign rfl rfl) ?_)
    refine g_nil ?_
    refine g_then ?_
    refine g_seq ?_
    refine g_block ?_
    have hmk : n + k = 2 ^ (tallN l.length) := by omega
    have hpl : (padS 0 l k).length = n + k := by rw [padS_len, hn]
    have hpr : padS 0 l k = (rowT l.length 0 l) := by unfold padS rowT; rw [show 2 ^ (tallN l.length - 0) - l.length = k from by rw [Nat.sub_zero]; omega]
    have H29 := (H27.takes [1, 0, 2] (by decide)).rowsNil (e := 9) (size := 1) (enc := encT)
    rw [roI_row _ _ _ _ hpl] at H29
    have H30 := S.obRw (k := 1) (size := 1) (n := 1) H29.rowsSnoc rfl rfl (by decide)
    have H28 : S wq26 [RowsI 9 1 encT [(⟨q, d, padS 0 l k⟩ : Ro ByteArray)], Rw 22 1 (some ⟨g25, 0, none⟩) [(⟨q, d, padS 0 l k⟩ : Ro ByteArray)].length 1 (rosV [(⟨q, d, padS 0 l k⟩ : Ro ByteArray)]), Old w no] := by
        have e : rosV [(⟨q, d, padS 0 l k⟩ : Ro ByteArray)] = [.slice q (n + k) d] := by (show [Value.slice q (padS 0 l k).length d] = _; rw [hpl])
        rw [e]
        exact H30
    rw [hmk]
    refine g_loop (ι := Nat × List (Ro ByteArray) × List ByteArray × Option Addr × Nat × Option Addr × Nat) (fun (t, rs, L, q, d, P, C) => [(3, .slice q (2 ^ t) d), (4, .slice P rs.length C)]) (fun (t, rs, L, q, d, P, C) wx => (t ≤ (tallN l.length)) ∧ (L.length = 2 ^ t) ∧ (digsB L = true) ∧ (L = upN ((tallN l.length) - t) (rowT l.length 0 l)) ∧ (rs[(tallN l.length) - t]? = some ⟨q, d, L⟩) ∧ (rs.map (·.l) = fullTo l ((tallN l.length) - t + 1)) ∧ S wx [RowsI 9 1 encT rs, Rw 22 1 P rs.length C (rosV rs), Old w no]) (fun (t, rs, L, q, d, P, C) => t) ((tallN l.length), [(⟨q, d, padS 0 l k⟩ : Ro ByteArray)], (padS 0 l k), q, d, (some ⟨g25, 0, none⟩), 1) ⟨rfl, rfl, trivial⟩ ⟨Nat.le_refl _, by rw [hpl, hmk], padS_digs _ hd, by rw [Nat.sub_self, hpr]; rfl, by rw [Nat.sub_self]; rfl, by rw [Nat.sub_self]; show [padS 0 l k] = [upN 0 (rowT l.length 0 l)]; rw [hpr]; rfl, H28⟩ ?_
    rintro ⟨t, rs, L, q, d, P, C⟩ wq31 ⟨ht, hL, hdL, hup, hlast, hrs, H32⟩
    replace H32 : S wq31 [RowsI 9 1 encT rs, Rw 22 1 P rs.length C (rosV rs), Old w no] := H32
    refine g_weak [(3, .slice q (2 ^ t) d), (4, .slice P rs.length C)] ⟨rfl, rfl, trivial⟩ ?_
    have hrl := full_len hrs
    refine g_seq ?_
    refine g_seq ?_
    refine g_region ?_
    refine l_of (s_val (v := .slice q (2 ^ t) d) (wt0 rfl) rfl rfl (x_move rfl rfl) ?_)
    refine l_of (s_val (v := .int .i64 (((2 ^ t) : Int))) (wt0 rfl) rfl rfl (x_lenl rfl rfl Tryz.underlying22) ?_)
    refine l_of (s_val (v := .bool (decide ((1 : Int) < ((2 ^ t) : Int)))) (wt0 rfl) rfl rfl (x_bin rfl rfl rfl b_gtr) ?_)
    refine g_nil ?_
    refine g_then ?_
    by_cases hb33 : (1 : Int) < ((2 ^ t) : Int)
    · skip
      refine g_cond_t rfl (decide_eq_true hb33) ?_
      refine g_skip ?_
      refine g_then ?_
      refine g_block ?_
      refine g_seq ?_
      refine g_region ?_
      refine l_of (s_val (v := .slice q (2 ^ t) d) (wt0 rfl) rfl rfl (x_move rfl rfl) ?_)
      refine l_of (s_call (wt0 rfl) (x_call' rfl rfl cl52) (up_p t L hb33 hL (by omega) hdL _ _ _ (row_read (H32.at (k := 0) rfl) hlast hL)) ?_)
      rintro _ wq36 ⟨p34, c35, rfl, H37⟩
      replace H37 : S wq36 [Rw 9 1 p34 (2 ^ (t - 1)) c35 (stV (upS L)), RowsI 9 1 encT rs, Rw 22 1 P rs.length C (rosV rs), Old w no] := H32.absorb (new := [Rw 9 1 p34 (2 ^ (t - 1)) c35 (stV (upS L))]) H37
      refine b_ret rfl rfl ?_
      refine l_of (s_val (v := .slice p34 (2 ^ (t - 1)) c35) (wt0 rfl) rfl rfl (x_assign rfl rfl) ?_)
      refine g_nil ?_
      refine g_then ?_
      refine g_region ?_
      refine l_of (s_val (v := .slice P rs.length C) (wt0 rfl) rfl rfl (x_move rfl rfl) ?_)
      refine l_of (s_val (v := .slice p34 (2 ^ (t - 1)) c35) (wt0 rfl) rfl rfl (x_move rfl rfl) ?_)
      refine l_of (s_buildSlice H37 (wt0 rfl) rfl rfl rfl (vs := [.slice p34 (2 ^ (t - 1)) c35]) rfl Tryz.underlying76 sz22 ze22 rfl rfl (cells := #[.slice p34 (2 ^ (t - 1)) c35]) (by kernel_rfl) ?_)
      intro g38 wq39 H40
      refine l_of (s_appendR (n := rs.length) (m := 1) (sc := C) (xs := (rosV rs)) (news := [.slice p34 (2 ^ (t - 1)) c35]) (p := P) (ad := ⟨g38, 0, none⟩) H40 3 (wt0 rfl) rfl rfl rfl rfl rfl rfl Tryz.underlying76 inf22 rfl (by decide) (by decide) rfl (by decide) (news_ob H40 (j0 := 0) rfl) rfl (by omega) ?_)
      intro p41 c42 wq43 (H44 : S wq43 [Ob g38 (.cells #[.slice p34 (2 ^ (t - 1)) c35] 22 (0, 0)), Rw 9 1 p34 (2 ^ (t - 1)) c35 (stV (upS L)), RowsI 9 1 encT rs, Rw 22 1 p41 (rs.length + 1) c42 ((rosV rs) ++ [.slice p34 (2 ^ (t - 1)) c35]), Old w no])
      refine l_of (s_val (v := .slice p41 (rs.length + 1) c42) (wt0 rfl) rfl rfl (x_assign rfl rfl) ?_)
      refine g_nil ?_
      refine g_in ?_
      refine g_then ?_
      have hp1 := pow_pos1 hb33
      rw [show rs.length + 1 = (rs ++ [(⟨p34, c35, upS L⟩ : Ro ByteArray)]).length from by rw [List.length_append]; rfl]
      have huL : (upS L).length = 2 ^ (t - 1) := by rw [upS_len, hL]; exact pow_half hb33
      have H46 := H44.takes [2, 1, 3, 4] (by decide)
      rw [roI_row _ _ _ _ huL] at H46
      have H45 : S wq43 [RowsI 9 1 encT (rs ++ [⟨p34, c35, upS L⟩]), Rw 22 1 p41 (rs ++ [(⟨p34, c35, upS L⟩ : Ro ByteArray)]).length c42 (rosV (rs ++ [⟨p34, c35, upS L⟩])), Old w no] := by rw [List.length_append, rosV_snoc, show roV (⟨p34, c35, upS L⟩ : Ro ByteArray) = .slice p34 (2 ^ (t - 1)) c35 from by (show Value.slice _ (upS L).length _ = _; rw [huL])]; exact H46.rowsSnoc
      refine g_round (i := (t, rs, L, q, d, P, C)) (t - 1, (rs ++ [⟨p34, c35, upS L⟩]), (upS L), p34, c35, p41, c42) ?_ ?_ ?_
      · exact ⟨rfl, rfl, trivial⟩
      · exact ⟨by omega, (by rw [upS_len, hL]; exact pow_half hb33), upS_digs L, (by rw [show (tallN l.length) - (t - 1) = (tallN l.length) - t + 1 from by omega, upN_snoc, ← hup]), (by rw [show (tallN l.length) - (t - 1) = rs.length from by rw [hrl]; omega, List.getElem?_append_right (Nat.le_refl _), Nat.sub_self]; rfl), (by rw [List.map_append, hrs, show (tallN l.length) - (t - 1) + 1 = ((tallN l.length) - t + 1) + 1 from by omega, fullTo_next l ((tallN l.length) - t + 1), upN_snoc, ← hup]; rfl), H45⟩
      · (try dsimp only); omega
    · skip
      refine g_cond_f rfl (decide_eq_false hb33) ?_
      refine g_exit ?_
      refine g_then_exit ?_
      refine g_then_exit ?_
      refine g_in_hit ?_
      refine g_then ?_
      refine g_seq ?_
      refine g_region ?_
      refine l_of (s_val (v := .slice P rs.length C) (wt0 rfl) rfl rfl (x_move rfl rfl) ?_)
      refine l_of (s_val (v := .slice P rs.length C) (wt0 rfl) rfl rfl (x_assign rfl rfl) ?_)
      refine g_nil ?_
      refine g_then ?_
      refine g_ret ?_
      refine fin_ret [.tmp 2] [.slice P rs.length C] rfl ⟨rfl, trivial⟩ ?_
      have ht0 : t = 0 := two_gt hb33
      subst ht0
      exact ⟨_, _, rs, rfl, hrs, H32.takes [1, 0, 2] (by decide)⟩
end Go.Proofs.YtlajgickimgigaaGreat
