import Derived.Test.YtdkfkdekiljcoaaSW
import Derived.Test.YtdkfkdekiljcoaaFk
set_option linter.unusedSimpArgs false
set_option linter.unusedVariables false
namespace Go.Proofs.Ytdkfkdekiljcoaa
open Go.RowKit

theorem cl72 : callable Try.prog 72 = true := by kernel_rfl
theorem inf69 : infO Try.prog 69 = some (some (.agg #[.int .i64 0, .slice none 0 0]), 2, 32) := by kernel_rfl
theorem ze9 : zeO Try.prog 9 = some (.string (⟨#[]⟩)) := by kernel_rfl
/-- A field of m bits, with no bit behind. -/
def Vf (m : Nat) (s : ByteArray) : Prop := s.size = longN m ∧ ∀ j, m ≤ j → j < 8 * longN m → bitA s j = false
theorem Vf.wrong {m : Nat} {s : ByteArray} (h : Vf m s) (hm : m ≤ 4096) : (wrongS (m : Int) s).2 = 0 := by
  unfold wrongS; rw [if_pos (rightB_nat hm), Int.toNat_natCast, wrongN_ok h.1 h.2]
theorem Vf.check {m : Nat} {s : ByteArray} (h : Vf m s) (hm : m ≤ 4096) : checkS (m : Int) s = 0 := by
  unfold checkS; rw [if_pos (rightB_nat hm), if_pos]
  unfold validF; rw [h.wrong hm]; rfl
def setB (s : ByteArray) (i : Nat) : ByteArray := ⟨s.data.setIfInBounds (i / 8) (UInt8.ofNat (bt' s (i / 8) ||| 128 / 2 ^ (i % 8)))⟩
theorem setB_size (s : ByteArray) (i : Nat) : (setB s i).size = s.size := by show (Array.setIfInBounds _ _ _).size = s.data.size; simp
def setC (cs : Array Value) (s : ByteArray) (i : Nat) : Array Value := cs.setIfInBounds (i / 8) (.int .u8 ((bt' s (i / 8) ||| 128 / 2 ^ (i % 8) : Nat) : Int))
theorem set_lt (s : ByteArray) (i : Nat) : bt' s (i / 8) ||| 128 / 2 ^ (i % 8) < 256 := by
  have h1 := bt'_lt s (i / 8)
  have h2 : 128 / 2 ^ (i % 8) ≤ 128 := Nat.div_le_self _ _
  exact Nat.or_lt_two_pow (n := 8) (by omega) (by omega)
theorem setC_reads {s : ByteArray} {cs : Array Value} {i : Nat} (h : ∀ j, j < s.size → cs[j]? = some (.int .u8 ((s.data.toList.getD j 0).toNat : Nat))) (hi : i / 8 < s.size) (hl : s.size ≤ cs.size) :
    ∀ (j : Nat) (u : Value), (bytesV (setB s i).data.toList)[j]? = some u → (setC cs s i)[j]? = some u := fun j u hu => by
  have hj : j < s.size := by
    have := (List.getElem?_eq_some_iff.1 hu).1
    unfold bytesV at this
    rw [List.length_map, Array.length_toList] at this
    rw [← setB_size s i]; exact this
  unfold bytesV setB at hu
  unfold setC
  simp only [List.getElem?_map, Array.getElem?_toList, Array.getElem?_setIfInBounds] at hu ⊢
  have hd : s.data.size = s.size := rfl
  by_cases he : i / 8 = j
  · rw [if_pos he, if_pos (by omega)] at hu ⊢
    simp only [Option.map_some, Option.some.injEq] at hu
    rw [← hu]
    have : (UInt8.ofNat (bt' s (i / 8) ||| 128 / 2 ^ (i % 8))).toNat = bt' s (i / 8) ||| 128 / 2 ^ (i % 8) := by
      rw [UInt8.toNat_ofNat']; exact Nat.mod_eq_of_lt (set_lt s i)
    rw [this]
  · rw [if_neg he] at hu ⊢
    rw [h j hj, ← hu]
    have hjd : j < s.data.size := hj
    rw [List.getD_eq_getElem?_getD, Array.getElem?_toList, Array.getElem?_eq_getElem hjd]; rfl
theorem reads_pre {w : World} {L : List Item} {k g e n c : Nat} {cs : Array Value} {fr : Nat × Nat} {l : List UInt8} (H : S w L) (hk : L[k]? = some (Ob g (.cells cs e fr))) (hn : l.length = n) (hc : n ≤ c) (hr : ∀ (j : Nat) (u : Value), (bytesV l)[j]? = some u → cs[j]? = some u) : Reads w (some ⟨g, 0, none⟩) n c 1 (bytesV l) :=
  ⟨by unfold bytesV; rw [List.length_map, hn, Nat.mul_one], hc, fun _ => ⟨_, rfl, fun j u hu => by
    have hadd : (⟨g, 0, none⟩ : Addr).add j = ⟨g, j, none⟩ := by unfold Addr.add; split <;> simp_all
    rw [hadd]
    exact H.cell hk (hr j u hu)⟩⟩
set_option maxRecDepth 20000 in
set_option maxHeartbeats 4000000 in
theorem open_b (g m : Nat) (s : ByteArray) (hm : m ≤ 4096) (hv : (wrongS (m : Int) s).2 = 0) (w : World) (HS : S w [Ob g (.cells #[.string s] 9 (0, 0))]) : Calls Try.prog 72 #[.int .i64 ((m : Int)), .slice (some ⟨g, 0, none⟩) (1) (1)] w fun e w' => ∃ q d gb c fr cs, e = .returned (.slice q 1 d) ∧ (∀ j, j < s.size → cs[j]? = some (.int .u8 ((s.data.toList.getD j 0).toNat : Nat))) ∧ s.size ≤ c ∧ (s.size ≤ cs.size ∧ cs.size ≤ fr.1) ∧ S w' ([Rw 69 2 q 1 d [.int .i64 (m : Int), .slice (some ⟨gb, 0, none⟩) s.size c], Ob gb (.cells cs 5 fr), Ob g (.cells #[.string s] 9 (0, 0))] ++ [Old w (fps [Ob g (.cells #[.string s] 9 (0, 0))])]) := by
 have H0 := HS.beginI
 refine enter 41 Try.func72 rfl rfl rfl ?_
 refine g_weak [(0, .int .i64 ((m : Int))), (1, .slice (some ⟨g, 0, none⟩) (1) (1))] ⟨rfl, rfl, trivial⟩ ?_
 refine w_s ?_
 refine w_a ?_
 refine w_e ?_
 refine w_s ?_
 refine w_m ?_
 refine w_b ?_
 refine w_m ?_
 refine l_of (s_val (v := .int .i64 ((m : Int))) (wt1 rfl rfl rfl rfl (decide_eq_false (by omega))) rfl rfl (x_move rfl rfl) ?_)
 refine l_of (s_val (v := .bool (decide ((4096 : Int) < (m : Int)))) (wt1 rfl rfl rfl rfl (decide_eq_false (by omega))) rfl rfl (x_bin rfl rfl rfl b_gtr) ?_)
 refine w_v (v := .bool (decide ((4096 : Int) < (m : Int)))) (x_pick_f rfl rfl (decide_eq_false (by omega)) rfl) ?_
 refine l_of (s_call0 H0 (wt0 rfl) (x_call' rfl rfl cl38) (fail_r _ _ (decide_eq_false (by omega)) _) rfl rfl ?_)
 intro wq1 H2
 refine w_e ?_
 refine w_s ?_
 have H3 : S wq1 [Rw 69 2 none 0 0 [], Ob g (.cells #[.string s] 9 (0, 0)), Old w (fps [Ob g (.cells #[.string s] 9 (0, 0))])] := H2.nilRw 69 2
 refine w_a ?_
 refine w_e ?_
 refine g_seq ?_
 refine w_s ?_
 refine w_m ?_
 refine w_v (v := .int .i64 1) (x_lenl rfl rfl Try.underlying118) ?_
 refine w_m ?_
 refine w_e ?_
 refine g_block ?_
 refine g_rounds 2 ?_
 refine g_roundU ?_
 refine w_s ?_
 refine w_b ?_
 refine w_e ?_
 refine g_seq ?_
 refine g_cond_t rfl (by decide) ?_
 refine g_skip ?_
 refine g_then ?_
 refine g_seq ?_
 refine g_block ?_
 refine w_s ?_
 refine w_v (v := .pointer (some ⟨g, 0, none⟩)) (x_indexAddr 0 rfl rfl rfl Try.underlying118 sz9 (by omega) (off' := 0) rfl) ?_
 refine w_1 H3 1 ?_
 refine w_a ?_
 refine w_e ?_
 refine g_weak [(0, .int .i64 ((m : Int))), (5, .slice none 0 0), (7, .string s), (17, .slice (some ⟨g, 0, none⟩) (1) (1)), (18, .int .i64 1), (19, .int .i64 0)] ⟨rfl, rfl, rfl, rfl, rfl, rfl, trivial⟩ ?_
 refine w_s ?_
 refine w_r2 ?_
 have hwr4 := wrong_b (m : Int) s wq1
 rw [hv] at hwr4
 refine l_of (s_call0 H3 (wt0 rfl) (x_call' rfl rfl cl41) (hwr4) rfl rfl ?_)
 intro wq5 H6
 refine w_r5 ?_
 refine w_e ?_
 refine w_s ?_
 refine w_m ?_
 refine w_b (v := .bool (!decide ((0 : Int) = 0))) (hb := b_neq) ?_
 refine l_of (s_call0 H6 (wt0 rfl) (x_call' rfl rfl cl38) (fail_r _ _ (nf rfl) _) rfl rfl ?_)
 intro wq7 H8
 refine w_e ?_
 refine g_region ?_
 refine w_r3 ?_
 refine l_of (s_bytesOf2 H8 (wt0 rfl) rfl rfl rfl rfl Try.underlying9 Try.underlying67 Try.underlying5 ?_)
 intro gb9 cb10 fr11 cs12 wq16 H17 hby13 hbc14 hfr15
 refine w_v (v := .agg #[.int .i64 ((m : Int)), .slice (some ⟨gb9, 0, none⟩) s.size cb10]) (x_build (vs := [.int .i64 ((m : Int)), .slice (some ⟨gb9, 0, none⟩) s.size cb10]) rfl rfl (cells := #[.int .i64 ((m : Int)), .slice (some ⟨gb9, 0, none⟩) s.size cb10]) (by kernel_rfl)) ?_
 refine l_of (s_buildSlice H17 (wt0 rfl) rfl rfl rfl (vs := [.agg #[.int .i64 ((m : Int)), .slice (some ⟨gb9, 0, none⟩) s.size cb10]]) rfl Try.underlying110 sz69 ze69 rfl rfl (cells := #[.int .i64 ((m : Int)), .slice (some ⟨gb9, 0, none⟩) s.size cb10]) (by kernel_rfl) ?_)
 intro g18 wq19 H20
 refine l_of (s_appendR (n := 0) (m := 1) (sc := 0) (xs := []) (news := [.int .i64 ((m : Int)), .slice (some ⟨gb9, 0, none⟩) s.size cb10]) (p := none) (ad := ⟨g18, 0, none⟩) H20 2 (wt0 rfl) rfl rfl rfl rfl rfl rfl Try.underlying110 inf69 rfl (by decide) (by decide) rfl (by decide) (news_ob H20 (j0 := 0) rfl) rfl (by omega) ?_)
 intro p21 c22 wq23 (H24 : S wq23 [Ob g18 (.cells #[.int .i64 ((m : Int)), .slice (some ⟨gb9, 0, none⟩) s.size cb10] 69 (0, 0)), Ob gb9 (.cells cs12 5 fr11), Rw 69 2 p21 (0 + 1) c22 ([] ++ [.int .i64 ((m : Int)), .slice (some ⟨gb9, 0, none⟩) s.size cb10]), Ob g (.cells #[.string s] 9 (0, 0)), Old w (fps [Ob g (.cells #[.string s] 9 (0, 0))])])
 refine w_a ?_
 refine g_nil ?_
 refine g_in ?_
 refine g_then ?_
 refine g_weak [(0, .int .i64 ((m : Int))), (5, .slice p21 (0 + 1) c22), (17, .slice (some ⟨g, 0, none⟩) (1) (1)), (18, .int .i64 1), (19, .int .i64 0)] ⟨rfl, rfl, rfl, rfl, rfl, trivial⟩ ?_
 refine g_region ?_
 refine w_b (v := .int .i64 1) (hb := (b_add (r := 1) (by decide))) ?_
 refine w_m ?_
 refine w_e ?_
 refine g_roundU ?_
 refine w_s ?_
 refine w_b ?_
 refine w_e ?_
 refine g_seq ?_
 refine g_cond_f rfl (by decide) ?_
 refine g_exit ?_
 refine g_then_exit ?_
 refine g_then_exit ?_
 refine g_in_hit ?_
 refine g_then ?_
 refine w_s ?_
 refine w_r2 ?_
 refine w_e ?_
 refine g_ret ?_
 refine fin_ret [.tmp 4] [.slice p21 (0 + 1) c22] rfl ⟨rfl, trivial⟩ ?_
 exact ⟨_, _, gb9, cb10, fr11, cs12, rfl, hby13, hbc14, hfr15, H24.takes [2, 1, 3, 4] (by decide)⟩
set_option maxRecDepth 20000 in
set_option maxHeartbeats 4000000 in
theorem setF_b (m gb n c i b : Nat) (cs : Array Value) (fr : Nat × Nat) (hb : b < 256) (hi : i / 8 < n) (hi2 : i ≤ 1099511627776) (hc : cs[i / 8]? = some (.int .u8 ((b : Nat) : Int))) (hn : n ≤ 1099511627776) (hf : n ≤ cs.size ∧ cs.size ≤ fr.1) (w : World) (HS : S w [Ob gb (.cells cs 5 fr)]) : Calls Try.prog 73 #[.agg #[.int .i64 ((m : Int)), .slice (some ⟨gb, 0, none⟩) (n) (c)], .int .i64 ((i : Int)), .bool true] w fun e w' => e = .returned (.tuple #[]) ∧ S w' ([Ob gb (.cells (cs.setIfInBounds (i / 8) (.int .u8 ((b ||| 128 / 2 ^ (i % 8) : Nat) : Int))) 5 fr)] ++ [Old w (fps [Ob gb (.cells cs 5 fr)])]) := by
 have H0 := HS.beginI
 have h128 : 128 / 2 ^ (i % 8) ≤ 128 := Nat.div_le_self _ _
 refine enter 29 Try.func73 rfl rfl rfl ?_
 refine g_weak [(0, .agg #[.int .i64 ((m : Int)), .slice (some ⟨gb, 0, none⟩) (n) (c)]), (1, .int .i64 ((i : Int))), (2, .bool true)] ⟨rfl, rfl, rfl, trivial⟩ ?_
 refine w_s ?_
 refine l_of (s_box H0 (wt0 rfl) rfl rfl rfl rfl ?_)
 intro g1 wq2 H3
 refine w_e ?_
 refine w_s ?_
 refine w_m ?_
 refine w_b (v := .int .i64 (((i % 8 : Nat) : Int))) (hb := (b_remN (a := i) (b := 8) (by omega))) ?_
 refine w_b (v := .int .u8 (((128 / 2 ^ (i % 8) : Nat) : Int))) (hb := (b_shrN (a := 128) (n := i % 8) (by show i % 8 ≤ 8; omega))) ?_
 refine w_a ?_
 refine w_e ?_
 refine w_s ?_
 refine w_m ?_
 refine w_e ?_
 refine g_cond_t rfl rfl ?_
 refine g_region ?_
 refine w_f 1 ?_
 refine w_1 H3 0 ?_
 refine w_m ?_
 refine w_b (v := .int .i64 (((i / 8 : Nat) : Int))) (hb := (b_quoN (a := i) (b := 8) (by omega))) ?_
 refine w_v (v := .pointer (some ⟨gb, (i / 8), none⟩)) (x_indexAddr (i / 8) rfl rfl rfl Try.underlying67 sz5 (by omega) (off' := i / 8) (by omega)) ?_
 refine w_v (x_load1 H3 1 rfl rfl Try.underlying5 rfl rfl hc) ?_
 refine w_m ?_
 refine w_b (v := .int .u8 (((b ||| 128 / 2 ^ (i % 8) : Nat) : Int))) (hb := (b_or8 (a := b) (b := 128 / 2 ^ (i % 8)) (by omega))) ?_
 refine w_v (v := .pointer (some ⟨gb, (i / 8), none⟩)) (x_indexAddr (i / 8) rfl rfl rfl Try.underlying67 sz5 (by omega) (off' := i / 8) (by omega)) ?_
 refine l_of (s_storeF H3 1 (wt0 rfl) rfl rfl rfl rfl rfl sz5 rfl rfl (by omega) (by omega) ?_)
 intro wq4 H5
 refine g_nil ?_
 refine fin_end [] [] rfl trivial ?_
 exact ⟨rfl, H5.takes [1, 2] (by decide)⟩
set_option maxRecDepth 20000 in
set_option maxHeartbeats 4000000 in
theorem has_bits (m : Nat) (s : ByteArray) (i : Int) (hm : m ≤ 4096) (hV : Vf m s) (w : World) : Calls Try.prog 74 #[.int .i64 ((m : Int)), .string s, .int .i64 i] w fun e w' => e = .returned (.tuple #[.bool (hasB m s i), .int .i64 (hasE m i)]) ∧ S w' [Old w no] := by
 have H0 := S.old w
 have hs := hV.1
 have hv := hV.wrong hm
 refine enter_d 26 Try.func74 rfl rfl rfl ?_
 refine g_weak [(0, .int .i64 ((m : Int))), (1, .string s), (2, .int .i64 i)] ⟨rfl, rfl, rfl, trivial⟩ ?_
 refine w_s ?_
 refine w_a ?_
 refine l_of (s_alloc H0 (wt0 rfl) rfl rfl rfl ze28 ?_)
 intro g1 wq2 H3
 refine w_e ?_
 refine w_s ?_
 refine l_of (s_defer (wt0 rfl) rfl (xd_defer rfl rfl rfl) ?_)
 refine w_e ?_
 refine w_s ?_
 refine w_r2 ?_
 refine l_of (s_buildSlice H3 (wt0 rfl) rfl rfl rfl (vs := [.string s]) rfl Try.underlying118 sz9 ze9 rfl rfl (cells := #[.string s]) (by kernel_rfl) ?_)
 intro g4 wq5 H6
 refine l_of (s_call (wt0 rfl) (x_call' rfl rfl cl72) (open_b g4 m s hm hv _ (H6.takes [0] (by decide))) ?_)
 rintro _ wq16 ⟨q7, d8, gb9, cb10, fr11, cs12, rfl, hby13, hbc14, hfr15, H17⟩
 replace H17 : S wq16 [Rw 69 2 q7 1 d8 [.int .i64 (m : Int), .slice (some ⟨gb9, 0, none⟩) s.size cb10], Ob gb9 (.cells cs12 5 fr11), Ob g4 (.cells #[.string s] 9 (0, 0)), Ob g1 (.cells #[.int .i64 0] 28 (0, 0)), Old w no] := by have h := H6.absorbI [0] H17; exact h
 refine b_ret rfl rfl ?_
 refine w_v (v := .pointer ((q7).map fun q => q.add (0 * 2))) (x_idxR 0 (H17.rwReads (k := 0) rfl) rfl rfl rfl Try.underlying110 sz69 (by omega)) ?_
 refine w_v (v := .agg #[.int .i64 ((m : Int)), .slice (some ⟨gb9, 0, none⟩) (s.size) (cb10)]) (x_loadRA (vs := [.int .i64 (m : Int), .slice (some ⟨gb9, 0, none⟩) s.size cb10]) 0 (H17.rwReads (k := 0) rfl) (by omega) rfl rfl Try.underlying69 rfl sz69 (by rfl) ((fun i u h => by simpa using h))) ?_
 refine l_of (s_alloc H17 (wt0 rfl) rfl rfl rfl ze69 ?_)
 intro g18 wq19 H20
 refine l_of (w_st #[.int .i64 ((m : Int)), .slice (some ⟨gb9, 0, none⟩) (s.size) (cb10)] H20 0 ?_)
 intro wq21 H22
 refine w_e ?_
 refine w_s ?_
 refine w_m ?_
 refine w_b ?_
 refine w_m ?_
 by_cases hb23 : (i : Int) < 0
 ·
  refine w_n (decide_eq_true hb23) ?_
  refine w_n (decide_eq_true hb23) ?_
  refine w_n (decide_eq_true hb23) ?_
  refine w_v (v := .bool true) (x_pick_t rfl rfl (decide_eq_true hb23) rfl) ?_
  refine l_of (s_call (wt0 rfl) (x_call' rfl rfl cl38) (fail_p _ _ rfl _) ?_)
  rintro _ wq24 ⟨rfl, H25⟩
  replace H25 : S wq24 [Ob g18 (.cells #[.int .i64 ((m : Int)), .slice (some ⟨gb9, 0, none⟩) (s.size) (cb10)] 69 (0, 0)), Rw 69 2 q7 1 d8 [.int .i64 (m : Int), .slice (some ⟨gb9, 0, none⟩) s.size cb10], Ob gb9 (.cells cs12 5 fr11), Ob g4 (.cells #[.string s] 9 (0, 0)), Ob g1 (.cells #[.int .i64 0] 28 (0, 0)), Old w no] := H22.absorb (new := []) H25
  refine b_panic ?_
  refine g_then_panic ?_
  refine fin_dpanic ?_
  refine gl_step (by simp) cl26 (caughtb_p g1 7 (0) [] _ (H25.ob (k := 4) rfl)) ?_
  rintro _ _ wq26 ⟨⟨rfl, H27⟩, rfl⟩
  replace H27 : S wq26 [Ob g1 (.cells #[.int .i64 7] 28 (0, 0)), Ob g18 (.cells #[.int .i64 ((m : Int)), .slice (some ⟨gb9, 0, none⟩) (s.size) (cb10)] 69 (0, 0)), Rw 69 2 q7 1 d8 [.int .i64 (m : Int), .slice (some ⟨gb9, 0, none⟩) s.size cb10], Ob gb9 (.cells cs12 5 fr11), Ob g4 (.cells #[.string s] 9 (0, 0)), Old w no] := H25.absorbK (new := [Ob g1 (.cells #[.int .i64 7] 28 (0, 0))]) [4] (by intro g hg; rw [List.mem_singleton] at hg; subst hg; exact ⟨4, rfl, _, rfl, rfl⟩) H27
  refine (?_ : GL _ _ _ _ _ _ FrameMode.returning _)
  refine gl_ret [.tmp 6, .cell 7 28] [.bool false, .int .i64 7] rfl ⟨rfl, ⟨_, rfl, run_load1 Try.underlying28 rfl (H27.cell (k := 0) rfl rfl)⟩, trivial⟩ ?_
  obtain ⟨q1, q2⟩ := has_out (m := m) (s := s) (i := i) (by omega)
  exact ⟨by rw [q1, q2]; rfl, H27.mask [false, false, false, false, false, true]⟩
 ·
  refine w_g (decide_eq_false hb23) xm ?_
  refine w_g (decide_eq_false hb23) xm ?_
  refine w_g (decide_eq_false hb23) (x_bin rfl rfl rfl b_geq) ?_
  refine w_v (v := .bool (decide (((m : Int) : Int) ≤ i))) (x_pick_f rfl rfl (decide_eq_false hb23) rfl) ?_
  by_cases hb28 : ((m : Int) : Int) ≤ i
  ·
   refine l_of (s_call (wt0 rfl) (x_call' rfl rfl cl38) (fail_p _ _ (decide_eq_true hb28) _) ?_)
   rintro _ wq29 ⟨rfl, H30⟩
   replace H30 : S wq29 [Ob g18 (.cells #[.int .i64 ((m : Int)), .slice (some ⟨gb9, 0, none⟩) (s.size) (cb10)] 69 (0, 0)), Rw 69 2 q7 1 d8 [.int .i64 (m : Int), .slice (some ⟨gb9, 0, none⟩) s.size cb10], Ob gb9 (.cells cs12 5 fr11), Ob g4 (.cells #[.string s] 9 (0, 0)), Ob g1 (.cells #[.int .i64 0] 28 (0, 0)), Old w no] := H22.absorb (new := []) H30
   refine b_panic ?_
   refine g_then_panic ?_
   refine fin_dpanic ?_
   refine gl_step (by simp) cl26 (caughtb_p g1 7 (0) [] _ (H30.ob (k := 4) rfl)) ?_
   rintro _ _ wq31 ⟨⟨rfl, H32⟩, rfl⟩
   replace H32 : S wq31 [Ob g1 (.cells #[.int .i64 7] 28 (0, 0)), Ob g18 (.cells #[.int .i64 ((m : Int)), .slice (some ⟨gb9, 0, none⟩) (s.size) (cb10)] 69 (0, 0)), Rw 69 2 q7 1 d8 [.int .i64 (m : Int), .slice (some ⟨gb9, 0, none⟩) s.size cb10], Ob gb9 (.cells cs12 5 fr11), Ob g4 (.cells #[.string s] 9 (0, 0)), Old w no] := H30.absorbK (new := [Ob g1 (.cells #[.int .i64 7] 28 (0, 0))]) [4] (by intro g hg; rw [List.mem_singleton] at hg; subst hg; exact ⟨4, rfl, _, rfl, rfl⟩) H32
   refine (?_ : GL _ _ _ _ _ _ FrameMode.returning _)
   refine gl_ret [.tmp 6, .cell 7 28] [.bool false, .int .i64 7] rfl ⟨rfl, ⟨_, rfl, run_load1 Try.underlying28 rfl (H32.cell (k := 0) rfl rfl)⟩, trivial⟩ ?_
   obtain ⟨q1, q2⟩ := has_out (m := m) (s := s) (i := i) (by omega)
   exact ⟨by rw [q1, q2]; rfl, H32.mask [false, false, false, false, false, true]⟩
  ·
   refine l_of (s_call0 H22 (wt0 rfl) (x_call' rfl rfl cl38) (fail_r _ _ (decide_eq_false hb28) _) rfl rfl ?_)
   intro wq33 H34
   refine w_e ?_
   refine g_weak [(2, .int .i64 i), (7, .pointer (some ⟨g1, 0, none⟩)), (8, .pointer (some ⟨g18, 0, none⟩))] ⟨rfl, rfl, rfl, trivial⟩ ?_
   refine w_s ?_
   refine w_v (v := .agg #[.int .i64 ((m : Int)), .slice (some ⟨gb9, 0, none⟩) (s.size) (cb10)]) (x_loadA H34 0 rfl rfl Try.underlying69 rfl sz69 rfl rfl rfl) ?_
   refine w_m ?_
   have hhs35 := has_b m gb9 s.size cb10 i.toNat (bt' s (i.toNat / 8)) wq33 (bt'_lt _ _) (by rw [hs]; unfold longN; omega) (by omega) (H34.cell (k := 2) rfl (hby13 (i.toNat / 8) (by rw [hs]; unfold longN; omega)))
   rw [show ((i.toNat : Nat) : Int) = i from by omega] at hhs35
   refine l_of (s_call0 H34 (wt0 rfl) (x_call' rfl rfl cl70) (hhs35) rfl rfl ?_)
   intro wq36 H37
   refine w_a ?_
   refine l_of (w_st #[.int .i64 0] H37 4 ?_)
   intro wq38 H39
   refine w_e ?_
   refine g_ret ?_
   refine fin_dret ?_
   refine gl_step (by simp) cl26 (caughtb_n g1 _) ?_
   rintro _ _ wq40 ⟨⟨rfl, H41⟩, rfl⟩
   replace H41 : S wq40 [Ob g18 (.cells #[.int .i64 ((m : Int)), .slice (some ⟨gb9, 0, none⟩) (s.size) (cb10)] 69 (0, 0)), Rw 69 2 q7 1 d8 [.int .i64 (m : Int), .slice (some ⟨gb9, 0, none⟩) s.size cb10], Ob gb9 (.cells cs12 5 fr11), Ob g4 (.cells #[.string s] 9 (0, 0)), Ob g1 (.cells #[.int .i64 0] 28 (0, 0)), Old w no] := H39.absorb (new := []) H41
   refine (?_ : GL _ _ _ _ _ _ FrameMode.returning _)
   refine gl_ret [.tmp 6, .cell 7 28] [.bool ((bitA s i.toNat)), .int .i64 0] rfl ⟨rfl, ⟨_, rfl, run_load1 Try.underlying28 rfl (H41.cell (k := 4) rfl rfl)⟩, trivial⟩ ?_
   obtain ⟨q1, q2⟩ := has_in (m := m) (s := s) (i := i) (by omega)
   exact ⟨by rw [q1, q2]; rfl, H41.mask [false, false, false, false, false, true]⟩
set_option maxRecDepth 20000 in
set_option maxHeartbeats 4000000 in
theorem set_bits (m : Nat) (s : ByteArray) (i : Int) (hm : m ≤ 4096) (hV : Vf m s) (hi : 0 ≤ i ∧ i < (m : Int)) (w : World) : Calls Try.prog 49 #[.int .i64 ((m : Int)), .string s, .int .i64 i, .bool true] w fun e w' => e = .returned (.tuple #[.string (setB s i.toNat), .int .i64 0]) ∧ S w' [Old w no] := by
 have H0 := S.old w
 have hs := hV.1
 have hv := hV.wrong hm
 refine enter_d 32 Try.func49 rfl rfl rfl ?_
 refine g_weak [(0, .int .i64 ((m : Int))), (1, .string s), (2, .int .i64 i), (3, .bool true)] ⟨rfl, rfl, rfl, rfl, trivial⟩ ?_
 refine w_s ?_
 refine w_a ?_
 refine l_of (s_alloc H0 (wt0 rfl) rfl rfl rfl ze28 ?_)
 intro g1 wq2 H3
 refine w_e ?_
 refine w_s ?_
 refine l_of (s_defer (wt0 rfl) rfl (xd_defer rfl rfl rfl) ?_)
 refine w_e ?_
 refine w_s ?_
 refine w_r2 ?_
 refine l_of (s_buildSlice H3 (wt0 rfl) rfl rfl rfl (vs := [.string s]) rfl Try.underlying118 sz9 ze9 rfl rfl (cells := #[.string s]) (by kernel_rfl) ?_)
 intro g4 wq5 H6
 refine l_of (s_call (wt0 rfl) (x_call' rfl rfl cl72) (open_b g4 m s hm hv _ (H6.takes [0] (by decide))) ?_)
 rintro _ wq16 ⟨q7, d8, gb9, cb10, fr11, cs12, rfl, hby13, hbc14, hfr15, H17⟩
 replace H17 : S wq16 [Rw 69 2 q7 1 d8 [.int .i64 (m : Int), .slice (some ⟨gb9, 0, none⟩) s.size cb10], Ob gb9 (.cells cs12 5 fr11), Ob g4 (.cells #[.string s] 9 (0, 0)), Ob g1 (.cells #[.int .i64 0] 28 (0, 0)), Old w no] := by have h := H6.absorbI [0] H17; exact h
 refine b_ret rfl rfl ?_
 refine w_v (v := .pointer ((q7).map fun q => q.add (0 * 2))) (x_idxR 0 (H17.rwReads (k := 0) rfl) rfl rfl rfl Try.underlying110 sz69 (by omega)) ?_
 refine w_v (v := .agg #[.int .i64 ((m : Int)), .slice (some ⟨gb9, 0, none⟩) (s.size) (cb10)]) (x_loadRA (vs := [.int .i64 (m : Int), .slice (some ⟨gb9, 0, none⟩) s.size cb10]) 0 (H17.rwReads (k := 0) rfl) (by omega) rfl rfl Try.underlying69 rfl sz69 (by rfl) ((fun i u h => by simpa using h))) ?_
 refine l_of (s_alloc H17 (wt0 rfl) rfl rfl rfl ze69 ?_)
 intro g18 wq19 H20
 refine l_of (w_st #[.int .i64 ((m : Int)), .slice (some ⟨gb9, 0, none⟩) (s.size) (cb10)] H20 0 ?_)
 intro wq21 H22
 refine w_e ?_
 refine w_s ?_
 refine w_m ?_
 refine w_b ?_
 refine w_m ?_
 refine l_of (s_val (v := .int .i64 i) (wt1 rfl rfl rfl rfl (decide_eq_false (by omega))) rfl rfl (x_move rfl rfl) ?_)
 refine l_of (s_val (v := .int .i64 ((m : Int))) (wt1 rfl rfl rfl rfl (decide_eq_false (by omega))) rfl rfl (x_move rfl rfl) ?_)
 refine l_of (s_val (v := .bool (decide (((m : Int) : Int) ≤ i))) (wt1 rfl rfl rfl rfl (decide_eq_false (by omega))) rfl rfl (x_bin rfl rfl rfl b_geq) ?_)
 refine w_v (v := .bool (decide (((m : Int) : Int) ≤ i))) (x_pick_f rfl rfl (decide_eq_false (by omega)) rfl) ?_
 refine l_of (s_call0 H22 (wt0 rfl) (x_call' rfl rfl cl38) (fail_r _ _ (decide_eq_false (by omega)) _) rfl rfl ?_)
 intro wq23 H24
 refine w_e ?_
 refine g_weak [(2, .int .i64 i), (3, .bool true), (9, .pointer (some ⟨g1, 0, none⟩)), (10, .pointer (some ⟨g18, 0, none⟩))] ⟨rfl, rfl, rfl, rfl, trivial⟩ ?_
 refine w_s ?_
 refine w_v (v := .agg #[.int .i64 ((m : Int)), .slice (some ⟨gb9, 0, none⟩) (s.size) (cb10)]) (x_loadA H24 0 rfl rfl Try.underlying69 rfl sz69 rfl rfl rfl) ?_
 refine w_r2 ?_
 have hst25 := setF_b m gb9 s.size cb10 i.toNat (bt' s (i.toNat / 8)) cs12 fr11 (bt'_lt _ _) (by rw [hs]; unfold longN; omega) (by omega) (hby13 (i.toNat / 8) (by rw [hs]; unfold longN; omega)) (by rw [hs]; unfold longN; omega) hfr15 wq23 (H24.takes [2] (by decide))
 rw [show ((i.toNat : Nat) : Int) = i from by omega] at hst25
 refine l_of (s_call (wt0 rfl) (x_call' rfl rfl cl73) (hst25) ?_)
 rintro _ wq26 ⟨rfl, H27⟩
 replace H27 : S wq26 [Ob gb9 (.cells (setC cs12 s i.toNat) 5 fr11), Ob g18 (.cells #[.int .i64 ((m : Int)), .slice (some ⟨gb9, 0, none⟩) (s.size) (cb10)] 69 (0, 0)), Rw 69 2 q7 1 d8 [.int .i64 (m : Int), .slice (some ⟨gb9, 0, none⟩) s.size cb10], Ob g4 (.cells #[.string s] 9 (0, 0)), Ob g1 (.cells #[.int .i64 0] 28 (0, 0)), Old w no] := by have h := H24.absorbI [2] H27; exact h
 refine b_ret rfl rfl ?_
 refine w_e ?_
 refine w_s ?_
 refine w_f 1 ?_
 refine w_1 H27 1 ?_
 have hrd28 := reads_pre H27 (k := 0) rfl (l := (setB s i.toNat).data.toList) (n := s.size) (c := cb10) (by rw [Array.length_toList]; exact setB_size s _) hbc14 (setC_reads hby13 (by rw [hs]; unfold longN; omega) hfr15.1)
 refine w_v (v := .string (setB s i.toNat)) (x_bytesR rfl rfl Try.underlying67 Try.underlying9 Try.underlying5 hrd28 (by rw [Array.length_toList]; exact setB_size s _)) ?_
 refine w_a ?_
 refine l_of (w_st #[.int .i64 0] H27 4 ?_)
 intro wq30 H31
 refine w_e ?_
 refine g_ret ?_
 refine fin_dret ?_
 refine gl_step (by simp) cl26 (caughtb_n g1 _) ?_
 rintro _ _ wq32 ⟨⟨rfl, H33⟩, rfl⟩
 replace H33 : S wq32 [Ob gb9 (.cells (setC cs12 s i.toNat) 5 fr11), Ob g18 (.cells #[.int .i64 ((m : Int)), .slice (some ⟨gb9, 0, none⟩) (s.size) (cb10)] 69 (0, 0)), Rw 69 2 q7 1 d8 [.int .i64 (m : Int), .slice (some ⟨gb9, 0, none⟩) s.size cb10], Ob g4 (.cells #[.string s] 9 (0, 0)), Ob g1 (.cells #[.int .i64 0] 28 (0, 0)), Old w no] := H31.absorb (new := []) H33
 refine (?_ : GL _ _ _ _ _ _ FrameMode.returning _)
 refine gl_ret [.tmp 8, .cell 9 28] [.string (setB s i.toNat), .int .i64 0] rfl ⟨rfl, ⟨_, rfl, run_load1 Try.underlying28 rfl (H33.cell (k := 4) rfl rfl)⟩, trivial⟩ ?_
 exact ⟨rfl, H33.mask [false, false, false, false, false, true]⟩
end Go.Proofs.Ytdkfkdekiljcoaa
