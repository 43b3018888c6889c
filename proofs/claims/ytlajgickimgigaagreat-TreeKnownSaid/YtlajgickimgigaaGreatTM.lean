import Derived.Test.YtlajgickimgigaaGreatTK
import Derived.Test.YtlajgickimgigaaGreatFc
set_option linter.unusedSimpArgs false
set_option linter.unusedVariables false
namespace Go.Proofs.YtlajgickimgigaaGreat
open Go.RowKit

theorem cl90 : callable Tryz.prog 90 = true := by kernel_rfl
theorem cl71 : callable Tryz.prog 71 = true := by kernel_rfl
theorem cl72 : callable Tryz.prog 72 = true := by kernel_rfl
theorem cl70 : callable Tryz.prog 70 = true := by kernel_rfl
theorem sz22 : szO Tryz.prog 22 = some 1 := by kernel_rfl
theorem ze22 : zeO Tryz.prog 22 = some (.slice none 0 0) := by kernel_rfl
abbrev Lx : Type := Nat × Option Addr × Nat
def encL (k : Nat) (l : List ByteArray) (x : Lx) : Array Value := #[.int .i64 ((k + x.1 : Nat) : Int), .slice x.2.1 (lvlS k l x.1).length x.2.2]
def ReadsAt (I : World → Prop) (p : Option Addr) (n c : Nat) (l : List ByteArray) : Prop := ∀ W, I W → Reads W p n c 1 (stV l)
def phiL (k : Nat) (l : List ByteArray) (base : Item) (pre : List Lx) (x : Lx) (I : Item) : Prop := x.1 = pre.length ∧ ∀ W, base.ok W → I.ok W → Reads W x.2.1 (lvlS k l x.1).length x.2.2 1 (stV (lvlS k l x.1))
theorem reads_old {w0 W : World} {p : Option Addr} {n c size : Nat} {xs : List Value} (h : (Old w0 no).ok W) (hr : Reads w0 p n c size xs) : Reads W p n c size xs :=
  (show S W [Old w0 no] from ⟨by intro it hit; rw [List.mem_singleton] at hit; subst hit; exact ⟨h, fun g hg => Nat.lt_of_lt_of_le hg.1 (show Same _ w0 W from h).size⟩, List.pairwise_singleton _ _⟩).oldReads (k := 0) rfl hr
theorem rw_lt {e size n c : Nat} {p : Option Addr} {xs : List Value} {W : World} (h : (Rw e size p n c xs).ok W) : ∀ g, (Rw e size p n c xs).fp g → g < W.heap.size := fun g hg => by
  obtain ⟨o, ho⟩ := hg
  obtain ⟨_, _, _, h4⟩ := h
  rcases h4 with ⟨h4, _⟩ | ⟨g', o', cur, e1, e2, _⟩
  · rw [ho] at h4; cases h4
  · rw [ho] at e1; cases e1
    exact (Array.getElem?_eq_some_iff.1 e2).1
theorem reads_rw {e size n c : Nat} {p : Option Addr} {xs : List Value} {W : World} (h : (Rw e size p n c xs).ok W) : Reads W p n c size xs :=
  S.rwReads (w := W) (L := [Rw e size p n c xs]) (k := 0) ⟨by intro it hit; rw [List.mem_singleton] at hit; subst hit; exact ⟨h, rw_lt h⟩, List.pairwise_singleton _ _⟩ rfl
theorem S.big2 {w : World} {A B L : List Item} (h : S w (A ++ (B ++ L))) : S w (Big A :: Big B :: L) := by
  have h1 : S w (B ++ Big A :: L) := h.big.perm List.perm_middle.symm
  exact h1.big.perm (List.Perm.swap ..)
set_option maxRecDepth 20000 in
set_option maxHeartbeats 4000000 in
set_option maxRecDepth 20000 in
set_option maxHeartbeats 4000000 in
theorem levels_it {n0 M k : Nat} {l : List ByteArray} {p : Option Addr} {b1 b2 b3 n c : Nat} {w0 : World} (h1n : 1 ≤ n0) (hR : k + M ≤ 900) (hn : n = l.length) (hr : Reads w0 p n c 1 (stV l)) (hsz : ∀ s ∈ l, s.size ≤ 65536) (hm : n ≤ 1099511627) :
    IterS n0 Tryz.prog 69 #[.pointer (some ⟨b1, 0, none⟩), .pointer (some ⟨b2, 0, none⟩), .pointer (some ⟨b3, 0, none⟩)] (encL k l) (Old w0 no) (phiL k l (Old w0 no)) (fun pre => pre.length ≤ M) (fun _ => False) (fun _ => True) (Big [Ob b3 (.cells #[.func (.func 28) #[] #[]] 61 (0, 0)), Ob b2 (.cells #[.slice p n c] 22 (0, 0)), Ob b1 (.cells #[.int .i64 ((k : Nat) : Int)] 3 (0, 0))]) := by
  subst hn
  intro l0 J Jx W C hOk hY h0 HS
  have H00 := HS.open1
  have H0 : S W [Marks [], Big [], Old w0 no, Ob b3 (.cells #[.func (.func 28) #[] #[]] 61 (0, 0)), Ob b2 (.cells #[.slice p l.length c] 22 (0, 0)), Ob b1 (.cells #[.int .i64 ((k : Nat) : Int)] 3 (0, 0)), C] := (S.nilBig H00).nilMarks
  replace H0 := H0.takes [2, 0, 3, 4, 5, 1, 6] (by decide)
  refine enter_cm 40 Tryz.func69 rfl rfl rfl ?_
  have hL : ¬ LetsOut (bodyPostM (WF none) n0 Tryz.prog Tryz.f69 fun e W' => (∃ v, e = .returned v) ∧ ((∃ xs C, False ∧ J xs C ∧ S W' [Old w0 no, C]) ∨ (∃ pre C, True ∧ Jx pre C ∧ S W' [Old w0 no, C]))) := by
    rintro ⟨_, _, ⟨_, h⟩, _⟩
    cases h
  replace H0 : S W [Old w0 no, Marks [], Ob b3 (.cells #[.func (.func 28) #[] #[]] 61 (0, 0)), Ob b2 (.cells #[.slice p l.length c] 22 (0, 0)), Ob b1 (.cells #[.int .i64 (((k : Nat) : Int))] 3 (0, 0)), Big [], C] := H0
  refine g_weak [(0, .func (.yield l0) #[] #[]), (1, .pointer (some ⟨b1, 0, none⟩)), (2, .pointer (some ⟨b2, 0, none⟩)), (3, .pointer (some ⟨b3, 0, none⟩))] ⟨rfl, rfl, rfl, rfl, trivial⟩ ?_
  refine R.g_seq ?_
  refine R.g_region ?_
  refine R.l_of rfl (fun h => hL h) (s_val (v := .int .i64 (((k : Nat) : Int))) (wt0 rfl) rfl rfl (x_load1 H0 4 rfl rfl Tryz.underlying3 rfl rfl rfl) ?_)
  refine R.l_of rfl (fun h => hL h) (s_val (v := .int .i64 (((k : Nat) : Int))) (wt0 rfl) rfl rfl (x_assign rfl rfl) ?_)
  refine R.g_nil ?_
  refine g_then ?_
  refine R.g_block ?_
  refine g_loopD (ι := Nat × List Lx × Option Addr × Nat × Item × Item × List Nat) (fun (j, pre, p1, c1, X, C1, Ds) => [(0, .func (.yield l0) #[] #[]), (2, .pointer (some ⟨b2, 0, none⟩)), (3, .pointer (some ⟨b3, 0, none⟩)), (5, .int .i64 (((k + j : Nat) : Int)))]) (fun (j, pre, p1, c1, X, C1, Ds) => Ds.map mark) (fun (j, pre, p1, c1, X, C1, Ds) wx => (j ≤ M) ∧ (J pre C1) ∧ (pre.length = j) ∧ (∀ W, (Old w0 no).ok W → X.ok W → Reads W p1 (lvlS k l j).length c1 1 (stV (lvlS k l j))) ∧ S wx [Old w0 no, Marks Ds, Ob b3 (.cells #[.func (.func 28) #[] #[]] 61 (0, 0)), Ob b2 (.cells #[.slice p1 (lvlS k l j).length c1] 22 (0, 0)), Ob b1 (.cells #[.int .i64 (((k : Nat) : Int))] 3 (0, 0)), X, C1]) (fun (j, pre, p1, c1, X, C1, Ds) => M - j) (0, [], p, c, Big [], C, []) ⟨rfl, rfl, rfl, rfl, trivial⟩ rfl ⟨Nat.zero_le _, h0, rfl, (fun W hW _ => reads_old hW hr), H0⟩ ?_
  rintro ⟨j, pre, p1, c1, X, C1, Ds⟩ wq1 ⟨hj, hJ, hpl, hX, H2⟩
  replace H2 : S wq1 [Old w0 no, Marks Ds, Ob b3 (.cells #[.func (.func 28) #[] #[]] 61 (0, 0)), Ob b2 (.cells #[.slice p1 (lvlS k l j).length c1] 22 (0, 0)), Ob b1 (.cells #[.int .i64 (((k : Nat) : Int))] 3 (0, 0)), X, C1] := H2
  refine g_weak [(0, .func (.yield l0) #[] #[]), (2, .pointer (some ⟨b2, 0, none⟩)), (3, .pointer (some ⟨b3, 0, none⟩)), (5, .int .i64 (((k + j : Nat) : Int)))] ⟨rfl, rfl, rfl, rfl, trivial⟩ ?_
  obtain ⟨q, hq⟩ := padL_even (k + j) (lvlS k l j)
  have hpz : ∀ s ∈ (padL (k + j) (lvlS k l j)), s.size ≤ 65536 := padL_size (by omega) (lvlS_size (by omega) hsz j)
  have hle := lvlS_le k l j
  have hple := padL_le (k + j) (lvlS k l j)
  refine R.g_seq ?_
  refine R.g_seq ?_
  refine R.g_region ?_
  refine R.l_of rfl (fun h => hL h) (s_val (v := .func (.yield l0) #[] #[]) (wt0 rfl) rfl rfl (x_move rfl rfl) ?_)
  refine R.l_of rfl (fun h => hL h) (s_val (v := .int .i64 (((k + j : Nat) : Int))) (wt0 rfl) rfl rfl (x_move rfl rfl) ?_)
  refine R.l_of rfl (fun h => hL h) (s_val (v := .slice p1 (lvlS k l j).length c1) (wt0 rfl) rfl rfl (x_load1 H2 3 rfl rfl Tryz.underlying22 rfl rfl rfl) ?_)
  refine l_yield (wt0 rfl) rfl rfl rfl rfl rfl (hY pre (j, p1, c1) wq1 _ C1 hJ ⟨hpl.symm, fun W hW hI => hX W hW (S.at (L := [Marks Ds, _, _, _, X]) hI (k := 4) rfl)⟩ (S.close1 (L := [_, _, _, _, _]) H2)) ?_
  rintro _ wq3 (⟨rfl, C2, hJ2, hS2⟩ | ⟨rfl, C2, hJx, hS2⟩)
  · skip
    refine ⟨_, rfl, ?_⟩
    have H4 : S wq3 [Old w0 no, Marks Ds, Ob b3 (.cells #[.func (.func 28) #[] #[]] 61 (0, 0)), Ob b2 (.cells #[.slice p1 (lvlS k l j).length c1] 22 (0, 0)), Ob b1 (.cells #[.int .i64 (((k : Nat) : Int))] 3 (0, 0)), X, C2] := hS2.open1
    have hj2 : (pre ++ [(j, p1, c1)]).length ≤ M := hOk _ _ hJ2
    rw [List.length_append, List.length_singleton, hpl] at hj2
    have hrc := (hX _ (H4.at (k := 0) rfl) (H4.at (k := 5) rfl)).2.1
    refine R.g_nil ?_
    refine g_then ?_
    refine R.g_cond_t rfl rfl ?_
    refine R.g_skip ?_
    refine g_then ?_
    refine R.g_seq ?_
    refine R.g_block ?_
    refine R.g_seq ?_
    refine R.g_cut (ι := Option Addr × Nat × Item) (fun (p2, c2, X2) => [(0, .func (.yield l0) #[] #[]), (2, .pointer (some ⟨b2, 0, none⟩)), (3, .pointer (some ⟨b3, 0, none⟩)), (5, .int .i64 (((k + j : Nat) : Int)))]) (fun (p2, c2, X2) wx => ((padL (k + j) (lvlS k l j)).length ≤ c2) ∧ (∀ W, (Old w0 no).ok W → X2.ok W → Reads W p2 (padL (k + j) (lvlS k l j)).length c2 1 (stV (padL (k + j) (lvlS k l j)))) ∧ S wx [Old w0 no, Marks Ds, Ob b3 (.cells #[.func (.func 28) #[] #[]] 61 (0, 0)), Ob b2 (.cells #[.slice p2 (padL (k + j) (lvlS k l j)).length c2] 22 (0, 0)), Ob b1 (.cells #[.int .i64 (((k : Nat) : Int))] 3 (0, 0)), X2, C2]) ?_ ?_
    · skip
      refine R.g_seq ?_
      refine R.g_region ?_
      refine R.l_of rfl (fun h => hL h) (s_val (v := .slice p1 (lvlS k l j).length c1) (wt0 rfl) rfl rfl (x_load1 H4 3 rfl rfl Tryz.underlying22 rfl rfl rfl) ?_)
      refine R.l_of rfl (fun h => hL h) (s_val (v := .int .i64 (((lvlS k l j).length : Int))) (wt0 rfl) rfl rfl (x_lenl rfl rfl Tryz.underlying22) ?_)
      refine R.l_of rfl (fun h => hL h) (s_val (v := .int .i64 ((((lvlS k l j).length % 2 : Nat) : Int))) (wt0 rfl) rfl rfl (x_bin rfl rfl rfl (b_remN (a := (lvlS k l j).length) (b := 2) (by omega))) ?_)
      refine R.l_of rfl (fun h => hL h) (s_val (v := .bool (decide (((((lvlS k l j).length % 2 : Nat) : Int) : Int) = 1))) (wt0 rfl) rfl rfl (x_bin rfl rfl rfl b_eql) ?_)
      refine R.g_nil ?_
      refine g_then ?_
      by_cases hb5 : ((((lvlS k l j).length % 2 : Nat) : Int) : Int) = 1
      · skip
        refine R.g_cond_t rfl (decide_eq_true hb5) ?_
        refine R.g_region ?_
        refine R.l_of rfl (fun h => hL h) (s_val (v := .slice p1 (lvlS k l j).length c1) (wt0 rfl) rfl rfl (x_load1 H4 3 rfl rfl Tryz.underlying22 rfl rfl rfl) ?_)
        refine R.l_of rfl (fun h => hL h) (s_call (wt0 rfl) (x_call' rfl rfl cl70) (clip_s _ _ _ hrc _) ?_)
        rintro _ wq6 ⟨rfl, H7⟩
        replace H7 : S wq6 [Old w0 no, Marks Ds, Ob b3 (.cells #[.func (.func 28) #[] #[]] 61 (0, 0)), Ob b2 (.cells #[.slice p1 (lvlS k l j).length c1] 22 (0, 0)), Ob b1 (.cells #[.int .i64 (((k : Nat) : Int))] 3 (0, 0)), X, C2] := H4.absorb (new := []) H7
        refine b_ret rfl rfl ?_
        refine R.l_of rfl (fun h => hL h) (s_val (v := .int .i64 (((k + j : Nat) : Int))) (wt0 rfl) rfl rfl (x_move rfl rfl) ?_)
        refine R.l_of rfl (fun h => hL h) (s_call (wt0 rfl) (x_call' rfl rfl cl71) (zero_s _ (by omega) _) ?_)
        rintro _ wq8 ⟨rfl, H9⟩
        replace H9 : S wq8 [Old w0 no, Marks Ds, Ob b3 (.cells #[.func (.func 28) #[] #[]] 61 (0, 0)), Ob b2 (.cells #[.slice p1 (lvlS k l j).length c1] 22 (0, 0)), Ob b1 (.cells #[.int .i64 (((k : Nat) : Int))] 3 (0, 0)), X, C2] := H7.absorb (new := []) H9
        refine b_ret rfl rfl ?_
        refine R.l_of rfl (fun h => hL h) (s_buildSlice H9 (wt0 rfl) rfl rfl rfl (vs := [.string ((zeroS (k + j)))]) rfl Tryz.underlying22 sz9 ze9 rfl rfl (cells := #[.string ((zeroS (k + j)))]) (by kernel_rfl) ?_)
        intro g10 wq11 H12
        refine R.l_of rfl (fun h => hL h) (s_appendFull (n := (lvlS k l j).length) (m := 1) (xs := stV (lvlS k l j)) (news := [.string (zeroS (k + j))]) H12 (wt0 rfl) rfl rfl rfl rfl rfl (reads_clip (hX _ (H12.at (k := 1) rfl) (H12.at (k := 6) rfl)) (by omega)) (by omega) Tryz.underlying22 inf9 rfl (by decide) (by decide) ⟨rfl, Nat.le_refl _, fun _ => ⟨_, rfl, news_ob H12 (j0 := 0) rfl⟩⟩ (by omega) rfl (by omega) ?_)
        intro p13 c14 wq15 H16
        replace H16 : S wq15 [Rw 9 1 p13 ((lvlS k l j).length + 1) c14 (stV (lvlS k l j) ++ [.string (zeroS (k + j))]), Ob g10 (.cells #[.string ((zeroS (k + j)))] 9 (0, 0)), Old w0 no, Marks Ds, Ob b3 (.cells #[.func (.func 28) #[] #[]] 61 (0, 0)), Ob b2 (.cells #[.slice p1 (lvlS k l j).length c1] 22 (0, 0)), Ob b1 (.cells #[.int .i64 (((k : Nat) : Int))] 3 (0, 0)), X, C2] := H16
        refine R.l_of rfl (fun h => hL h) (s_store H16 5 (wt0 rfl) rfl rfl rfl rfl rfl sz22 rfl rfl (cs' := #[.slice p13 ((lvlS k l j).length + 1) c14]) rfl ?_)
        intro wq17 H18
        refine R.g_nil ?_
        refine g_then ?_
        have hpe : (padL (k + j) (lvlS k l j)) = (lvlS k l j) ++ [zeroS (k + j)] := if_pos (by omega)
        have H19 : S wq17 [Old w0 no, Marks Ds, Ob b3 (.cells #[.func (.func 28) #[] #[]] 61 (0, 0)), Ob b2 (.cells #[.slice p13 (padL (k + j) (lvlS k l j)).length c14] 22 (0, 0)), Ob b1 (.cells #[.int .i64 (((k : Nat) : Int))] 3 (0, 0)), (Rw 9 1 p13 (padL (k + j) (lvlS k l j)).length c14 (stV (padL (k + j) (lvlS k l j)))), C2] := by rw [hpe, stV_snoc, List.length_append, List.length_singleton]; exact H18.takes [2, 3, 4, 5, 6, 0, 8] (by decide)
        have hrw := (H19.rw (k := 5) rfl).2.1
        refine g_mid (p13, c14, (Rw 9 1 p13 (padL (k + j) (lvlS k l j)).length c14 (stV (padL (k + j) (lvlS k l j))))) ?_ ?_
        · exact ⟨rfl, rfl, rfl, rfl, trivial⟩
        · exact ⟨hrw, (fun W _ hI => reads_rw hI), H19⟩
      · skip
        refine R.g_cond_f rfl (decide_eq_false hb5) ?_
        refine R.g_skip ?_
        refine g_then ?_
        have hpe : (padL (k + j) (lvlS k l j)) = (lvlS k l j) := if_neg (by omega)
        have H20 : S wq3 [Old w0 no, Marks Ds, Ob b3 (.cells #[.func (.func 28) #[] #[]] 61 (0, 0)), Ob b2 (.cells #[.slice p1 (padL (k + j) (lvlS k l j)).length c1] 22 (0, 0)), Ob b1 (.cells #[.int .i64 (((k : Nat) : Int))] 3 (0, 0)), X, C2] := by rw [hpe]; exact H4
        refine g_mid (p1, c1, X) ?_ ?_
        · exact ⟨rfl, rfl, rfl, rfl, trivial⟩
        · exact ⟨(by rw [hpe]; exact hrc), (by rw [hpe]; exact hX), H20⟩
    rintro ⟨p2, c2, X2⟩ wq21 ⟨hc2, hX2, H22⟩
    replace H22 : S wq21 [Old w0 no, Marks Ds, Ob b3 (.cells #[.func (.func 28) #[] #[]] 61 (0, 0)), Ob b2 (.cells #[.slice p2 (padL (k + j) (lvlS k l j)).length c2] 22 (0, 0)), Ob b1 (.cells #[.int .i64 (((k : Nat) : Int))] 3 (0, 0)), X2, C2] := H22
    refine g_weak [(0, .func (.yield l0) #[] #[]), (2, .pointer (some ⟨b2, 0, none⟩)), (3, .pointer (some ⟨b3, 0, none⟩)), (5, .int .i64 (((k + j : Nat) : Int)))] ⟨rfl, rfl, rfl, rfl, trivial⟩ ?_
    refine R.g_seq ?_
    refine R.g_region ?_
    refine R.l_of rfl (fun h => hL h) (s_alloc H22 (wt0 rfl) rfl rfl rfl ze22 ?_)
    intro g23 wq24 H25
    refine R.g_nil ?_
    refine g_then ?_
    refine R.g_seq ?_
    refine R.g_seq ?_
    refine R.g_region ?_
    refine R.l_of rfl (fun h => hL h) (s_val (v := .slice p2 (padL (k + j) (lvlS k l j)).length c2) (wt0 rfl) rfl rfl (x_load1 H25 4 rfl rfl Tryz.underlying22 rfl rfl rfl) ?_)
    refine R.l_of rfl (fun h => hL h) (s_call (wt0 rfl) (x_call' rfl rfl cl72) (chunk_s _ _ _ _) ?_)
    rintro _ wq28 ⟨g26, g27, rfl, H29⟩
    replace H29 : S wq28 [Ob g27 (.cells #[.int .i64 2] 3 (0, 0)), Ob g26 (.cells #[.slice p2 (padL (k + j) (lvlS k l j)).length c2] 22 (0, 0)), Ob g23 (.cells #[.slice none 0 0] 22 (0, 0)), Old w0 no, Marks Ds, Ob b3 (.cells #[.func (.func 28) #[] #[]] 61 (0, 0)), Ob b2 (.cells #[.slice p2 (padL (k + j) (lvlS k l j)).length c2] 22 (0, 0)), Ob b1 (.cells #[.int .i64 (((k : Nat) : Int))] 3 (0, 0)), X2, C2] := H25.absorb (new := [Ob g27 (.cells #[.int .i64 2] 3 (0, 0)), Ob g26 (.cells #[.slice p2 (padL (k + j) (lvlS k l j)).length c2] 22 (0, 0))]) H29
    refine b_ret rfl rfl ?_
    refine R.g_nil ?_
    refine g_then ?_
    refine R.g_block ?_
    have hX2b : ReadsAt (Big [Old w0 no, X2]).ok p2 (padL (k + j) (lvlS k l j)).length c2 (padL (k + j) (lvlS k l j)) := fun W h => hX2 W (S.at h (k := 0) rfl) (S.at h (k := 1) rfl)
    have H30 : S wq28 [Rw 9 1 none 0 0 (stV []), Ob g27 (.cells #[.int .i64 2] 3 (0, 0)), Ob g26 (.cells #[.slice p2 (padL (k + j) (lvlS k l j)).length c2] 22 (0, 0)), Ob g23 (.cells #[.slice none 0 0] 22 (0, 0)), Old w0 no, Marks Ds, Ob b3 (.cells #[.func (.func 28) #[] #[]] 61 (0, 0)), Ob b2 (.cells #[.slice p2 (padL (k + j) (lvlS k l j)).length c2] 22 (0, 0)), Ob b1 (.cells #[.int .i64 (((k : Nat) : Int))] 3 (0, 0)), X2, C2] := H29.nilRw 9 1
    have H31 := S.big2 (A := [_, _]) (B := [_, _]) (H30.takes [4, 9, 1, 2, 5, 6, 7, 8, 10, 3, 0] (by decide))
    refine g_rangeS (α := Nat) (encs := encP p2) (base := Big [Old w0 no, X2]) (by omega) rfl cl90 (chunk_it (n := (padL (k + j) (lvlS k l j)).length) hq hc2 (by omega)) (fun _ => rfl) rfl (fun pre Lx => ∃ q1 d, Lx = [Marks Ds, Ob b3 (.cells #[.func (.func 28) #[] #[]] 61 (0, 0)), Ob b2 (.cells #[.slice p2 (padL (k + j) (lvlS k l j)).length c2] 22 (0, 0)), Ob b1 (.cells #[.int .i64 (((k : Nat) : Int))] 3 (0, 0)), C2, Ob g23 (.cells #[.slice q1 pre.length d] 22 (0, 0)), Rw 9 1 q1 pre.length d (stV (upTo (padL (k + j) (lvlS k l j)) pre.length))]) (fun _ _ => False) (fun x => [(3, .pointer (some ⟨b3, 0, none⟩)), (6, .pointer (some ⟨g23, 0, none⟩)), (7, .slice (p2.map fun q => q.add (2 * x * 1)) 2 2)]) (fun _ _ _ => trivial) ⟨none, 0, rfl⟩ H31 ?_ ?_ ?_ (fun _ _ _ _ _ h => h.elim)
    · rintro l1 x Ly W32 H33
      have hL : ¬ LetsOut (fun (_ : Exit) (_ : Act) (_ : World) => False) := fun ⟨_, _, h⟩ => h
      refine g_weak [(3, .pointer (some ⟨b3, 0, none⟩)), (6, .pointer (some ⟨g23, 0, none⟩)), (27, .slice (p2.map fun q => q.add (2 * x * 1)) 2 2)] ⟨rfl, rfl, rfl, trivial⟩ ?_
      refine R.g_region ?_
      refine R.l_of rfl (fun h => hL h) (s_val (v := .slice (p2.map fun q => q.add (2 * x * 1)) 2 2) (wt0 rfl) rfl rfl (x_assign rfl rfl) ?_)
      refine R.g_nil ?_
      refine g_then ?_
      exact rs_assign ⟨rfl, rfl, rfl, trivial⟩ H33
    · rintro l1 pr x I Kx _ W34 ⟨q1, d, rfl⟩ ⟨rfl, hxq⟩ H35
      replace H35 : S W34 [Big [Old w0 no, X2], I, Kx, Marks Ds, Ob b3 (.cells #[.func (.func 28) #[] #[]] 61 (0, 0)), Ob b2 (.cells #[.slice p2 (padL (k + j) (lvlS k l j)).length c2] 22 (0, 0)), Ob b1 (.cells #[.int .i64 (((k : Nat) : Int))] 3 (0, 0)), C2, Ob g23 (.cells #[.slice q1 pr.length d] 22 (0, 0)), Rw 9 1 q1 pr.length d (stV (upTo (padL (k + j) (lvlS k l j)) pr.length))] := H35
      have hs0 : ((padL (k + j) (lvlS k l j)).getD (2 * pr.length) ⟨#[]⟩).size ≤ 65536 := getD_size hpz (by omega)
      have hs1 : ((padL (k + j) (lvlS k l j)).getD (2 * pr.length + 1) ⟨#[]⟩).size ≤ 65536 := getD_size hpz (by omega)
      have hsm : ∃ a, (p2.map fun q => q.add (2 * pr.length * 1)) = some a := ((reads_two (i := pr.length) (hX2b _ (H35.at (k := 0) rfl)) (by omega)).2.2 (by omega)).imp fun _ h => h.1
      refine g_weak [(3, .pointer (some ⟨b3, 0, none⟩)), (6, .pointer (some ⟨g23, 0, none⟩)), (7, .slice (p2.map fun q => q.add (2 * pr.length * 1)) 2 2)] ⟨rfl, rfl, rfl, trivial⟩ ?_
      refine R.g_block ?_
      refine R.g_anyY [] (fun wx => S wx [Big [Old w0 no, X2], Ob b3 (.cells #[.func (.func 28) #[] #[]] 61 (0, 0)), Ob g23 (.cells #[.slice q1 pr.length d] 22 (0, 0))]) (fun wx => S wx [Big [Old w0 no, X2], Ob b3 (.cells #[.func (.func 28) #[] #[]] 61 (0, 0))]) [11] (by kernel_rfl) (by kernel_rfl) (fun ⟨_, _, h⟩ => h) H35 (fun wq36 H37 => ?_)
      refine y_take (v := .slice q1 pr.length d) 0 rfl (wt0 rfl) rfl rfl rfl (by kernel_rfl) (by kernel_rfl) (by kernel_rfl) (by kernel_rfl) (by kernel_rfl) (H37.mask [true, false, false, false, true, false, false, false, true, false]) (fun wx H => x_load1 H 2 rfl rfl Tryz.underlying22 rfl rfl rfl) ?_
      refine y_take (v := .func (.func 28) #[] #[]) 1 rfl (wt0 rfl) rfl rfl rfl (by kernel_rfl) (by kernel_rfl) (by kernel_rfl) (by kernel_rfl) (by kernel_rfl) (H37.mask [true, false, false, false, true, false, false, false, true, false]) (fun wx H => x_load1 H 1 rfl rfl Tryz.underlying61 rfl rfl rfl) ?_
      refine y_pure (v := .slice (p2.map fun q => q.add (2 * pr.length * 1)) 2 2) 2 rfl (wt0 rfl) rfl rfl rfl (by kernel_rfl) (by kernel_rfl) (by kernel_rfl) (by kernel_rfl) (fun wx => x_move rfl rfl) ?_
      refine y_pure (v := .pointer (((p2.map fun q => q.add (2 * pr.length * 1))).map fun q => q.add (0 * 1))) 3 rfl (wt0 rfl) rfl rfl rfl (by kernel_rfl) (by kernel_rfl) (by kernel_rfl) (by kernel_rfl) (fun wx => x_idxP 0 (hsm) rfl rfl rfl Tryz.underlying22 sz9 (by omega)) ?_
      refine y_take (v := .string (((padL (k + j) (lvlS k l j)).getD (2 * pr.length) ⟨#[]⟩))) 4 rfl (wt0 rfl) rfl rfl rfl (by kernel_rfl) (by kernel_rfl) (by kernel_rfl) (by kernel_rfl) (by kernel_rfl) (H37.mask [true, false, false, false, true, false, false, false, true, false]) (fun wx H => x_loadR1 0 (reads_two (hX2b _ (H.at (k := 0) rfl)) (by omega)) (by omega) rfl rfl Tryz.underlying9 rfl (rfl)) ?_
      refine y_pure (v := .slice (p2.map fun q => q.add (2 * pr.length * 1)) 2 2) 5 rfl (wt0 rfl) rfl rfl rfl (by kernel_rfl) (by kernel_rfl) (by kernel_rfl) (by kernel_rfl) (fun wx => x_move rfl rfl) ?_
      refine y_pure (v := .pointer (((p2.map fun q => q.add (2 * pr.length * 1))).map fun q => q.add (1 * 1))) 6 rfl (wt0 rfl) rfl rfl rfl (by kernel_rfl) (by kernel_rfl) (by kernel_rfl) (by kernel_rfl) (fun wx => x_idxP 1 (hsm) rfl rfl rfl Tryz.underlying22 sz9 (by omega)) ?_
      refine y_take (v := .string (((padL (k + j) (lvlS k l j)).getD (2 * pr.length + 1) ⟨#[]⟩))) 7 rfl (wt0 rfl) rfl rfl rfl (by kernel_rfl) (by kernel_rfl) (by kernel_rfl) (by kernel_rfl) (by kernel_rfl) (H37.mask [true, false, false, false, true, false, false, false, true, false]) (fun wx H => x_loadR1 1 (reads_two (hX2b _ (H.at (k := 0) rfl)) (by omega)) (by omega) rfl rfl Tryz.underlying9 rfl (rfl)) ?_
      refine y_one (i := 8) (by kernel_rfl) rfl ?_
      refine s_call (wt0 rfl) (x_call rfl rfl rfl cl28) (pair_h _ _ (by omega) _) ?_
      rintro _ wq38 ⟨rfl, H39⟩
      replace H39 : S wq38 [Big [Old w0 no, X2], I, Kx, Marks Ds, Ob b3 (.cells #[.func (.func 28) #[] #[]] 61 (0, 0)), Ob b2 (.cells #[.slice p2 (padL (k + j) (lvlS k l j)).length c2] 22 (0, 0)), Ob b1 (.cells #[.int .i64 (((k : Nat) : Int))] 3 (0, 0)), C2, Ob g23 (.cells #[.slice q1 pr.length d] 22 (0, 0)), Rw 9 1 q1 pr.length d (stV (upTo (padL (k + j) (lvlS k l j)) pr.length))] := H37.absorb (new := []) H39
      refine b_ret rfl rfl ?_
      refine y_k (H39.mask [true, false, false, false, true, false, false, false, true, false]) (H39.mask [true, false, false, false, true, false, false, false, false, false]) ?_
      refine y_one (i := 9) (by kernel_rfl) rfl ?_
      refine s_buildSlice H39 (wt0 rfl) rfl rfl rfl (vs := [.string ((pairS ((padL (k + j) (lvlS k l j)).getD (2 * pr.length) ⟨#[]⟩) ((padL (k + j) (lvlS k l j)).getD (2 * pr.length + 1) ⟨#[]⟩)))]) rfl Tryz.underlying22 sz9 ze9 rfl rfl (cells := #[.string ((pairS ((padL (k + j) (lvlS k l j)).getD (2 * pr.length) ⟨#[]⟩) ((padL (k + j) (lvlS k l j)).getD (2 * pr.length + 1) ⟨#[]⟩)))]) (by kernel_rfl) ?_
      intro g40 wq41 H42
      refine y_k (H42.mask [false, true, false, false, false, true, false, false, false, true, false]) (H42.mask [false, true, false, false, false, true, false, false, false, false, false]) ?_
      refine y_one (i := 10) (by kernel_rfl) rfl ?_
      refine s_appendR (n := pr.length) (m := 1) (sc := d) (xs := (stV (upTo (padL (k + j) (lvlS k l j)) pr.length))) (news := [.string ((pairS ((padL (k + j) (lvlS k l j)).getD (2 * pr.length) ⟨#[]⟩) ((padL (k + j) (lvlS k l j)).getD (2 * pr.length + 1) ⟨#[]⟩)))]) (p := q1) (ad := ⟨g40, 0, none⟩) H42 10 (wt0 rfl) rfl rfl rfl rfl rfl rfl Tryz.underlying22 inf9 rfl (by decide) (by decide) rfl (by decide) (news_ob H42 (j0 := 0) rfl) rfl (by omega) ?_
      intro p43 c44 wq45 (H46 : S wq45 [Ob g40 (.cells #[.string ((pairS ((padL (k + j) (lvlS k l j)).getD (2 * pr.length) ⟨#[]⟩) ((padL (k + j) (lvlS k l j)).getD (2 * pr.length + 1) ⟨#[]⟩)))] 9 (0, 0)), Big [Old w0 no, X2], I, Kx, Marks Ds, Ob b3 (.cells #[.func (.func 28) #[] #[]] 61 (0, 0)), Ob b2 (.cells #[.slice p2 (padL (k + j) (lvlS k l j)).length c2] 22 (0, 0)), Ob b1 (.cells #[.int .i64 (((k : Nat) : Int))] 3 (0, 0)), C2, Ob g23 (.cells #[.slice q1 pr.length d] 22 (0, 0)), Rw 9 1 p43 (pr.length + 1) c44 ((stV (upTo (padL (k + j) (lvlS k l j)) pr.length)) ++ [.string ((pairS ((padL (k + j) (lvlS k l j)).getD (2 * pr.length) ⟨#[]⟩) ((padL (k + j) (lvlS k l j)).getD (2 * pr.length + 1) ⟨#[]⟩)))])])
      refine y_k (H46.mask [false, true, false, false, false, true, false, false, false, true, false]) (H46.mask [false, true, false, false, false, true, false, false, false, false, false]) ?_
      refine y_one (i := 11) (by kernel_rfl) rfl ?_
      refine s_store H46 9 (wt0 rfl) rfl rfl rfl rfl rfl sz22 rfl rfl (cs' := #[.slice p43 (pr.length + 1) c44]) rfl ?_
      intro wq47 H48
      refine y_kt rfl (H48.mask [false, true, false, false, false, true, false, false, false, false, false]) ?_
      refine y_done (by kernel_rfl) ?_
      refine g_in ?_
      have HF := H48.takes [1, 2, 3, 4, 5, 6, 7, 8, 9, 10] (by decide)
      have e1 : (pr ++ [pr.length]).length = pr.length + 1 := by simp
      have e2 : stV (upTo (padL (k + j) (lvlS k l j)) (pr ++ [pr.length]).length) = stV (upTo (padL (k + j) (lvlS k l j)) pr.length) ++ [.string (pairS ((padL (k + j) (lvlS k l j)).getD (2 * pr.length) ⟨#[]⟩) ((padL (k + j) (lvlS k l j)).getD (2 * pr.length + 1) ⟨#[]⟩))] := by rw [e1, upTo_next, stV_snoc]
      exact rs_next ⟨p43, c44, rfl⟩ (by rw [e2, e1]; exact HF)
    · rintro D xs _ W49 rfl ⟨q1, d, rfl⟩ H50
      rw [List.length_range] at H50
      have H51 := (H50.consMark (k := 1) rfl).unbig.takes [0, 2, 3, 4, 5, 6, 7, 8] (by decide)
      replace H51 : S W49 [Old w0 no, Marks (D :: Ds), Ob b3 (.cells #[.func (.func 28) #[] #[]] 61 (0, 0)), Ob b2 (.cells #[.slice p2 (padL (k + j) (lvlS k l j)).length c2] 22 (0, 0)), Ob b1 (.cells #[.int .i64 (((k : Nat) : Int))] 3 (0, 0)), C2, Ob g23 (.cells #[.slice q1 q d] 22 (0, 0)), Rw 9 1 q1 q d (stV (upTo (padL (k + j) (lvlS k l j)) q))] := H51
      refine g_in ?_
      refine g_then ?_
      refine R.g_region ?_
      refine R.l_of rfl (fun h => hL h) (s_val (v := .slice q1 q d) (wt0 rfl) rfl rfl (x_load1 H51 6 rfl rfl Tryz.underlying22 rfl rfl rfl) ?_)
      refine R.l_of rfl (fun h => hL h) (s_store H51 3 (wt0 rfl) rfl rfl rfl rfl rfl sz22 rfl rfl (cs' := #[.slice q1 q d]) rfl ?_)
      intro wq52 H53
      refine R.g_nil ?_
      refine g_in ?_
      refine g_then ?_
      refine R.g_region ?_
      refine R.l_of rfl (fun h => hL h) (s_val (v := .int .i64 (((k + j : Nat) : Int))) (wt0 rfl) rfl rfl (x_move rfl rfl) ?_)
      refine R.l_of rfl (fun h => hL h) (s_val (v := .int .i64 (((k + (j + 1) : Nat) : Int))) (wt0 rfl) rfl rfl (x_bin rfl rfl rfl (b_addN (a := k + j) (b := 1) (by omega))) ?_)
      refine R.l_of rfl (fun h => hL h) (s_val (v := .int .i64 (((k + (j + 1) : Nat) : Int))) (wt0 rfl) rfl rfl (x_assign rfl rfl) ?_)
      refine R.g_nil ?_
      refine g_then ?_
      have hl3 : lvlS k l (j + 1) = upTo (padL (k + j) (lvlS k l j)) q := by show upS (padL (k + j) (lvlS k l j)) = _; rw [← upTo_all, hq]; congr 1; omega
      have hl4 : (lvlS k l (j + 1)).length = q := by rw [hl3, upTo_len]
      have H54 : S wq52 [Old w0 no, Marks (D :: Ds), Ob b3 (.cells #[.func (.func 28) #[] #[]] 61 (0, 0)), Ob b2 (.cells #[.slice q1 (lvlS k l (j + 1)).length d] 22 (0, 0)), Ob b1 (.cells #[.int .i64 (((k : Nat) : Int))] 3 (0, 0)), (Rw 9 1 q1 q d (stV (upTo (padL (k + j) (lvlS k l j)) q))), C2] := by rw [hl4]; exact H53.takes [0, 1, 2, 3, 4, 7, 5] (by decide)
      have hX3 : ∀ W, (Old w0 no).ok W → (Rw 9 1 q1 q d (stV (upTo (padL (k + j) (lvlS k l j)) q))).ok W → Reads W q1 (lvlS k l (j + 1)).length d 1 (stV (lvlS k l (j + 1))) := by rw [hl4, hl3]; exact fun W _ hI => reads_rw hI
      refine g_roundD (i := (j, pre, p1, c1, X, C1, Ds)) (j + 1, (pre ++ [(j, p1, c1)]), q1, d, (Rw 9 1 q1 q d (stV (upTo (padL (k + j) (lvlS k l j)) q))), C2, (D :: Ds)) ?_ rfl ?_ ?_
      · exact ⟨rfl, rfl, rfl, rfl, trivial⟩
      · exact ⟨by omega, hJ2, (by rw [List.length_append, List.length_singleton, hpl]), hX3, H54⟩
      · (try dsimp only); omega
  · skip
    refine ⟨_, rfl, ?_⟩
    have H55 : S wq3 [Old w0 no, Marks Ds, Ob b3 (.cells #[.func (.func 28) #[] #[]] 61 (0, 0)), Ob b2 (.cells #[.slice p1 (lvlS k l j).length c1] 22 (0, 0)), Ob b1 (.cells #[.int .i64 (((k : Nat) : Int))] 3 (0, 0)), X, C2] := hS2.open1
    refine R.g_nil ?_
    refine g_then ?_
    refine R.g_cond_f rfl rfl ?_
    refine R.g_exit ?_
    refine g_then_exit ?_
    refine g_then_exit ?_
    refine g_in_hit ?_
    have H56 := H55.takes [1, 0, 6] (by decide)
    exact fin_marksN (L := [Old w0 no, C2]) H56 [] [] rfl (fun W' hW => ⟨trivial, ⟨_, rfl⟩, .inr ⟨_, C2, trivial, hJx, hW⟩⟩)
end Go.Proofs.YtlajgickimgigaaGreat
namespace Go.Proofs.YtlajgickimgigaaGreat
open Go.RowKit

theorem cl33 : callable Tryz.prog 33 = true := by kernel_rfl
theorem cl68 : callable Tryz.prog 68 = true := by kernel_rfl
theorem cl69 : callable Tryz.prog 69 = true := by kernel_rfl
theorem S.big1 {w : World} {a : Item} {A L : List Item} (h : S w (a :: (A ++ L))) : S w (a :: Big A :: L) := by
  have h1 : S w (A ++ a :: L) := h.perm List.perm_middle.symm
  exact h1.big.perm (List.Perm.swap ..)
set_option maxRecDepth 20000 in
set_option maxHeartbeats 4000000 in
set_option maxRecDepth 20000 in
set_option maxHeartbeats 4000000 in
theorem layer_s (k r : Nat) (l : List ByteArray) (p : Option Addr) (n c : Nat) (hn : n = l.length) (hm : n ≤ 1099511627) (hk : k + r ≤ 900) (hsz : ∀ s ∈ l, s.size ≤ 65536) (h1 : 0 < (lvlS k l r).length) (w : World) (hr : Reads w p n c 1 (stV l)) :
    Calls Tryz.prog 32 #[.int .i64 (k : Int), .int .i64 ((k + r : Nat) : Int), .slice p n c] w fun e w' => ∃ p' c', e = .returned (.slice p' (lvlS k l r).length c') ∧ S w' ([Rw 9 1 p' (lvlS k l r).length c' (stV (lvlS k l r))] ++ [Old w no]) := by
  have H0 := S.old w
  have hle := lvlS_le k l r
  refine enter_m 19 Tryz.func32 rfl rfl rfl ?_
  have hL : ¬ LetsOut (bodyPostM (WF none) 9 Tryz.prog Tryz.f32 fun e w' => ∃ p' c', e = .returned (.slice p' (lvlS k l r).length c') ∧ S w' ([Rw 9 1 p' (lvlS k l r).length c' (stV (lvlS k l r))] ++ [Old w no])) := by
    rintro ⟨_, _, ⟨_, _, h, _⟩⟩
    cases h
  refine g_weak [(0, .int .i64 ((k : Int))), (1, .int .i64 (((k + r : Nat) : Int))), (2, .slice p n c)] ⟨rfl, rfl, rfl, trivial⟩ ?_
  refine R.g_seq ?_
  refine R.g_region ?_
  refine R.l_of rfl (fun h => hL h) (s_box H0 (wt0 rfl) rfl rfl rfl rfl ?_)
  intro g1 wq2 H3
  refine R.l_of rfl (fun h => hL h) (s_alloc H3 (wt0 rfl) rfl rfl rfl ze22 ?_)
  intro g4 wq5 H6
  refine R.g_nil ?_
  refine g_then ?_
  refine R.g_seq ?_
  refine R.g_seq ?_
  refine R.g_region ?_
  refine R.l_of rfl (fun h => hL h) (s_val (v := .int .i64 ((k : Int))) (wt0 rfl) rfl rfl (x_move rfl rfl) ?_)
  refine R.l_of rfl (fun h => hL h) (s_val (v := .slice p n c) (wt0 rfl) rfl rfl (x_move rfl rfl) ?_)
  refine R.l_of rfl (fun h => hL h) (s_call (wt0 rfl) (x_call' rfl rfl cl33) (levels_s _ _ _ _ _) ?_)
  rintro _ wq10 ⟨b7, b8, b9, rfl, H11⟩
  replace H11 : S wq10 [Ob b9 (.cells #[.func (.func 28) #[] #[]] 61 (0, 0)), Ob b8 (.cells #[.slice p n c] 22 (0, 0)), Ob b7 (.cells #[.int .i64 ((k : Int))] 3 (0, 0)), Ob g4 (.cells #[.slice none 0 0] 22 (0, 0)), Ob g1 (.cells #[.int .i64 (((k + r : Nat) : Int))] 3 (0, 0)), Old w no] := H6.absorb (new := [Ob b9 (.cells #[.func (.func 28) #[] #[]] 61 (0, 0)), Ob b8 (.cells #[.slice p n c] 22 (0, 0)), Ob b7 (.cells #[.int .i64 ((k : Int))] 3 (0, 0))]) H11
  refine b_ret rfl rfl ?_
  refine R.g_nil ?_
  refine g_then ?_
  refine R.g_block ?_
  have H12 : S wq10 (Old w no :: Big [_, _, _] :: [Ob g4 (.cells #[.slice none 0 0] 22 (0, 0)), Ob g1 (.cells #[.int .i64 (((k + r : Nat) : Int))] 3 (0, 0))]) := S.big1 (A := [_, _, _]) (H11.takes [5, 0, 1, 2, 3, 4] (by decide))
  refine g_rangeS (α := Lx) (encs := encL k l) (base := Old w no) (by omega) rfl cl69 (levels_it (M := r) (by omega) (by omega) hn hr hsz hm) (fun _ => rfl) rfl (fun pre Lx => pre.length ≤ r ∧ Lx = [Ob g4 (.cells #[.slice none 0 0] 22 (0, 0)), Ob g1 (.cells #[.int .i64 (((k + r : Nat) : Int))] 3 (0, 0))]) (fun _ Lx => ∃ p' c', Lx = [Rw 9 1 p' (lvlS k l r).length c' (stV (lvlS k l r)), Ob g4 (.cells #[.slice p' (lvlS k l r).length c'] 22 (0, 0)), Ob g1 (.cells #[.int .i64 (((k + r : Nat) : Int))] 3 (0, 0))]) (fun x => [(4, .pointer (some ⟨g1, 0, none⟩)), (6, .pointer (some ⟨g4, 0, none⟩)), (7, .int .i64 (((k + x.1 : Nat) : Int))), (8, .slice x.2.1 (lvlS k l x.1).length x.2.2)]) (fun _ _ h => h.1) ⟨Nat.zero_le _, rfl⟩ H12 ?_ ?_ (fun _ _ _ _ h => h.elim) ?_
  · rintro l1 x Ly W13 H14
    have hL : ¬ LetsOut (fun (_ : Exit) (_ : Act) (_ : World) => False) := fun ⟨_, _, h⟩ => h
    refine g_weak [(4, .pointer (some ⟨g1, 0, none⟩)), (6, .pointer (some ⟨g4, 0, none⟩)), (12, .int .i64 (((k + x.1 : Nat) : Int))), (13, .slice x.2.1 (lvlS k l x.1).length x.2.2)] ⟨rfl, rfl, rfl, rfl, trivial⟩ ?_
    refine R.g_seq ?_
    refine R.g_region ?_
    refine R.l_of rfl (fun h => hL h) (s_val (v := .int .i64 (((k + x.1 : Nat) : Int))) (wt0 rfl) rfl rfl (x_assign rfl rfl) ?_)
    refine R.g_nil ?_
    refine g_then ?_
    refine R.g_region ?_
    refine R.l_of rfl (fun h => hL h) (s_val (v := .slice x.2.1 (lvlS k l x.1).length x.2.2) (wt0 rfl) rfl rfl (x_assign rfl rfl) ?_)
    refine R.g_nil ?_
    refine g_then ?_
    exact rs_assign ⟨rfl, rfl, rfl, rfl, trivial⟩ H14
  · rintro l1 pr x I Kx _ W15 ⟨hpr, rfl⟩ hphi H16
    obtain ⟨i, xp, xc⟩ := x
    obtain ⟨hi1, hi2⟩ := hphi
    replace hi1 : i = pr.length := hi1
    replace hi2 : ∀ W, (Old w no).ok W → I.ok W → Reads W xp (lvlS k l i).length xc 1 (stV (lvlS k l i)) := hi2
    replace H16 : S W15 [Old w no, I, Kx, Ob g4 (.cells #[.slice none 0 0] 22 (0, 0)), Ob g1 (.cells #[.int .i64 (((k + r : Nat) : Int))] 3 (0, 0))] := H16
    refine g_weak [(4, .pointer (some ⟨g1, 0, none⟩)), (6, .pointer (some ⟨g4, 0, none⟩)), (7, .int .i64 (((k + i : Nat) : Int))), (8, .slice xp (lvlS k l i).length xc)] ⟨rfl, rfl, rfl, rfl, trivial⟩ ?_
    refine R.g_block ?_
    refine R.g_seq ?_
    refine R.g_region ?_
    refine R.l_of rfl (fun ⟨_, _, h⟩ => h) (s_val (v := .int .i64 (((k + i : Nat) : Int))) (wt0 rfl) rfl rfl (x_move rfl rfl) ?_)
    refine R.l_of rfl (fun ⟨_, _, h⟩ => h) (s_val (v := .int .i64 (((k + r : Nat) : Int))) (wt0 rfl) rfl rfl (x_load1 H16 4 rfl rfl Tryz.underlying3 rfl rfl rfl) ?_)
    refine R.l_of rfl (fun ⟨_, _, h⟩ => h) (s_val (v := .bool (decide ((((k + i : Nat) : Int) : Int) = ((k + r : Nat) : Int)))) (wt0 rfl) rfl rfl (x_bin rfl rfl rfl b_eql) ?_)
    refine R.g_nil ?_
    refine g_then ?_
    by_cases hb17 : (((k + i : Nat) : Int) : Int) = ((k + r : Nat) : Int)
    · skip
      have hir : r = i := by omega
      subst hir
      refine R.g_cond_t rfl (decide_eq_true hb17) ?_
      refine R.g_seq ?_
      refine R.g_region ?_
      refine R.l_of rfl (fun ⟨_, _, h⟩ => h) (s_val (v := .slice xp (lvlS k l r).length xc) (wt0 rfl) rfl rfl (x_move rfl rfl) ?_)
      refine R.l_of rfl (fun ⟨_, _, h⟩ => h) (s_call (wt0 rfl) (x_call' rfl rfl cl68) (clone_s (lvlS k l r) xp _ xc h1 (by omega) _ (hi2 _ (H16.at (k := 0) rfl) (H16.at (k := 1) rfl))) ?_)
      rintro _ wq20 ⟨p18, c19, rfl, H21⟩
      replace H21 : S wq20 [Rw 9 1 p18 (lvlS k l r).length c19 (stV (lvlS k l r)), Old w no, I, Kx, Ob g4 (.cells #[.slice none 0 0] 22 (0, 0)), Ob g1 (.cells #[.int .i64 (((k + r : Nat) : Int))] 3 (0, 0))] := H16.absorb (new := [Rw 9 1 p18 (lvlS k l r).length c19 (stV (lvlS k l r))]) H21
      refine b_ret rfl rfl ?_
      refine R.l_of rfl (fun ⟨_, _, h⟩ => h) (s_store H21 4 (wt0 rfl) rfl rfl rfl rfl rfl sz22 rfl rfl (cs' := #[.slice p18 (lvlS k l r).length c19]) rfl ?_)
      intro wq22 H23
      refine R.g_nil ?_
      refine g_then ?_
      refine R.g_ret ?_
      refine g_in_ret ?_
      exact rs_stop ⟨p18, c19, rfl⟩ (H23.takes [1, 2, 3, 0, 4, 5] (by decide))
    · skip
      refine R.g_cond_f rfl (decide_eq_false hb17) ?_
      refine R.g_skip ?_
      refine g_in ?_
      exact rs_next ⟨by rw [List.length_append, List.length_singleton]; omega, rfl⟩ H16
  · rintro D pr _ W24 _ ⟨p', c', rfl⟩ H25
    replace H25 : S W24 [Ob D (.deferred (some [])), Old w no, Rw 9 1 p' (lvlS k l r).length c' (stV (lvlS k l r)), Ob g4 (.cells #[.slice p' (lvlS k l r).length c'] 22 (0, 0)), Ob g1 (.cells #[.int .i64 (((k + r : Nat) : Int))] 3 (0, 0))] := H25
    refine g_in_ret ?_
    refine g_then_ret ?_
    refine fin_mark H25 0 rfl [.cell 6 22] [.slice p' (lvlS k l r).length c'] rfl (fun wq26 H27 => ⟨⟨⟨_, rfl, run_load1 Tryz.underlying22 rfl (H27.cell (k := 3) rfl rfl)⟩, trivial⟩, ?_⟩)
    replace H27 : S wq26 [Ob D (.deferred none), Old w no, Rw 9 1 p' (lvlS k l r).length c' (stV (lvlS k l r)), Ob g4 (.cells #[.slice p' (lvlS k l r).length c'] 22 (0, 0)), Ob g1 (.cells #[.int .i64 (((k + r : Nat) : Int))] 3 (0, 0))] := H27
    exact ⟨_, _, rfl, H27.takes [2, 1] (by decide)⟩
end Go.Proofs.YtlajgickimgigaaGreat
