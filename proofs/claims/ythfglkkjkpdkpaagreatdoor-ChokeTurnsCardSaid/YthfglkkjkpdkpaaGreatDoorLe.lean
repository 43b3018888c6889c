import Derived.Test.YthfglkkjkpdkpaaGreatDoorLd
set_option linter.unusedSimpArgs false
set_option linter.unusedVariables false
namespace Go.Proofs.YthfglkkjkpdkpaaGreatDoor
open Go.RowKit

theorem cl6 : callable Tryz.prog 6 = true := by kernel_rfl
theorem cl7 : callable Tryz.prog 7 = true := by kernel_rfl
theorem cl9 : callable Tryz.prog 9 = true := by kernel_rfl
theorem sz4 : szO Tryz.prog 4 = some 1 := by kernel_rfl
theorem set_at {α : Type} {l : List α} {j : Nat} {x y : α} (h : l[j]? = some x) : (l.set j y)[j]? = some y := List.getElem?_set_self (List.getElem?_eq_some_iff.1 h).1
theorem ri_snoc {A : List Rv} {i : Nat} {y : Rv} (h : ∀ j x, A[j]? = some x → Ri 0 j x) (hl : A.length = i) (hy : Ri 0 i y) : ∀ j x, (A ++ [y])[j]? = some x → Ri 0 j x := fun j x hx => by
  by_cases hj : j < A.length
  · rw [List.getElem?_append_left hj] at hx; exact h j x hx
  · rw [List.getElem?_append_right (by omega)] at hx
    have e : j - A.length = 0 := by
      have := (List.getElem?_eq_some_iff.1 hx).1
      simp at this; omega
    rw [e] at hx
    have hx : some y = some x := hx
    cases hx
    have : j = i := by omega
    rw [this]; exact hy
theorem mem_up {A cur : List Rv} {G : List Int} {M : Int → Option Bool} {i : Nat} {x : Rv} (hhi : ∀ j, i ≤ j → cur[j]? = A[j]?) (hx : cur[i]? = some x) (hg : x.id ∈ G) {k : Int} : (((∃ b, M k = some b) ∨ ∃ y ∈ A.take i, y.id = k ∧ k ∈ G) ∨ k = x.id) ↔ (∃ b, M k = some b) ∨ ∃ y ∈ A.take (i + 1), y.id = k ∧ k ∈ G := by
  rw [hhi i (Nat.le_refl _)] at hx
  rw [take_snocL hx]
  constructor
  · rintro ((h | ⟨y, h1, h2⟩) | rfl)
    · exact .inl h
    · exact .inr ⟨y, List.mem_append_left _ h1, h2⟩
    · exact .inr ⟨x, List.mem_append_right _ (List.mem_singleton.2 rfl), rfl, hg⟩
  · rintro (h | ⟨y, h1, h2, h3⟩)
    · exact .inl (.inl h)
    · rcases List.mem_append.1 h1 with h1 | h1
      · exact .inl (.inr ⟨y, h1, h2, h3⟩)
      · rw [List.mem_singleton] at h1; subst h1; exact .inr h2.symm
theorem mem_no {A cur : List Rv} {G : List Int} {M : Int → Option Bool} {i : Nat} {x : Rv} (hhi : ∀ j, i ≤ j → cur[j]? = A[j]?) (hx : cur[i]? = some x) (hg : ¬ x.id ∈ G) {k : Int} : ((∃ b, M k = some b) ∨ ∃ y ∈ A.take i, y.id = k ∧ k ∈ G) ↔ (∃ b, M k = some b) ∨ ∃ y ∈ A.take (i + 1), y.id = k ∧ k ∈ G := by
  rw [hhi i (Nat.le_refl _)] at hx
  rw [take_snocL hx]
  constructor
  · rintro (h | ⟨y, h1, h2⟩)
    · exact .inl h
    · exact .inr ⟨y, List.mem_append_left _ h1, h2⟩
  · rintro (h | ⟨y, h1, h2, h3⟩)
    · exact .inl h
    · rcases List.mem_append.1 h1 with h1 | h1
      · exact .inr ⟨y, h1, h2, h3⟩
      · rw [List.mem_singleton] at h1; subst h1; exact absurd (h2 ▸ h3) hg
set_option maxRecDepth 20000 in
set_option maxHeartbeats 4000000 in
set_option maxRecDepth 20000 in
set_option maxHeartbeats 4000000 in
theorem turns_law (slots n : Int) (seed : ByteArray) (sn : List Bool) (q : Option Addr) (k d : Nat) (hk2 : k ≤ 9223372036854775807)  (w : World) (hs : Reads w q k d 1 (fl boolL sn)) : Calls Tryz.prog 4 #[.int .i64 slots, .int .i64 n, .string seed, .slice q k d] w fun e w' => e = .returned (.bool true) ∧ S w' [Old w no] := by
  have H0 := S.old w
  have hkm := hs.lenL boolE
  refine enter 128 Tryz.func4 rfl rfl rfl ?_
  refine g_weak [(0, .int .i64 slots), (1, .int .i64 n), (2, .string seed), (3, .slice q k d)] ⟨rfl, rfl, rfl, rfl, trivial⟩ ?_
  refine g_seq ?_
  refine g_region ?_
  refine l_of (s_val (v := .bool false) (wt0 rfl) rfl rfl (x_assign rfl rfl) ?_)
  refine g_nil ?_
  refine g_then ?_
  refine g_seq ?_
  refine g_seq ?_
  refine g_region ?_
  refine l_of (s_val (v := .int .i64 slots) (wt0 rfl) rfl rfl (x_move rfl rfl) ?_)
  refine l_of (s_val (v := .bool (decide ((slots : Int) < 1))) (wt0 rfl) rfl rfl (x_bin rfl rfl rfl b_lss) ?_)
  refine l_of (s_val (v := .bool (decide ((slots : Int) < 1))) (wt0 rfl) rfl rfl (x_move rfl rfl) ?_)
  by_cases hb1 : (slots : Int) < 1
  · skip
    refine l_of (s_not (wn1 rfl rfl rfl rfl (decide_eq_true hb1)) rfl rfl ?_)
    refine l_of (s_not (wn1 rfl rfl rfl rfl (decide_eq_true hb1)) rfl rfl ?_)
    refine l_of (s_val (v := .bool true) (wt0 rfl) rfl rfl (x_pick_t rfl rfl (decide_eq_true hb1) rfl) ?_)
    refine l_of (s_val (v := .bool true) (wt0 rfl) rfl rfl (x_move rfl rfl) ?_)
    refine l_of (s_not (wn1 rfl rfl rfl rfl rfl) rfl rfl ?_)
    refine l_of (s_not (wn1 rfl rfl rfl rfl rfl) rfl rfl ?_)
    refine l_of (s_val (v := .bool true) (wt0 rfl) rfl rfl (x_pick_t rfl rfl rfl rfl) ?_)
    refine l_of (s_val (v := .bool true) (wt0 rfl) rfl rfl (x_move rfl rfl) ?_)
    refine l_of (s_not (wn1 rfl rfl rfl rfl rfl) rfl rfl ?_)
    refine l_of (s_not (wn1 rfl rfl rfl rfl rfl) rfl rfl ?_)
    refine l_of (s_val (v := .bool true) (wt0 rfl) rfl rfl (x_pick_t rfl rfl rfl rfl) ?_)
    refine l_of (s_val (v := .bool true) (wt0 rfl) rfl rfl (x_move rfl rfl) ?_)
    refine l_of (s_not (wn1 rfl rfl rfl rfl rfl) rfl rfl ?_)
    refine l_of (s_not (wn1 rfl rfl rfl rfl rfl) rfl rfl ?_)
    refine l_of (s_not (wn1 rfl rfl rfl rfl rfl) rfl rfl ?_)
    refine l_of (s_val (v := .bool true) (wt0 rfl) rfl rfl (x_pick_t rfl rfl rfl rfl) ?_)
    refine g_nil ?_
    refine g_then ?_
    refine g_weak [(0, .int .i64 slots), (1, .int .i64 n), (2, .string seed), (3, .slice q k d), (34, .bool true)] ⟨rfl, rfl, rfl, rfl, rfl, trivial⟩ ?_
    refine g_cond_t rfl rfl ?_
    refine g_seq ?_
    refine g_region ?_
    refine l_of (s_call (wt0 rfl) (x_call' rfl rfl cl6) (awake_s _) ?_)
    rintro _ wq2 ⟨rfl, H3⟩
    replace H3 : S wq2 [Old w no] := H0.absorb (new := []) H3
    refine b_ret rfl rfl ?_
    refine l_of (s_val (v := .bool true) (wt0 rfl) rfl rfl (x_assign rfl rfl) ?_)
    refine g_nil ?_
    refine g_then ?_
    refine g_ret ?_
    refine g_then_ret ?_
    refine fin_ret [.tmp 8] [.bool true] rfl ⟨rfl, trivial⟩ ?_
    exact ⟨rfl, H3.mask [true]⟩
  · skip
    refine l_of (s_val (v := .int .i64 slots) (wt1 rfl rfl rfl rfl (decide_eq_false hb1)) rfl rfl (x_move rfl rfl) ?_)
    refine l_of (s_val (v := .bool (decide ((10 : Int) < slots))) (wt1 rfl rfl rfl rfl (decide_eq_false hb1)) rfl rfl (x_bin rfl rfl rfl b_gtr) ?_)
    refine l_of (s_val (v := .bool (decide ((10 : Int) < slots))) (wt0 rfl) rfl rfl (x_pick_f rfl rfl (decide_eq_false hb1) rfl) ?_)
    refine l_of (s_val (v := .bool (decide ((10 : Int) < slots))) (wt0 rfl) rfl rfl (x_move rfl rfl) ?_)
    by_cases hb4 : (10 : Int) < slots
    · skip
      refine l_of (s_not (wn1 rfl rfl rfl rfl (decide_eq_true hb4)) rfl rfl ?_)
      refine l_of (s_not (wn1 rfl rfl rfl rfl (decide_eq_true hb4)) rfl rfl ?_)
      refine l_of (s_val (v := .bool true) (wt0 rfl) rfl rfl (x_pick_t rfl rfl (decide_eq_true hb4) rfl) ?_)
      refine l_of (s_val (v := .bool true) (wt0 rfl) rfl rfl (x_move rfl rfl) ?_)
      refine l_of (s_not (wn1 rfl rfl rfl rfl rfl) rfl rfl ?_)
      refine l_of (s_not (wn1 rfl rfl rfl rfl rfl) rfl rfl ?_)
      refine l_of (s_val (v := .bool true) (wt0 rfl) rfl rfl (x_pick_t rfl rfl rfl rfl) ?_)
      refine l_of (s_val (v := .bool true) (wt0 rfl) rfl rfl (x_move rfl rfl) ?_)
      refine l_of (s_not (wn1 rfl rfl rfl rfl rfl) rfl rfl ?_)
      refine l_of (s_not (wn1 rfl rfl rfl rfl rfl) rfl rfl ?_)
      refine l_of (s_not (wn1 rfl rfl rfl rfl rfl) rfl rfl ?_)
      refine l_of (s_val (v := .bool true) (wt0 rfl) rfl rfl (x_pick_t rfl rfl rfl rfl) ?_)
      refine g_nil ?_
      refine g_then ?_
      refine g_weak [(0, .int .i64 slots), (1, .int .i64 n), (2, .string seed), (3, .slice q k d), (34, .bool true)] ⟨rfl, rfl, rfl, rfl, rfl, trivial⟩ ?_
      refine g_cond_t rfl rfl ?_
      refine g_seq ?_
      refine g_region ?_
      refine l_of (s_call (wt0 rfl) (x_call' rfl rfl cl6) (awake_s _) ?_)
      rintro _ wq5 ⟨rfl, H6⟩
      replace H6 : S wq5 [Old w no] := H0.absorb (new := []) H6
      refine b_ret rfl rfl ?_
      refine l_of (s_val (v := .bool true) (wt0 rfl) rfl rfl (x_assign rfl rfl) ?_)
      refine g_nil ?_
      refine g_then ?_
      refine g_ret ?_
      refine g_then_ret ?_
      refine fin_ret [.tmp 8] [.bool true] rfl ⟨rfl, trivial⟩ ?_
      exact ⟨rfl, H6.mask [true]⟩
    · skip
      refine l_of (s_val (v := .int .i64 n) (wt1 rfl rfl rfl rfl (decide_eq_false hb4)) rfl rfl (x_move rfl rfl) ?_)
      refine l_of (s_val (v := .bool (decide ((n : Int) < 1))) (wt1 rfl rfl rfl rfl (decide_eq_false hb4)) rfl rfl (x_bin rfl rfl rfl b_lss) ?_)
      refine l_of (s_val (v := .bool (decide ((n : Int) < 1))) (wt0 rfl) rfl rfl (x_pick_f rfl rfl (decide_eq_false hb4) rfl) ?_)
      refine l_of (s_val (v := .bool (decide ((n : Int) < 1))) (wt0 rfl) rfl rfl (x_move rfl rfl) ?_)
      by_cases hb7 : (n : Int) < 1
      · skip
        refine l_of (s_not (wn1 rfl rfl rfl rfl (decide_eq_true hb7)) rfl rfl ?_)
        refine l_of (s_not (wn1 rfl rfl rfl rfl (decide_eq_true hb7)) rfl rfl ?_)
        refine l_of (s_val (v := .bool true) (wt0 rfl) rfl rfl (x_pick_t rfl rfl (decide_eq_true hb7) rfl) ?_)
        refine l_of (s_val (v := .bool true) (wt0 rfl) rfl rfl (x_move rfl rfl) ?_)
        refine l_of (s_not (wn1 rfl rfl rfl rfl rfl) rfl rfl ?_)
        refine l_of (s_not (wn1 rfl rfl rfl rfl rfl) rfl rfl ?_)
        refine l_of (s_not (wn1 rfl rfl rfl rfl rfl) rfl rfl ?_)
        refine l_of (s_val (v := .bool true) (wt0 rfl) rfl rfl (x_pick_t rfl rfl rfl rfl) ?_)
        refine g_nil ?_
        refine g_then ?_
        refine g_weak [(0, .int .i64 slots), (1, .int .i64 n), (2, .string seed), (3, .slice q k d), (34, .bool true)] ⟨rfl, rfl, rfl, rfl, rfl, trivial⟩ ?_
        refine g_cond_t rfl rfl ?_
        refine g_seq ?_
        refine g_region ?_
        refine l_of (s_call (wt0 rfl) (x_call' rfl rfl cl6) (awake_s _) ?_)
        rintro _ wq8 ⟨rfl, H9⟩
        replace H9 : S wq8 [Old w no] := H0.absorb (new := []) H9
        refine b_ret rfl rfl ?_
        refine l_of (s_val (v := .bool true) (wt0 rfl) rfl rfl (x_assign rfl rfl) ?_)
        refine g_nil ?_
        refine g_then ?_
        refine g_ret ?_
        refine g_then_ret ?_
        refine fin_ret [.tmp 8] [.bool true] rfl ⟨rfl, trivial⟩ ?_
        exact ⟨rfl, H9.mask [true]⟩
      · skip
        refine l_of (s_val (v := .int .i64 n) (wt1 rfl rfl rfl rfl (decide_eq_false hb7)) rfl rfl (x_move rfl rfl) ?_)
        refine l_of (s_val (v := .bool (decide ((12 : Int) < n))) (wt1 rfl rfl rfl rfl (decide_eq_false hb7)) rfl rfl (x_bin rfl rfl rfl b_gtr) ?_)
        refine l_of (s_val (v := .bool (decide ((12 : Int) < n))) (wt0 rfl) rfl rfl (x_pick_f rfl rfl (decide_eq_false hb7) rfl) ?_)
        refine l_of (s_val (v := .bool (decide ((12 : Int) < n))) (wt0 rfl) rfl rfl (x_move rfl rfl) ?_)
        by_cases hb10 : (12 : Int) < n
        · skip
          refine l_of (s_not (wn1 rfl rfl rfl rfl (decide_eq_true hb10)) rfl rfl ?_)
          refine l_of (s_not (wn1 rfl rfl rfl rfl (decide_eq_true hb10)) rfl rfl ?_)
          refine l_of (s_not (wn1 rfl rfl rfl rfl (decide_eq_true hb10)) rfl rfl ?_)
          refine l_of (s_val (v := .bool true) (wt0 rfl) rfl rfl (x_pick_t rfl rfl (decide_eq_true hb10) rfl) ?_)
          refine g_nil ?_
          refine g_then ?_
          refine g_weak [(0, .int .i64 slots), (1, .int .i64 n), (2, .string seed), (3, .slice q k d), (34, .bool true)] ⟨rfl, rfl, rfl, rfl, rfl, trivial⟩ ?_
          refine g_cond_t rfl rfl ?_
          refine g_seq ?_
          refine g_region ?_
          refine l_of (s_call (wt0 rfl) (x_call' rfl rfl cl6) (awake_s _) ?_)
          rintro _ wq11 ⟨rfl, H12⟩
          replace H12 : S wq11 [Old w no] := H0.absorb (new := []) H12
          refine b_ret rfl rfl ?_
          refine l_of (s_val (v := .bool true) (wt0 rfl) rfl rfl (x_assign rfl rfl) ?_)
          refine g_nil ?_
          refine g_then ?_
          refine g_ret ?_
          refine g_then_ret ?_
          refine fin_ret [.tmp 8] [.bool true] rfl ⟨rfl, trivial⟩ ?_
          exact ⟨rfl, H12.mask [true]⟩
        · skip
          refine l_of (s_val (v := .string seed) (wt1 rfl rfl rfl rfl (decide_eq_false hb10)) rfl rfl (x_move rfl rfl) ?_)
          refine l_of (s_val (v := .int .i64 ((seed.size : Int))) (wt1 rfl rfl rfl rfl (decide_eq_false hb10)) rfl rfl (x_lens rfl rfl Tryz.underlying9) ?_)
          refine l_of (s_val (v := .bool (decide ((100 : Int) < (seed.size : Int)))) (wt1 rfl rfl rfl rfl (decide_eq_false hb10)) rfl rfl (x_bin rfl rfl rfl b_gtr) ?_)
          refine l_of (s_val (v := .bool (decide ((100 : Int) < (seed.size : Int)))) (wt0 rfl) rfl rfl (x_pick_f rfl rfl (decide_eq_false hb10) rfl) ?_)
          refine g_nil ?_
          refine g_then ?_
          refine g_weak [(0, .int .i64 slots), (1, .int .i64 n), (2, .string seed), (3, .slice q k d), (34, .bool (decide ((100 : Int) < (seed.size : Int))))] ⟨rfl, rfl, rfl, rfl, rfl, trivial⟩ ?_
          by_cases hb13 : (100 : Int) < (seed.size : Int)
          · skip
            refine g_cond_t rfl (decide_eq_true hb13) ?_
            refine g_seq ?_
            refine g_region ?_
            refine l_of (s_call (wt0 rfl) (x_call' rfl rfl cl6) (awake_s _) ?_)
            rintro _ wq14 ⟨rfl, H15⟩
            replace H15 : S wq14 [Old w no] := H0.absorb (new := []) H15
            refine b_ret rfl rfl ?_
            refine l_of (s_val (v := .bool true) (wt0 rfl) rfl rfl (x_assign rfl rfl) ?_)
            refine g_nil ?_
            refine g_then ?_
            refine g_ret ?_
            refine g_then_ret ?_
            refine fin_ret [.tmp 8] [.bool true] rfl ⟨rfl, trivial⟩ ?_
            exact ⟨rfl, H15.mask [true]⟩
          · skip
            refine g_cond_f rfl (decide_eq_false hb13) ?_
            refine g_skip ?_
            refine g_then ?_
            refine g_seq ?_
            refine g_region ?_
            refine l_of (s_val (v := .slice none 0 0) (wt0 rfl) rfl rfl (x_assign rfl rfl) ?_)
            refine g_nil ?_
            refine g_then ?_
            refine g_seq ?_
            refine g_seq ?_
            refine g_region ?_
            refine l_of (s_val (v := .int .i64 n) (wt0 rfl) rfl rfl (x_move rfl rfl) ?_)
            refine l_of (s_val (v := .int .i64 0) (wt0 rfl) rfl rfl (x_move rfl rfl) ?_)
            refine g_nil ?_
            refine g_then ?_
            refine g_block ?_
            refine g_loop (ι := Nat × Option Addr × Nat × List Rv) (fun (i, pa, ca, A) => [(0, .int .i64 slots), (1, .int .i64 n), (2, .string seed), (3, .slice q k d), (9, .slice pa A.length ca), (36, .int .i64 n), (37, .int .i64 ((i : Int)))]) (fun (i, pa, ca, A) wx => ((i : Int) ≤ n) ∧ (A.length = i) ∧ (∀ j x, A[j]? = some x → Ri 0 j x) ∧ S wx [Rw 30 10 pa A.length ca (fl rvL A), Old w no]) (fun (i, pa, ca, A) => (n.toNat - i)) (0, none, 0, []) ⟨rfl, rfl, rfl, rfl, rfl, rfl, rfl, trivial⟩ ⟨(by omega), rfl, (fun j x hx => by simp at hx), ((H0.takes [0] (by decide)).nilFl 30 10 rvL)⟩ ?_
            rintro ⟨i, pa, ca, A⟩ wq16 ⟨hi, hAl, hAr, H17⟩
            replace H17 : S wq16 [Rw 30 10 pa A.length ca (fl rvL A), Old w no] := H17
            refine g_weak [(0, .int .i64 slots), (1, .int .i64 n), (2, .string seed), (3, .slice q k d), (9, .slice pa A.length ca), (36, .int .i64 n), (37, .int .i64 ((i : Int)))] ⟨rfl, rfl, rfl, rfl, rfl, rfl, rfl, trivial⟩ ?_
            refine g_seq ?_
            refine g_region ?_
            refine l_of (s_val (v := .bool (decide (((i : Int) : Int) < n))) (wt0 rfl) rfl rfl (x_bin rfl rfl rfl b_lss) ?_)
            refine g_nil ?_
            refine g_then ?_
            refine g_seq ?_
            by_cases hb18 : ((i : Int) : Int) < n
            · skip
              refine g_cond_t rfl (decide_eq_true hb18) ?_
              refine g_skip ?_
              refine g_then ?_
              refine g_seq ?_
              refine g_block ?_
              refine g_seq ?_
              refine g_region ?_
              refine l_of (s_val (v := .int .i64 ((i : Int))) (wt0 rfl) rfl rfl (x_move rfl rfl) ?_)
              refine l_of (s_val (v := .int .i64 ((i : Int))) (wt0 rfl) rfl rfl (x_assign rfl rfl) ?_)
              refine g_nil ?_
              refine g_then ?_
              refine g_region ?_
              refine l_of (s_val (v := .slice pa A.length ca) (wt0 rfl) rfl rfl (x_move rfl rfl) ?_)
              refine l_of (s_val (v := .int .i64 ((i : Int))) (wt0 rfl) rfl rfl (x_move rfl rfl) ?_)
              refine l_of (s_val (v := .int .i64 ((i : Int) * 3)) (wt0 rfl) rfl rfl (x_bin rfl rfl rfl (b_mul (w64 (by omega)))) ?_)
              refine l_of (s_val (v := .int .i64 ((i : Int))) (wt0 rfl) rfl rfl (x_move rfl rfl) ?_)
              refine l_of (s_val (v := .slice q k d) (wt0 rfl) rfl rfl (x_move rfl rfl) ?_)
              refine l_of (s_val (v := .int .i64 ((k : Int))) (wt0 rfl) rfl rfl (x_lenl rfl rfl Tryz.underlying34) ?_)
              refine l_of (s_val (v := .bool (decide (((i : Int) : Int) < (k : Int)))) (wt0 rfl) rfl rfl (x_bin rfl rfl rfl b_lss) ?_)
              refine l_of (s_val (v := .bool (decide (((i : Int) : Int) < (k : Int)))) (wt0 rfl) rfl rfl (x_move rfl rfl) ?_)
              by_cases hb19 : ((i : Int) : Int) < (k : Int)
              · skip
                refine l_of (s_val (v := .slice q k d) (wt1 rfl rfl rfl rfl (decide_eq_true hb19)) rfl rfl (x_move rfl rfl) ?_)
                refine l_of (s_val (v := .int .i64 ((i : Int))) (wt1 rfl rfl rfl rfl (decide_eq_true hb19)) rfl rfl (x_move rfl rfl) ?_)
                refine l_of (s_val (v := .pointer ((q).map fun q => q.add (i * 1))) (wt1 rfl rfl rfl rfl (decide_eq_true hb19)) rfl rfl (x_idxR i (H17.exReads (k := 1) rfl hs (fun _ _ _ h => h)) rfl rfl rfl Tryz.underlying34 sz4 (by omega)) ?_)
                have hlq := (H17.exReads (k := 1) rfl hs (fun _ _ _ h => h)).lenL boolE
                obtain ⟨x20, hx20⟩ := ex_at (l := sn) (j := i) (by omega)
                clear hlq
                refine l_of (s_val (v := .bool x20) (wt1 rfl rfl rfl rfl (decide_eq_true hb19)) rfl rfl (x_loadR1 i (H17.exReads (k := 1) rfl hs (fun _ _ _ h => h)) (by omega) rfl rfl Tryz.underlying4 rfl (boolE.flAt1 hx20 rfl)) ?_)
                refine l_of (s_val (v := .bool x20) (wt0 rfl) rfl rfl (x_pick_t rfl rfl (decide_eq_true hb19) rfl) ?_)
                refine l_of (s_val (v := .agg #[.int .i64 ((i : Int) * 3), .bool true, .bool false, .int .i64 0, .int .i64 0, .int .i64 (-1), .int .i64 0, .bool x20, .bool false, .bool false]) (wt0 rfl) rfl rfl (x_build (vs := [.int .i64 ((i : Int) * 3), .bool true, .int .i64 (-1), .bool x20]) rfl rfl (cells := #[.int .i64 ((i : Int) * 3), .bool true, .bool false, .int .i64 0, .int .i64 0, .int .i64 (-1), .int .i64 0, .bool x20, .bool false, .bool false]) (by kernel_rfl)) ?_)
                refine l_of (s_buildSlice H17 (wt0 rfl) rfl rfl rfl (vs := [.agg #[.int .i64 ((i : Int) * 3), .bool true, .bool false, .int .i64 0, .int .i64 0, .int .i64 (-1), .int .i64 0, .bool x20, .bool false, .bool false]]) rfl Tryz.underlying22 sz30 ze30 rfl rfl (cells := #[.int .i64 ((i : Int) * 3), .bool true, .bool false, .int .i64 0, .int .i64 0, .int .i64 (-1), .int .i64 0, .bool x20, .bool false, .bool false]) (by kernel_rfl) ?_)
                intro g21 wq22 H23
                have hln28a := (H23.rwReads (k := 1) rfl).lenL rvE
                have hln28 : (A ++ [(⟨(i : Int) * 3, true, false, 0, 0, -1, 0, x20, false, false⟩ : Rv)]).length = A.length + 1 := by simp only [List.length_append, List.length_cons, List.length_nil] <;> omega
                refine l_of (s_appBn (m := 1) (l := A) (l2 := [(⟨(i : Int) * 3, true, false, 0, 0, -1, 0, x20, false, false⟩ : Rv)]) rvE H23 1 (j0 := 0) rfl rfl ⟨rfl, Nat.le_refl _⟩ (wt0 rfl) rfl rfl rfl rfl rfl rfl Tryz.underlying22 inf30 rfl (by decide) (by omega) ?_)
                intro p24 c25 wq26 H27
                replace H27 : S wq26 [Ob g21 (.cells #[.int .i64 ((i : Int) * 3), .bool true, .bool false, .int .i64 0, .int .i64 0, .int .i64 (-1), .int .i64 0, .bool x20, .bool false, .bool false] 30 (0, 0)), Rw 30 10 p24 ((A ++ [(⟨(i : Int) * 3, true, false, 0, 0, -1, 0, x20, false, false⟩ : Rv)]).length) c25 (fl rvL (A ++ [(⟨(i : Int) * 3, true, false, 0, 0, -1, 0, x20, false, false⟩ : Rv)])), Old w no] := H27
                refine l_of (s_val (v := .slice p24 ((A ++ [(⟨(i : Int) * 3, true, false, 0, 0, -1, 0, x20, false, false⟩ : Rv)]).length) c25) (wt0 rfl) rfl rfl (x_assign rfl rfl) ?_)
                refine g_nil ?_
                refine g_in ?_
                refine g_then ?_
                refine g_weak [(0, .int .i64 slots), (1, .int .i64 n), (2, .string seed), (3, .slice q k d), (9, .slice p24 ((A ++ [(⟨(i : Int) * 3, true, false, 0, 0, -1, 0, x20, false, false⟩ : Rv)]).length) c25), (36, .int .i64 n), (37, .int .i64 ((i : Int)))] ⟨rfl, rfl, rfl, rfl, rfl, rfl, rfl, trivial⟩ ?_
                refine g_region ?_
                refine l_of (s_val (v := .int .i64 (((i + 1 : Nat) : Int))) (wt0 rfl) rfl rfl (x_bin rfl rfl rfl (b_add (by rw [w64 (by omega)]; omega))) ?_)
                refine l_of (s_val (v := .int .i64 (((i + 1 : Nat) : Int))) (wt0 rfl) rfl rfl (x_move rfl rfl) ?_)
                refine g_nil ?_
                refine g_then ?_
                refine g_round (i := (i, pa, ca, A)) ((i + 1), p24, c25, (A ++ [(⟨(i : Int) * 3, true, false, 0, 0, -1, 0, x20, false, false⟩ : Rv)])) ?_ ?_ ?_
                · exact ⟨rfl, rfl, rfl, rfl, rfl, rfl, rfl, trivial⟩
                · exact ⟨(by omega), (by simp only [List.length_append, List.length_cons, List.length_nil]; omega), (ri_snoc hAr hAl ⟨rfl, rfl, rfl, rfl, .inl rfl, fun hh => (by cases hh), Int.le_refl _, (by show (-1 : Int) < 0; decide)⟩), (H27.takes [1, 2] (by decide))⟩
                · (try dsimp only); omega
              · skip
                refine l_of (s_not (wn1 rfl rfl rfl rfl (decide_eq_false hb19)) rfl rfl ?_)
                refine l_of (s_not (wn1 rfl rfl rfl rfl (decide_eq_false hb19)) rfl rfl ?_)
                refine l_of (s_not (wn1 rfl rfl rfl rfl (decide_eq_false hb19)) rfl rfl ?_)
                refine l_of (s_not (wn1 rfl rfl rfl rfl (decide_eq_false hb19)) rfl rfl ?_)
                refine l_of (s_val (v := .bool false) (wt0 rfl) rfl rfl (x_pick_f rfl rfl (decide_eq_false hb19) rfl) ?_)
                refine l_of (s_val (v := .agg #[.int .i64 ((i : Int) * 3), .bool true, .bool false, .int .i64 0, .int .i64 0, .int .i64 (-1), .int .i64 0, .bool false, .bool false, .bool false]) (wt0 rfl) rfl rfl (x_build (vs := [.int .i64 ((i : Int) * 3), .bool true, .int .i64 (-1), .bool false]) rfl rfl (cells := #[.int .i64 ((i : Int) * 3), .bool true, .bool false, .int .i64 0, .int .i64 0, .int .i64 (-1), .int .i64 0, .bool false, .bool false, .bool false]) (by kernel_rfl)) ?_)
                refine l_of (s_buildSlice H17 (wt0 rfl) rfl rfl rfl (vs := [.agg #[.int .i64 ((i : Int) * 3), .bool true, .bool false, .int .i64 0, .int .i64 0, .int .i64 (-1), .int .i64 0, .bool false, .bool false, .bool false]]) rfl Tryz.underlying22 sz30 ze30 rfl rfl (cells := #[.int .i64 ((i : Int) * 3), .bool true, .bool false, .int .i64 0, .int .i64 0, .int .i64 (-1), .int .i64 0, .bool false, .bool false, .bool false]) (by kernel_rfl) ?_)
                intro g29 wq30 H31
                have hln36a := (H31.rwReads (k := 1) rfl).lenL rvE
                have hln36 : (A ++ [(⟨(i : Int) * 3, true, false, 0, 0, -1, 0, false, false, false⟩ : Rv)]).length = A.length + 1 := by simp only [List.length_append, List.length_cons, List.length_nil] <;> omega
                refine l_of (s_appBn (m := 1) (l := A) (l2 := [(⟨(i : Int) * 3, true, false, 0, 0, -1, 0, false, false, false⟩ : Rv)]) rvE H31 1 (j0 := 0) rfl rfl ⟨rfl, Nat.le_refl _⟩ (wt0 rfl) rfl rfl rfl rfl rfl rfl Tryz.underlying22 inf30 rfl (by decide) (by omega) ?_)
                intro p32 c33 wq34 H35
                replace H35 : S wq34 [Ob g29 (.cells #[.int .i64 ((i : Int) * 3), .bool true, .bool false, .int .i64 0, .int .i64 0, .int .i64 (-1), .int .i64 0, .bool false, .bool false, .bool false] 30 (0, 0)), Rw 30 10 p32 ((A ++ [(⟨(i : Int) * 3, true, false, 0, 0, -1, 0, false, false, false⟩ : Rv)]).length) c33 (fl rvL (A ++ [(⟨(i : Int) * 3, true, false, 0, 0, -1, 0, false, false, false⟩ : Rv)])), Old w no] := H35
                refine l_of (s_val (v := .slice p32 ((A ++ [(⟨(i : Int) * 3, true, false, 0, 0, -1, 0, false, false, false⟩ : Rv)]).length) c33) (wt0 rfl) rfl rfl (x_assign rfl rfl) ?_)
                refine g_nil ?_
                refine g_in ?_
                refine g_then ?_
                refine g_weak [(0, .int .i64 slots), (1, .int .i64 n), (2, .string seed), (3, .slice q k d), (9, .slice p32 ((A ++ [(⟨(i : Int) * 3, true, false, 0, 0, -1, 0, false, false, false⟩ : Rv)]).length) c33), (36, .int .i64 n), (37, .int .i64 ((i : Int)))] ⟨rfl, rfl, rfl, rfl, rfl, rfl, rfl, trivial⟩ ?_
                refine g_region ?_
                refine l_of (s_val (v := .int .i64 (((i + 1 : Nat) : Int))) (wt0 rfl) rfl rfl (x_bin rfl rfl rfl (b_add (by rw [w64 (by omega)]; omega))) ?_)
                refine l_of (s_val (v := .int .i64 (((i + 1 : Nat) : Int))) (wt0 rfl) rfl rfl (x_move rfl rfl) ?_)
                refine g_nil ?_
                refine g_then ?_
                refine g_round (i := (i, pa, ca, A)) ((i + 1), p32, c33, (A ++ [(⟨(i : Int) * 3, true, false, 0, 0, -1, 0, false, false, false⟩ : Rv)])) ?_ ?_ ?_
                · exact ⟨rfl, rfl, rfl, rfl, rfl, rfl, rfl, trivial⟩
                · exact ⟨(by omega), (by simp only [List.length_append, List.length_cons, List.length_nil]; omega), (ri_snoc hAr hAl ⟨rfl, rfl, rfl, rfl, .inl rfl, fun hh => (by cases hh), Int.le_refl _, (by show (-1 : Int) < 0; decide)⟩), (H35.takes [1, 2] (by decide))⟩
                · (try dsimp only); omega
            · skip
              refine g_cond_f rfl (decide_eq_false hb18) ?_
              refine g_exit ?_
              obtain ⟨n9, rfl⟩ : ∃ n9 : Nat, n = (n9 : Int) := ⟨n.toNat, by omega⟩
              have hin : A.length = n9 := by omega
              rw [hin] at H17
              rw [hin]
              refine g_then_exit ?_
              refine g_then_exit ?_
              refine g_in_hit ?_
              refine g_then ?_
              refine g_seq ?_
              refine g_region ?_
              refine l_of (s_makeMap (α := Bool) (Value.int .i64) Value.bool okI H17 (wt0 rfl) rfl rfl rfl ?_)
              intro mg37 wq38 H39
              replace H39 : S wq38 [Mp (Value.int .i64) Value.bool okI mg37 (fun _ => none), Rw 30 10 pa n9 ca (fl rvL A), Old w no] := H39
              refine l_of (s_val (v := .map (some mg37)) (wt0 rfl) rfl rfl (x_assign rfl rfl) ?_)
              refine g_nil ?_
              refine g_then ?_
              refine g_seq ?_
              refine g_seq ?_
              refine g_region ?_
              refine l_of (s_val (v := .int .i64 ((n9 : Int))) (wt0 rfl) rfl rfl (x_move rfl rfl) ?_)
              refine l_of (s_val (v := .int .i64 0) (wt0 rfl) rfl rfl (x_move rfl rfl) ?_)
              refine g_nil ?_
              refine g_then ?_
              refine g_block ?_
              refine g_loop (ι := Nat × List Rv × (Int → Option Bool)) (fun (r, B9, M) => [(0, .int .i64 slots), (1, .int .i64 ((n9 : Int))), (2, .string seed), (9, .slice pa n9 ca), (11, .map (some mg37)), (58, .int .i64 ((n9 : Int))), (59, .int .i64 ((r : Int)))]) (fun (r, B9, M) wx => (r ≤ n9) ∧ (LI B9 n9 r M) ∧ S wx [Mp (Value.int .i64) Value.bool okI mg37 M, Rw 30 10 pa n9 ca (fl rvL B9), Old w no]) (fun (r, B9, M) => (n9 - r)) (0, A, (fun _ => none)) ⟨rfl, rfl, rfl, rfl, rfl, rfl, rfl, trivial⟩ ⟨Nat.zero_le _, (LI.start (by omega) hAr), (H39.takes [0, 1, 2] (by decide))⟩ ?_
              rintro ⟨r, B9, M⟩ wq40 ⟨hr, hL, H41⟩
              replace H41 : S wq40 [Mp (Value.int .i64) Value.bool okI mg37 M, Rw 30 10 pa n9 ca (fl rvL B9), Old w no] := H41
              refine g_weak [(0, .int .i64 slots), (1, .int .i64 ((n9 : Int))), (2, .string seed), (9, .slice pa n9 ca), (11, .map (some mg37)), (58, .int .i64 ((n9 : Int))), (59, .int .i64 ((r : Int)))] ⟨rfl, rfl, rfl, rfl, rfl, rfl, rfl, trivial⟩ ?_
              refine g_seq ?_
              refine g_region ?_
              refine l_of (s_val (v := .bool (decide (((r : Int) : Int) < (n9 : Int)))) (wt0 rfl) rfl rfl (x_bin rfl rfl rfl b_lss) ?_)
              refine g_nil ?_
              refine g_then ?_
              refine g_seq ?_
              by_cases hb42 : ((r : Int) : Int) < (n9 : Int)
              · skip
                refine g_cond_t rfl (decide_eq_true hb42) ?_
                refine g_skip ?_
                refine g_then ?_
                refine g_seq ?_
                refine g_block ?_
                refine g_seq ?_
                refine g_region ?_
                refine l_of (s_val (v := .int .i64 ((r : Int))) (wt0 rfl) rfl rfl (x_move rfl rfl) ?_)
                refine l_of (s_val (v := .int .i64 ((r : Int))) (wt0 rfl) rfl rfl (x_assign rfl rfl) ?_)
                refine g_nil ?_
                refine g_then ?_
                refine g_seq ?_
                refine g_region ?_
                refine l_of (s_val (v := .int .i64 ((r : Int))) (wt0 rfl) rfl rfl (x_move rfl rfl) ?_)
                refine l_of (s_val (v := .int .i64 slots) (wt0 rfl) rfl rfl (x_move rfl rfl) ?_)
                refine l_of (s_val (v := .string seed) (wt0 rfl) rfl rfl (x_move rfl rfl) ?_)
                refine l_of (s_val (v := .slice pa n9 ca) (wt0 rfl) rfl rfl (x_move rfl rfl) ?_)
                refine l_of (s_call (wt0 rfl) (x_call' rfl rfl cl7) (round3_s (r : Int) slots seed B9 pa n9 ca (by omega) (hL.ask (by omega) (by omega) (by omega)) (by omega) (by omega) _ (H41.rwReads (k := 1) rfl)) ?_)
                rintro _ wq45 ⟨pd43, cd44, rfl, H46⟩
                replace H46 : S wq45 [Rw 3 1 pd43 ((ids3 B9 slots).length) cd44 (fl intL (ids3 B9 slots)), Mp (Value.int .i64) Value.bool okI mg37 M, Rw 30 10 pa n9 ca (fl rvL B9), Old w no] := H41.absorb (new := [Rw 3 1 pd43 ((ids3 B9 slots).length) cd44 (fl intL (ids3 B9 slots))]) H46
                refine b_ret rfl rfl ?_
                refine l_of (s_val (v := .tuple #[.slice pd43 ((ids3 B9 slots).length) cd44, .int .i64 0]) (wt0 rfl) rfl rfl (x_move rfl rfl) ?_)
                refine l_of (s_val (v := .slice pd43 ((ids3 B9 slots).length) cd44) (wt0 rfl) rfl rfl (x_extract rfl rfl rfl) ?_)
                refine l_of (s_val (v := .int .i64 0) (wt0 rfl) rfl rfl (x_extract rfl rfl rfl) ?_)
                refine l_of (s_val (v := .slice pd43 ((ids3 B9 slots).length) cd44) (wt0 rfl) rfl rfl (x_assign rfl rfl) ?_)
                refine l_of (s_val (v := .int .i64 0) (wt0 rfl) rfl rfl (x_assign rfl rfl) ?_)
                refine g_nil ?_
                refine g_then ?_
                refine g_seq ?_
                refine g_seq ?_
                refine g_region ?_
                refine l_of (s_val (v := .int .i64 0) (wt0 rfl) rfl rfl (x_move rfl rfl) ?_)
                refine l_of (s_val (v := .bool (!decide ((0 : Int) = 0))) (wt0 rfl) rfl rfl (x_bin rfl rfl rfl b_neq) ?_)
                refine l_of (s_val (v := .bool (!decide ((0 : Int) = 0))) (wt0 rfl) rfl rfl (x_move rfl rfl) ?_)
                refine l_of (s_val (v := .slice pd43 ((ids3 B9 slots).length) cd44) (wt1 rfl rfl rfl rfl (nf rfl)) rfl rfl (x_move rfl rfl) ?_)
                refine l_of (s_val (v := .int .i64 (((ids3 B9 slots).length : Int))) (wt1 rfl rfl rfl rfl (nf rfl)) rfl rfl (x_lenl rfl rfl Tryz.underlying24) ?_)
                refine l_of (s_val (v := .int .i64 slots) (wt1 rfl rfl rfl rfl (nf rfl)) rfl rfl (x_move rfl rfl) ?_)
                refine l_of (s_val (v := .int .i64 ((n9 : Int))) (wt1 rfl rfl rfl rfl (nf rfl)) rfl rfl (x_move rfl rfl) ?_)
                refine l_of (s_val (v := .int .i64 (min slots (n9 : Int))) (wt1 rfl rfl rfl rfl (nf rfl)) rfl rfl (x_min rfl rfl rfl) ?_)
                refine l_of (s_val (v := .bool (!decide ((((ids3 B9 slots).length : Int) : Int) = min slots (n9 : Int)))) (wt1 rfl rfl rfl rfl (nf rfl)) rfl rfl (x_bin rfl rfl rfl b_neq) ?_)
                refine l_of (s_val (v := .bool (!decide ((((ids3 B9 slots).length : Int) : Int) = min slots (n9 : Int)))) (wt0 rfl) rfl rfl (x_pick_f rfl rfl (nf rfl) rfl) ?_)
                refine g_nil ?_
                refine g_then ?_
                refine g_weak [(0, .int .i64 slots), (1, .int .i64 ((n9 : Int))), (2, .string seed), (9, .slice pa n9 ca), (11, .map (some mg37)), (12, .int .i64 ((r : Int))), (13, .slice pd43 ((ids3 B9 slots).length) cd44), (58, .int .i64 ((n9 : Int))), (59, .int .i64 ((r : Int))), (79, .bool (!decide ((((ids3 B9 slots).length : Int) : Int) = min slots (n9 : Int))))] ⟨rfl, rfl, rfl, rfl, rfl, rfl, rfl, rfl, rfl, rfl, trivial⟩ ?_
                by_cases hb47 : (((ids3 B9 slots).length : Int) : Int) = min slots (n9 : Int)
                · skip
                  refine g_cond_f rfl (nf hb47) ?_
                  refine g_skip ?_
                  refine g_then ?_
                  refine g_seq ?_
                  refine g_region ?_
                  refine l_of (s_val (v := .slice pa n9 ca) (wt0 rfl) rfl rfl (x_move rfl rfl) ?_)
                  refine l_of (s_val (v := .int .i64 ((n9 : Int))) (wt0 rfl) rfl rfl (x_lenl rfl rfl Tryz.underlying22) ?_)
                  refine l_of (s_val (v := .int .i64 0) (wt0 rfl) rfl rfl (x_move rfl rfl) ?_)
                  refine g_nil ?_
                  refine g_then ?_
                  refine g_block ?_
                  refine g_loop (ι := Nat × List Rv × (Int → Option Bool)) (fun (i, C9, M2) => [(0, .int .i64 slots), (1, .int .i64 ((n9 : Int))), (2, .string seed), (9, .slice pa n9 ca), (11, .map (some mg37)), (12, .int .i64 ((r : Int))), (13, .slice pd43 ((ids3 B9 slots).length) cd44), (58, .int .i64 ((n9 : Int))), (59, .int .i64 ((r : Int))), (81, .int .i64 ((n9 : Int))), (82, .int .i64 ((i : Int)))]) (fun (i, C9, M2) wx => (i ≤ n9) ∧ (C9.length = n9) ∧ (∀ j z, j < i → B9[j]? = some z → C9[j]? = some ((updR r (ids3 B9 slots)) z)) ∧ (∀ j, i ≤ j → C9[j]? = B9[j]?) ∧ (∀ k, (∃ b, M2 k = some b) ↔ (∃ b, M k = some b) ∨ ∃ x ∈ B9.take i, x.id = k ∧ k ∈ (ids3 B9 slots)) ∧ S wx [Mp (Value.int .i64) Value.bool okI mg37 M2, Rw 30 10 pa n9 ca (fl rvL C9), Rw 3 1 pd43 ((ids3 B9 slots).length) cd44 (fl intL (ids3 B9 slots)), Old w no]) (fun (i, C9, M2) => n9 - i) (0, B9, M) ⟨rfl, rfl, rfl, rfl, rfl, rfl, rfl, rfl, rfl, rfl, rfl, trivial⟩ ⟨Nat.zero_le _, hL.len, (fun j z hj => absurd hj (Nat.not_lt_zero _)), (fun j _ => rfl), (fun k => by simp), (H46.takes [1, 2, 0, 3] (by decide))⟩ ?_
                  rintro ⟨i, C9, M2⟩ wq48 ⟨hi, hcl, hlo, hhi, hM2, H49⟩
                  replace H49 : S wq48 [Mp (Value.int .i64) Value.bool okI mg37 M2, Rw 30 10 pa n9 ca (fl rvL C9), Rw 3 1 pd43 ((ids3 B9 slots).length) cd44 (fl intL (ids3 B9 slots)), Old w no] := H49
                  refine g_weak [(0, .int .i64 slots), (1, .int .i64 ((n9 : Int))), (2, .string seed), (9, .slice pa n9 ca), (11, .map (some mg37)), (12, .int .i64 ((r : Int))), (13, .slice pd43 ((ids3 B9 slots).length) cd44), (58, .int .i64 ((n9 : Int))), (59, .int .i64 ((r : Int))), (81, .int .i64 ((n9 : Int))), (82, .int .i64 ((i : Int)))] ⟨rfl, rfl, rfl, rfl, rfl, rfl, rfl, rfl, rfl, rfl, rfl, trivial⟩ ?_
                  refine g_seq ?_
                  refine g_region ?_
                  refine l_of (s_val (v := .bool (decide (((i : Int) : Int) < (n9 : Int)))) (wt0 rfl) rfl rfl (x_bin rfl rfl rfl b_lss) ?_)
                  refine g_nil ?_
                  refine g_then ?_
                  refine g_seq ?_
                  by_cases hb50 : ((i : Int) : Int) < (n9 : Int)
                  · skip
                    refine g_cond_t rfl (decide_eq_true hb50) ?_
                    refine g_skip ?_
                    refine g_then ?_
                    refine g_seq ?_
                    refine g_block ?_
                    refine g_seq ?_
                    refine g_region ?_
                    refine l_of (s_val (v := .int .i64 ((i : Int))) (wt0 rfl) rfl rfl (x_move rfl rfl) ?_)
                    refine l_of (s_val (v := .int .i64 ((i : Int))) (wt0 rfl) rfl rfl (x_assign rfl rfl) ?_)
                    refine g_nil ?_
                    refine g_then ?_
                    refine g_seq ?_
                    refine g_region ?_
                    refine l_of (s_val (v := .slice pa n9 ca) (wt0 rfl) rfl rfl (x_move rfl rfl) ?_)
                    refine l_of (s_val (v := .int .i64 ((i : Int))) (wt0 rfl) rfl rfl (x_move rfl rfl) ?_)
                    refine l_of (s_val (v := .slice pa n9 ca) (wt0 rfl) rfl rfl (x_move rfl rfl) ?_)
                    refine l_of (s_val (v := .int .i64 ((i : Int))) (wt0 rfl) rfl rfl (x_move rfl rfl) ?_)
                    refine l_of (s_val (v := .pointer ((pa).map fun q => q.add (i * 10))) (wt0 rfl) rfl rfl (x_idxR i (H49.rwReads (k := 1) rfl) rfl rfl rfl Tryz.underlying22 sz30 (by omega)) ?_)
                    refine l_of (s_val (v := .pointer ((pa).map fun q => q.add (i * 10 + 8))) (wt0 rfl) rfl rfl (ex_cast (x_fieldAddrG (m := i * 10) ((H49.rwReads (k := 1) rfl).some (by omega)) rfl rfl fo30_8) rfl) ?_)
                    have hlq := (H49.rwReads (k := 1) rfl).lenL rvE
                    obtain ⟨x51, hx51⟩ := ex_at (l := C9) (j := i) (by omega)
                    clear hlq
                    refine l_of (s_fldL (i := 8) (j := i) rvE ({ x51 with now := false } : Rv) H49 1 (wt0 rfl) rfl rfl rfl rfl rfl hx51 rfl (by decide) sz4 rfl rfl ?_)
                    intro wq52 H53
                    replace H53 : S wq52 [Mp (Value.int .i64) Value.bool okI mg37 M2, Rw 30 10 pa n9 ca (fl rvL (C9.set i ({ x51 with now := false } : Rv))), Rw 3 1 pd43 ((ids3 B9 slots).length) cd44 (fl intL (ids3 B9 slots)), Old w no] := H53
                    refine l_of (s_val (v := .pointer ((pa).map fun q => q.add (i * 10))) (wt0 rfl) rfl rfl (x_idxR i (H53.rwReads (k := 1) rfl) rfl rfl rfl Tryz.underlying22 sz30 (by omega)) ?_)
                    refine l_of (s_val (v := .pointer ((pa).map fun q => q.add (i * 10 + 4))) (wt0 rfl) rfl rfl (ex_cast (x_fieldAddrG (m := i * 10) ((H53.rwReads (k := 1) rfl).some (by omega)) rfl rfl fo30_4) rfl) ?_)
                    refine l_of (s_fldL (i := 4) (j := i) rvE ({ ({ x51 with now := false } : Rv) with to := 0 } : Rv) H53 1 (wt0 rfl) rfl rfl rfl rfl rfl (set_at hx51) rfl (by decide) sz3 rfl rfl ?_)
                    intro wq54 H55
                    replace H55 : S wq54 [Mp (Value.int .i64) Value.bool okI mg37 M2, Rw 30 10 pa n9 ca (fl rvL ((C9.set i ({ x51 with now := false } : Rv)).set i ({ ({ x51 with now := false } : Rv) with to := 0 } : Rv))), Rw 3 1 pd43 ((ids3 B9 slots).length) cd44 (fl intL (ids3 B9 slots)), Old w no] := H55
                    refine g_nil ?_
                    refine g_then ?_
                    refine g_seq ?_
                    refine g_region ?_
                    refine l_of (s_val (v := .slice pd43 ((ids3 B9 slots).length) cd44) (wt0 rfl) rfl rfl (x_move rfl rfl) ?_)
                    refine l_of (s_val (v := .slice pa n9 ca) (wt0 rfl) rfl rfl (x_move rfl rfl) ?_)
                    refine l_of (s_val (v := .int .i64 ((i : Int))) (wt0 rfl) rfl rfl (x_move rfl rfl) ?_)
                    refine l_of (s_val (v := .pointer ((pa).map fun q => q.add (i * 10))) (wt0 rfl) rfl rfl (x_idxR i (H55.rwReads (k := 1) rfl) rfl rfl rfl Tryz.underlying22 sz30 (by omega)) ?_)
                    refine l_of (s_val (v := .pointer ((pa).map fun q => q.add (i * 10 + 0))) (wt0 rfl) rfl rfl (ex_cast (x_fieldAddrG (m := i * 10) ((H55.rwReads (k := 1) rfl).some (by omega)) rfl rfl fo30_0) rfl) ?_)
                    refine l_of (s_val (v := .int .i64 (({ ({ x51 with now := false } : Rv) with to := 0 } : Rv).id)) (wt0 rfl) rfl rfl (x_loadF1 (i := 0) (j := i) rvE (H55.rwReads (k := 1) rfl) (set_at (set_at hx51)) rfl rfl Tryz.underlying3 rfl rfl) ?_)
                    refine l_of (s_call (wt0 rfl) (x_call' rfl rfl cl9) (in_l (ids3 B9 slots) pd43 ((ids3 B9 slots).length) cd44 (({ ({ x51 with now := false } : Rv) with to := 0 } : Rv).id) (by omega) _ (H55.rwReads (k := 2) rfl)) ?_)
                    rintro _ wq56 ⟨rfl, H57⟩
                    replace H57 : S wq56 [Mp (Value.int .i64) Value.bool okI mg37 M2, Rw 30 10 pa n9 ca (fl rvL ((C9.set i ({ x51 with now := false } : Rv)).set i ({ ({ x51 with now := false } : Rv) with to := 0 } : Rv))), Rw 3 1 pd43 ((ids3 B9 slots).length) cd44 (fl intL (ids3 B9 slots)), Old w no] := H55.absorb (new := []) H57
                    refine b_ret rfl rfl ?_
                    refine g_nil ?_
                    refine g_then ?_
                    refine g_weak [(0, .int .i64 slots), (1, .int .i64 ((n9 : Int))), (2, .string seed), (9, .slice pa n9 ca), (11, .map (some mg37)), (12, .int .i64 ((r : Int))), (13, .slice pd43 ((ids3 B9 slots).length) cd44), (15, .int .i64 ((i : Int))), (58, .int .i64 ((n9 : Int))), (59, .int .i64 ((r : Int))), (81, .int .i64 ((n9 : Int))), (82, .int .i64 ((i : Int))), (99, .bool ((decide (({ ({ x51 with now := false } : Rv) with to := 0 } : Rv).id ∈ (ids3 B9 slots)))))] ⟨rfl, rfl, rfl, rfl, rfl, rfl, rfl, rfl, rfl, rfl, rfl, rfl, rfl, trivial⟩ ?_
                    rcases Bool.eq_false_or_eq_true ((decide (({ ({ x51 with now := false } : Rv) with to := 0 } : Rv).id ∈ (ids3 B9 slots)))) with hb58 | hb58
                    · skip
                      refine g_cond_t rfl hb58 ?_
                      refine g_seq ?_
                      refine g_region ?_
                      refine l_of (s_val (v := .map (some mg37)) (wt0 rfl) rfl rfl (x_move rfl rfl) ?_)
                      refine l_of (s_val (v := .slice pa n9 ca) (wt0 rfl) rfl rfl (x_move rfl rfl) ?_)
                      refine l_of (s_val (v := .int .i64 ((i : Int))) (wt0 rfl) rfl rfl (x_move rfl rfl) ?_)
                      refine l_of (s_val (v := .pointer ((pa).map fun q => q.add (i * 10))) (wt0 rfl) rfl rfl (x_idxR i (H57.rwReads (k := 1) rfl) rfl rfl rfl Tryz.underlying22 sz30 (by omega)) ?_)
                      refine l_of (s_val (v := .pointer ((pa).map fun q => q.add (i * 10 + 0))) (wt0 rfl) rfl rfl (ex_cast (x_fieldAddrG (m := i * 10) ((H57.rwReads (k := 1) rfl).some (by omega)) rfl rfl fo30_0) rfl) ?_)
                      refine l_of (s_val (v := .int .i64 (({ ({ x51 with now := false } : Rv) with to := 0 } : Rv).id)) (wt0 rfl) rfl rfl (x_loadF1 (i := 0) (j := i) rvE (H57.rwReads (k := 1) rfl) (set_at (set_at hx51)) rfl rfl Tryz.underlying3 rfl rfl) ?_)
                      refine l_of (s_mapUpdate (x := ({ ({ x51 with now := false } : Rv) with to := 0 } : Rv).id) (a := true) (intTy Tryz.underlying35 Tryz.underlying3) H57 0 (wt0 rfl) rfl rfl rfl rfl rfl rfl ((by have h8 := (hL.at_ i _ (by rw [← hhi i (Nat.le_refl _)]; exact hx51)).id; have h9 := hL.len; exact ⟨by show _ ≤ x51.id; omega, by show x51.id ≤ _; omega⟩)) ?_)
                      intro wq59 H60
                      replace H60 : S wq59 [Mp (Value.int .i64) Value.bool okI mg37 (upM M2 (({ ({ x51 with now := false } : Rv) with to := 0 } : Rv).id) true), Rw 30 10 pa n9 ca (fl rvL ((C9.set i ({ x51 with now := false } : Rv)).set i ({ ({ x51 with now := false } : Rv) with to := 0 } : Rv))), Rw 3 1 pd43 ((ids3 B9 slots).length) cd44 (fl intL (ids3 B9 slots)), Old w no] := H60
                      refine g_nil ?_
                      refine g_then ?_
                      refine g_region ?_
                      refine l_of (s_val (v := .slice pa n9 ca) (wt0 rfl) rfl rfl (x_move rfl rfl) ?_)
                      refine l_of (s_val (v := .int .i64 ((i : Int))) (wt0 rfl) rfl rfl (x_move rfl rfl) ?_)
                      refine l_of (s_val (v := .slice pa n9 ca) (wt0 rfl) rfl rfl (x_move rfl rfl) ?_)
                      refine l_of (s_val (v := .int .i64 ((i : Int))) (wt0 rfl) rfl rfl (x_move rfl rfl) ?_)
                      refine l_of (s_val (v := .slice pa n9 ca) (wt0 rfl) rfl rfl (x_move rfl rfl) ?_)
                      refine l_of (s_val (v := .int .i64 ((i : Int))) (wt0 rfl) rfl rfl (x_move rfl rfl) ?_)
                      refine l_of (s_val (v := .int .i64 ((r : Int))) (wt0 rfl) rfl rfl (x_move rfl rfl) ?_)
                      refine l_of (s_val (v := .pointer ((pa).map fun q => q.add (i * 10))) (wt0 rfl) rfl rfl (x_idxR i (H60.rwReads (k := 1) rfl) rfl rfl rfl Tryz.underlying22 sz30 (by omega)) ?_)
                      refine l_of (s_val (v := .pointer ((pa).map fun q => q.add (i * 10 + 8))) (wt0 rfl) rfl rfl (ex_cast (x_fieldAddrG (m := i * 10) ((H60.rwReads (k := 1) rfl).some (by omega)) rfl rfl fo30_8) rfl) ?_)
                      refine l_of (s_fldL (i := 8) (j := i) rvE ({ ({ ({ x51 with now := false } : Rv) with to := 0 } : Rv) with now := true } : Rv) H60 1 (wt0 rfl) rfl rfl rfl rfl rfl (set_at (set_at hx51)) rfl (by decide) sz4 rfl rfl ?_)
                      intro wq61 H62
                      replace H62 : S wq61 [Mp (Value.int .i64) Value.bool okI mg37 (upM M2 (({ ({ x51 with now := false } : Rv) with to := 0 } : Rv).id) true), Rw 30 10 pa n9 ca (fl rvL (((C9.set i ({ x51 with now := false } : Rv)).set i ({ ({ x51 with now := false } : Rv) with to := 0 } : Rv)).set i ({ ({ ({ x51 with now := false } : Rv) with to := 0 } : Rv) with now := true } : Rv))), Rw 3 1 pd43 ((ids3 B9 slots).length) cd44 (fl intL (ids3 B9 slots)), Old w no] := H62
                      refine l_of (s_val (v := .pointer ((pa).map fun q => q.add (i * 10))) (wt0 rfl) rfl rfl (x_idxR i (H62.rwReads (k := 1) rfl) rfl rfl rfl Tryz.underlying22 sz30 (by omega)) ?_)
                      refine l_of (s_val (v := .pointer ((pa).map fun q => q.add (i * 10 + 4))) (wt0 rfl) rfl rfl (ex_cast (x_fieldAddrG (m := i * 10) ((H62.rwReads (k := 1) rfl).some (by omega)) rfl rfl fo30_4) rfl) ?_)
                      refine l_of (s_fldL (i := 4) (j := i) rvE ({ ({ ({ ({ x51 with now := false } : Rv) with to := 0 } : Rv) with now := true } : Rv) with to := 16384 } : Rv) H62 1 (wt0 rfl) rfl rfl rfl rfl rfl (set_at (set_at (set_at hx51))) rfl (by decide) sz3 rfl rfl ?_)
                      intro wq63 H64
                      replace H64 : S wq63 [Mp (Value.int .i64) Value.bool okI mg37 (upM M2 (({ ({ x51 with now := false } : Rv) with to := 0 } : Rv).id) true), Rw 30 10 pa n9 ca (fl rvL ((((C9.set i ({ x51 with now := false } : Rv)).set i ({ ({ x51 with now := false } : Rv) with to := 0 } : Rv)).set i ({ ({ ({ x51 with now := false } : Rv) with to := 0 } : Rv) with now := true } : Rv)).set i ({ ({ ({ ({ x51 with now := false } : Rv) with to := 0 } : Rv) with now := true } : Rv) with to := 16384 } : Rv))), Rw 3 1 pd43 ((ids3 B9 slots).length) cd44 (fl intL (ids3 B9 slots)), Old w no] := H64
                      refine l_of (s_val (v := .pointer ((pa).map fun q => q.add (i * 10))) (wt0 rfl) rfl rfl (x_idxR i (H64.rwReads (k := 1) rfl) rfl rfl rfl Tryz.underlying22 sz30 (by omega)) ?_)
                      refine l_of (s_val (v := .pointer ((pa).map fun q => q.add (i * 10 + 5))) (wt0 rfl) rfl rfl (ex_cast (x_fieldAddrG (m := i * 10) ((H64.rwReads (k := 1) rfl).some (by omega)) rfl rfl fo30_5) rfl) ?_)
                      refine l_of (s_fldL (i := 5) (j := i) rvE ({ ({ ({ ({ ({ x51 with now := false } : Rv) with to := 0 } : Rv) with now := true } : Rv) with to := 16384 } : Rv) with lt := (r : Int) } : Rv) H64 1 (wt0 rfl) rfl rfl rfl rfl rfl (set_at (set_at (set_at (set_at hx51)))) rfl (by decide) sz3 rfl rfl ?_)
                      intro wq65 H66
                      replace H66 : S wq65 [Mp (Value.int .i64) Value.bool okI mg37 (upM M2 (({ ({ x51 with now := false } : Rv) with to := 0 } : Rv).id) true), Rw 30 10 pa n9 ca (fl rvL (((((C9.set i ({ x51 with now := false } : Rv)).set i ({ ({ x51 with now := false } : Rv) with to := 0 } : Rv)).set i ({ ({ ({ x51 with now := false } : Rv) with to := 0 } : Rv) with now := true } : Rv)).set i ({ ({ ({ ({ x51 with now := false } : Rv) with to := 0 } : Rv) with now := true } : Rv) with to := 16384 } : Rv)).set i ({ ({ ({ ({ ({ x51 with now := false } : Rv) with to := 0 } : Rv) with now := true } : Rv) with to := 16384 } : Rv) with lt := (r : Int) } : Rv))), Rw 3 1 pd43 ((ids3 B9 slots).length) cd44 (fl intL (ids3 B9 slots)), Old w no] := H66
                      refine g_nil ?_
                      refine g_in ?_
                      refine g_then ?_
                      refine g_weak [(0, .int .i64 slots), (1, .int .i64 ((n9 : Int))), (2, .string seed), (9, .slice pa n9 ca), (11, .map (some mg37)), (12, .int .i64 ((r : Int))), (13, .slice pd43 ((ids3 B9 slots).length) cd44), (58, .int .i64 ((n9 : Int))), (59, .int .i64 ((r : Int))), (81, .int .i64 ((n9 : Int))), (82, .int .i64 ((i : Int)))] ⟨rfl, rfl, rfl, rfl, rfl, rfl, rfl, rfl, rfl, rfl, rfl, trivial⟩ ?_
                      refine g_region ?_
                      refine l_of (s_val (v := .int .i64 (((i + 1 : Nat) : Int))) (wt0 rfl) rfl rfl (x_bin rfl rfl rfl (b_add (by rw [w64 (by omega)]; omega))) ?_)
                      refine l_of (s_val (v := .int .i64 (((i + 1 : Nat) : Int))) (wt0 rfl) rfl rfl (x_move rfl rfl) ?_)
                      refine g_nil ?_
                      refine g_then ?_
                      refine g_round (i := (i, C9, M2)) ((i + 1), (((((C9.set i ({ x51 with now := false } : Rv)).set i ({ ({ x51 with now := false } : Rv) with to := 0 } : Rv)).set i ({ ({ ({ x51 with now := false } : Rv) with to := 0 } : Rv) with now := true } : Rv)).set i ({ ({ ({ ({ x51 with now := false } : Rv) with to := 0 } : Rv) with now := true } : Rv) with to := 16384 } : Rv)).set i ({ ({ ({ ({ ({ x51 with now := false } : Rv) with to := 0 } : Rv) with now := true } : Rv) with to := 16384 } : Rv) with lt := (r : Int) } : Rv)), (upM M2 (({ ({ x51 with now := false } : Rv) with to := 0 } : Rv).id) true)) ?_ ?_ ?_
                      · exact ⟨rfl, rfl, rfl, rfl, rfl, rfl, rfl, rfl, rfl, rfl, rfl, trivial⟩
                      · exact ⟨by omega, (by simp only [List.length_set]; exact hcl), (by simp only [List.set_set]; exact up_lo hlo hhi hx51 (by unfold updR; rw [if_pos (of_decide_eq_true hb58)])), (by simp only [List.set_set]; exact up_hi hhi), (fun k => by rw [upM_some, hM2, mem_up hhi hx51 (of_decide_eq_true hb58)]), (H66.takes [0, 1, 2, 3] (by decide))⟩
                      · (try dsimp only); omega
                    · skip
                      refine g_cond_f rfl hb58 ?_
                      refine g_skip ?_
                      refine g_in ?_
                      refine g_then ?_
                      refine g_region ?_
                      refine l_of (s_val (v := .int .i64 (((i + 1 : Nat) : Int))) (wt0 rfl) rfl rfl (x_bin rfl rfl rfl (b_add (by rw [w64 (by omega)]; omega))) ?_)
                      refine l_of (s_val (v := .int .i64 (((i + 1 : Nat) : Int))) (wt0 rfl) rfl rfl (x_move rfl rfl) ?_)
                      refine g_nil ?_
                      refine g_then ?_
                      refine g_round (i := (i, C9, M2)) ((i + 1), ((C9.set i ({ x51 with now := false } : Rv)).set i ({ ({ x51 with now := false } : Rv) with to := 0 } : Rv)), M2) ?_ ?_ ?_
                      · exact ⟨rfl, rfl, rfl, rfl, rfl, rfl, rfl, rfl, rfl, rfl, rfl, trivial⟩
                      · exact ⟨by omega, (by simp only [List.length_set]; exact hcl), (by simp only [List.set_set]; exact up_lo hlo hhi hx51 (by unfold updR; rw [if_neg (of_decide_eq_false hb58)])), (by simp only [List.set_set]; exact up_hi hhi), (fun k => by rw [hM2, mem_no hhi hx51 (of_decide_eq_false hb58)]), (H57.takes [0, 1, 2, 3] (by decide))⟩
                      · (try dsimp only); omega
                  · skip
                    refine g_cond_f rfl (decide_eq_false hb50) ?_
                    refine g_exit ?_
                    have hL2 : LI C9 n9 (r + 1) M2 := by rw [up_end (hcl.trans hL.len.symm) (fun j z hj hz => hlo j z (by have := hL.len; omega) hz)]; exact hL.round (by omega) (by omega) (by omega) (fun k => by rw [hM2, List.take_of_length_le (by have := hL.len; omega)])
                    refine g_then_exit ?_
                    refine g_then_exit ?_
                    refine g_in_hit ?_
                    refine g_in ?_
                    refine g_then ?_
                    refine g_region ?_
                    refine l_of (s_val (v := .int .i64 (((r + 1 : Nat) : Int))) (wt0 rfl) rfl rfl (x_bin rfl rfl rfl (b_add (by rw [w64 (by omega)]; omega))) ?_)
                    refine l_of (s_val (v := .int .i64 (((r + 1 : Nat) : Int))) (wt0 rfl) rfl rfl (x_move rfl rfl) ?_)
                    refine g_nil ?_
                    refine g_then ?_
                    refine g_round (i := (r, B9, M)) ((r + 1), C9, M2) ?_ ?_ ?_
                    · exact ⟨rfl, rfl, rfl, rfl, rfl, rfl, rfl, trivial⟩
                    · exact ⟨(by omega), hL2, (H49.takes [0, 1, 3] (by decide))⟩
                    · (try dsimp only); omega
                · skip
                  refine g_cond_t rfl (nt hb47) ?_
                  refine g_seq ?_
                  refine g_region ?_
                  refine l_of (s_val (v := .bool false) (wt0 rfl) rfl rfl (x_assign rfl rfl) ?_)
                  refine g_nil ?_
                  refine g_then ?_
                  refine g_ret ?_
                  refine g_then_ret ?_
                  refine g_in_ret ?_
                  refine g_then_ret ?_
                  refine g_then_ret ?_
                  refine g_in_ret ?_
                  refine g_then_ret ?_
                  refine fin_ret [.tmp 8] [.bool false] rfl ⟨rfl, trivial⟩ ?_
                  exfalso
                  first | omega | (have := hL.got (slots := slots) (by omega); omega)
              · skip
                refine g_cond_f rfl (decide_eq_false hb42) ?_
                refine g_exit ?_
                refine g_then_exit ?_
                refine g_then_exit ?_
                refine g_in_hit ?_
                refine g_then ?_
                refine g_seq ?_
                refine g_region ?_
                refine l_of (s_val (v := .map (some mg37)) (wt0 rfl) rfl rfl (x_move rfl rfl) ?_)
                refine l_of (s_lenMap H41 0 (wt0 rfl) rfl rfl rfl rfl rfl Tryz.underlying35 ?_)
                intro nk67 hnk67
                refine l_of (s_val (v := .int .i64 ((n9 : Int))) (wt0 rfl) rfl rfl (x_move rfl rfl) ?_)
                refine l_of (s_val (v := .bool (decide (((nk67 : Int) : Int) = (n9 : Int)))) (wt0 rfl) rfl rfl (x_bin rfl rfl rfl b_eql) ?_)
                refine l_of (s_val (v := .bool (decide (((nk67 : Int) : Int) = (n9 : Int)))) (wt0 rfl) rfl rfl (x_move rfl rfl) ?_)
                by_cases hb68 : ((nk67 : Int) : Int) = (n9 : Int)
                · skip
                  refine l_of (s_call (wt1 rfl rfl rfl rfl (decide_eq_true hb68)) (x_call' rfl rfl cl6) (awake_s _) ?_)
                  rintro _ wq69 ⟨rfl, H70⟩
                  replace H70 : S wq69 [Mp (Value.int .i64) Value.bool okI mg37 M, Rw 30 10 pa n9 ca (fl rvL B9), Old w no] := H41.absorb (new := []) H70
                  refine b_ret rfl rfl ?_
                  refine l_of (s_val (v := .bool true) (wt0 rfl) rfl rfl (x_pick_t rfl rfl (decide_eq_true hb68) rfl) ?_)
                  refine l_of (s_val (v := .bool true) (wt0 rfl) rfl rfl (x_assign rfl rfl) ?_)
                  refine g_nil ?_
                  refine g_then ?_
                  refine g_weak [(8, .bool true)] ⟨rfl, trivial⟩ ?_
                  refine g_ret ?_
                  refine fin_ret [.tmp 8] [.bool true] rfl ⟨rfl, trivial⟩ ?_
                  exact ⟨rfl, H70.mask [false, false, true]⟩
                · skip
                  refine l_of (s_not (wn1 rfl rfl rfl rfl (decide_eq_false hb68)) rfl rfl ?_)
                  refine l_of (s_val (v := .bool false) (wt0 rfl) rfl rfl (x_pick_f rfl rfl (decide_eq_false hb68) rfl) ?_)
                  refine l_of (s_val (v := .bool false) (wt0 rfl) rfl rfl (x_assign rfl rfl) ?_)
                  refine g_nil ?_
                  refine g_then ?_
                  refine g_weak [(8, .bool false)] ⟨rfl, trivial⟩ ?_
                  refine g_ret ?_
                  refine fin_ret [.tmp 8] [.bool false] rfl ⟨rfl, trivial⟩ ?_
                  exfalso
                  have hrn : r = n9 := by omega
                  subst hrn
                  have := hL.end_ (by omega) hnk67
                  omega
end Go.Proofs.YthfglkkjkpdkpaaGreatDoor
