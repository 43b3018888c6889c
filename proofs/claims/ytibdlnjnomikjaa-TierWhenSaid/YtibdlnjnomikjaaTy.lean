import Derived.Test.YtibdlnjnomikjaaTx
set_option linter.unusedSimpArgs false
set_option linter.unusedVariables false
namespace Go.Proofs.Ytibdlnjnomikjaa
open Go.RowKit

theorem cl10 : callable Try.prog 10 = true := by kernel_rfl
theorem cl11 : callable Try.prog 11 = true := by kernel_rfl
theorem cl12 : callable Try.prog 12 = true := by kernel_rfl
theorem cl13 : callable Try.prog 13 = true := by kernel_rfl
theorem cl14 : callable Try.prog 14 = true := by kernel_rfl
theorem cl15 : callable Try.prog 15 = true := by kernel_rfl
theorem cl7 : callable Try.prog 7 = true := by kernel_rfl
theorem cl8 : callable Try.prog 8 = true := by kernel_rfl
theorem cl9 : callable Try.prog 9 = true := by kernel_rfl
theorem fo34_0 : foO Try.prog 34 0 = some 0 := by kernel_rfl
theorem fo34_1 : foO Try.prog 34 1 = some 1 := by kernel_rfl
theorem tellS_ok {a b : Int} (h : a ≤ b) (h2 : b ≤ 1000000000) : tellS a b = 0 := by
  unfold tellS; rw [if_neg (by omega)]
theorem look_I (x : Option Int) : (x.map (fun x : Int => Value.int .i64 x)).getD (.int .i64 0) = .int .i64 (x.getD 0) := by cases x <;> rfl
theorem tmod_lt (x : Int) {m : Int} (h : 0 < m) : -m < x.tmod m ∧ x.tmod m < m := by
  refine ⟨?_, Int.tmod_lt_of_pos x h⟩
  exact Int.lt_tmod_of_pos x h
theorem front_first {x : Nat} {l : List Nat} (h : x ∈ l) : (frontL x l)[0]? = some x := by
  unfold frontL; rw [if_pos h]; rfl
theorem names_at {tk : Nat → Tk} {l : List Nat} {k x : Nat} (h : l[k]? = some x) : (namesT tk l)[k]? = some (tk x).name := by
  unfold namesT; rw [List.getElem?_map, h]; rfl
theorem fail_f {g nr C y : Nat} {P : Option Addr} {mp : Value} {ev now til n : Int} {begun whole dn stopped : Bool} {gs : List Nat} {tk : Nat → Tk} (hy : y ∈ gs) (h0 : 0 ≤ (tk y).failed) (h1 : (tk y).failed ≤ 100000) (h2 : 0 ≤ now) (w : World) (HS : S w [Ob g (.cells #[.pointer (some ⟨y, 0, none⟩), .int .i64 ev, .slice P nr C, mp, .int .i64 now, .int .i64 til, .bool begun, .bool whole, .bool dn, .bool stopped] 64 (0, 0)), Fam 71 Tk.cells gs tk]) : Calls Try.prog 14 #[.pointer (some ⟨g, 0, none⟩), .int .i64 n] w fun e w' =>
    (tellS now n ≠ 0 ∧ e = .returned (.int .i64 (tellS now n)) ∧ S w' ([Ob g (.cells #[.pointer (some ⟨y, 0, none⟩), .int .i64 ev, .slice P nr C, mp, .int .i64 now, .int .i64 til, .bool begun, .bool whole, .bool dn, .bool stopped] 64 (0, 0)), Fam 71 Tk.cells gs tk] ++ [Old w (fps [Ob g (.cells #[.pointer (some ⟨y, 0, none⟩), .int .i64 ev, .slice P nr C, mp, .int .i64 now, .int .i64 til, .bool begun, .bool whole, .bool dn, .bool stopped] 64 (0, 0)), Fam 71 Tk.cells gs tk])])) ∨ (tellS now n = 0 ∧ e = .returned (.int .i64 0) ∧ S w' ([Ob g (.cells #[.pointer none, .int .i64 0, .slice P nr C, mp, .int .i64 n, .int .i64 til, .bool begun, .bool whole, .bool dn, .bool stopped] 64 (0, 0)), Fam 71 Tk.cells gs (upd tk y ⟨(tk y).name, (tk y).failed + 1, n + waitS ((tk y).failed + 1), (tk y).ans, (tk y).told || decide (ev = 2)⟩)] ++ [Old w (fps [Ob g (.cells #[.pointer (some ⟨y, 0, none⟩), .int .i64 ev, .slice P nr C, mp, .int .i64 now, .int .i64 til, .bool begun, .bool whole, .bool dn, .bool stopped] 64 (0, 0)), Fam 71 Tk.cells gs tk])])) := by
  have H0 := HS.beginI
  have H1 : S w [Ob y (.cells (Tk.cells (tk y)) 71 (0, 0)), Fam 71 Tk.cells (gs.erase y) tk, Ob g (.cells #[.pointer (some ⟨y, 0, none⟩), .int .i64 ev, .slice P nr C, mp, .int .i64 now, .int .i64 til, .bool begun, .bool whole, .bool dn, .bool stopped] 64 (0, 0)), Old w (fps [Ob g (.cells #[.pointer (some ⟨y, 0, none⟩), .int .i64 ev, .slice P nr C, mp, .int .i64 now, .int .i64 til, .bool begun, .bool whole, .bool dn, .bool stopped] 64 (0, 0)), Fam 71 Tk.cells gs tk])] := S.famOut (e := 71) (enc := Tk.cells) (gs := gs) (tk := tk) (H0.takes [1, 0, 2] (by decide)) hy
  refine (fail_s h0 h1 h2 w (H1.takes [2, 0] (by decide))).mono ?_
  rintro e w' (⟨a, b, H⟩ | ⟨a, b, H⟩)
  · have H2 : S w' [Ob g (.cells #[.pointer (some ⟨y, 0, none⟩), .int .i64 ev, .slice P nr C, mp, .int .i64 now, .int .i64 til, .bool begun, .bool whole, .bool dn, .bool stopped] 64 (0, 0)), Ob y (.cells (Tk.cells (tk y)) 71 (0, 0)), Fam 71 Tk.cells (gs.erase y) tk, Old w (fps [Ob g (.cells #[.pointer (some ⟨y, 0, none⟩), .int .i64 ev, .slice P nr C, mp, .int .i64 now, .int .i64 til, .bool begun, .bool whole, .bool dn, .bool stopped] 64 (0, 0)), Fam 71 Tk.cells gs tk])] := H1.absorbI (new := [Ob g (.cells #[.pointer (some ⟨y, 0, none⟩), .int .i64 ev, .slice P nr C, mp, .int .i64 now, .int .i64 til, .bool begun, .bool whole, .bool dn, .bool stopped] 64 (0, 0)), Ob y (.cells (Tk.cells (tk y)) 71 (0, 0))]) [2, 0] H
    exact .inl ⟨a, b, (S.famIn0 (e := 71) (enc := Tk.cells) (gs := gs) (tk := tk) (x := y) (H2.takes [1, 2, 0, 3] (by decide)) hy).takes [1, 0, 2] (by decide)⟩
  · have H2 : S w' [Ob g (.cells #[.pointer none, .int .i64 0, .slice P nr C, mp, .int .i64 n, .int .i64 til, .bool begun, .bool whole, .bool dn, .bool stopped] 64 (0, 0)), Ob y (.cells (Tk.cells ⟨(tk y).name, (tk y).failed + 1, n + waitS ((tk y).failed + 1), (tk y).ans, (tk y).told || decide (ev = 2)⟩) 71 (0, 0)), Fam 71 Tk.cells (gs.erase y) tk, Old w (fps [Ob g (.cells #[.pointer (some ⟨y, 0, none⟩), .int .i64 ev, .slice P nr C, mp, .int .i64 now, .int .i64 til, .bool begun, .bool whole, .bool dn, .bool stopped] 64 (0, 0)), Fam 71 Tk.cells gs tk])] := H1.absorbI (new := [Ob g (.cells #[.pointer none, .int .i64 0, .slice P nr C, mp, .int .i64 n, .int .i64 til, .bool begun, .bool whole, .bool dn, .bool stopped] 64 (0, 0)), Ob y (.cells (Tk.cells ⟨(tk y).name, (tk y).failed + 1, n + waitS ((tk y).failed + 1), (tk y).ans, (tk y).told || decide (ev = 2)⟩) 71 (0, 0))]) [2, 0] H
    exact .inr ⟨a, b, (S.famIn (e := 71) (enc := Tk.cells) (gs := gs) (tk := tk) (x := y) (a := ⟨(tk y).name, (tk y).failed + 1, n + waitS ((tk y).failed + 1), (tk y).ans, (tk y).told || decide (ev = 2)⟩) (H2.takes [1, 2, 0, 3] (by decide)) hy).takes [1, 0, 2] (by decide)⟩
theorem wi_start {seed : ByteArray} {ls : List (Ro ByteArray)} {rows : Rws} {tk : Nat → Tk} {M : ByteArray → Option Nat} (hs : Sane rows tk) (h : NewI seed ls ls.length rows [] 0 tk M) : WI 0 rows tk 0 0 0 (fun _ => none) (fun _ => none) := by
  refine ⟨hs, by omega, by omega, by omega, fun x hx => ?_, fun x hx => ?_⟩
  · have hf := h.fresh x (List.mem_append_left _ hx)
    rw [hf]; dsimp only; omega
  · have hf := h.fresh x (List.mem_append_left _ hx)
    rw [hf]; exact ⟨rfl, fun h => absurd h (Int.lt_irrefl 0)⟩
def intsV (l : List Int) : List Value := l.map fun x => .int .i64 x
theorem ints_at {l : List Int} {j : Nat} {x : Int} (h : l[j]? = some x) : (intsV l)[j * 1]? = some (.int .i64 x) := by
  unfold intsV; rw [Nat.mul_one, List.getElem?_map, h]; rfl
set_option maxRecDepth 20000 in
set_option maxHeartbeats 4000000 in
set_option maxRecDepth 20000 in
set_option maxHeartbeats 4000000 in
theorem when_law (seed : ByteArray) (ls : List (Ro ByteArray)) (p : Option Addr) (n c : Nat) (hn : n = ls.length) (hn2 : n ≤ 9223372036854775807) (hln : ∀ r ∈ ls, r.l.length ≤ 9223372036854775807) (es : List Int) (pe : Option Addr) (ne ce : Nat) (hne : ne = es.length) (hne2 : ne ≤ 9223372036854775807) (w : World) (hr : Reads w p n c 1 (rosV ls)) (hrs : ∀ r ∈ ls, Reads w r.p r.l.length r.c 1 (stV r.l)) (he : Reads w pe ne ce 1 (intsV es)) : Calls Try.prog 3 #[.string seed, .slice p n c, .slice pe ne ce] w fun e w' => e = .returned (.bool true) ∧ S w' [Old w no] := by
  have H0 := S.old w
  refine enter 185 Try.func3 rfl rfl rfl ?_
  refine g_weak [(0, .string seed), (1, .slice p n c), (2, .slice pe ne ce)] ⟨rfl, rfl, rfl, trivial⟩ ?_
  refine g_seq ?_
  refine g_region ?_
  refine l_of (s_val (v := .bool false) (wt0 rfl) rfl rfl (x_assign rfl rfl) ?_)
  refine g_nil ?_
  refine g_then ?_
  refine g_seq ?_
  refine g_seq ?_
  refine g_region ?_
  refine l_of (s_val (v := .slice p n c) (wt0 rfl) rfl rfl (x_move rfl rfl) ?_)
  refine l_of (s_call (wt0 rfl) (x_call' rfl rfl cl7) (light_s ls p n c hn [] none 0 0 rfl hn2 (Nat.zero_le _) hln _ (H0.oldReads (k := 0) rfl hr) (fun r hr => H0.oldReads (k := 0) rfl (hrs r hr)) ⟨rfl, Nat.le_refl _, fun h => absurd h (Nat.lt_irrefl _)⟩) ?_)
  rintro ee3 wq1 hor4
  rcases hor4 with ⟨hL9, rfl, H2⟩ | ⟨rfl, H2⟩
  · skip
    replace H2 : S wq1 [Old w no] := H0.absorb (new := []) H2
    have hL1 := hL9.1
    refine b_ret rfl rfl ?_
    refine l_of (s_val (v := .bool false) (wt0 rfl) rfl rfl (x_not (b := true) rfl rfl) ?_)
    refine l_of (s_val (v := .bool false) (wt0 rfl) rfl rfl (x_move rfl rfl) ?_)
    refine l_of (s_val (v := .slice pe ne ce) (wt1 rfl rfl rfl rfl rfl) rfl rfl (x_move rfl rfl) ?_)
    refine l_of (s_val (v := .int .i64 ((ne : Int))) (wt1 rfl rfl rfl rfl rfl) rfl rfl (x_lenl rfl rfl Try.underlying23) ?_)
    refine l_of (s_val (v := .bool (decide ((40 : Int) < (ne : Int)))) (wt1 rfl rfl rfl rfl rfl) rfl rfl (x_bin rfl rfl rfl b_gtr) ?_)
    refine l_of (s_val (v := .bool (decide ((40 : Int) < (ne : Int)))) (wt0 rfl) rfl rfl (x_pick_f rfl rfl rfl rfl) ?_)
    refine l_of (s_val (v := .bool (decide ((40 : Int) < (ne : Int)))) (wt0 rfl) rfl rfl (x_move rfl rfl) ?_)
    by_cases hb5 : (40 : Int) < (ne : Int)
    · skip
      refine l_of (s_not (wn1 rfl rfl rfl rfl (decide_eq_true hb5)) rfl rfl ?_)
      refine l_of (s_not (wn1 rfl rfl rfl rfl (decide_eq_true hb5)) rfl rfl ?_)
      refine l_of (s_not (wn1 rfl rfl rfl rfl (decide_eq_true hb5)) rfl rfl ?_)
      refine l_of (s_val (v := .bool true) (wt0 rfl) rfl rfl (x_pick_t rfl rfl (decide_eq_true hb5) rfl) ?_)
      refine g_nil ?_
      refine g_then ?_
      refine g_weak [(0, .string seed), (1, .slice p n c), (2, .slice pe ne ce), (33, .bool true)] ⟨rfl, rfl, rfl, rfl, trivial⟩ ?_
      refine g_cond_t rfl rfl ?_
      refine g_seq ?_
      refine g_region ?_
      refine l_of (s_call (wt0 rfl) (x_call' rfl rfl cl8) (awake_s _) ?_)
      rintro _ wq6 ⟨rfl, H7⟩
      replace H7 : S wq6 [Old w no] := H2.absorb (new := []) H7
      refine b_ret rfl rfl ?_
      refine l_of (s_val (v := .bool true) (wt0 rfl) rfl rfl (x_assign rfl rfl) ?_)
      refine g_nil ?_
      refine g_then ?_
      refine g_ret ?_
      refine g_then_ret ?_
      refine fin_ret [.tmp 6] [.bool true] rfl ⟨rfl, trivial⟩ ?_
      exact ⟨rfl, H7.mask [true]⟩
    · skip
      refine l_of (s_val (v := .string seed) (wt1 rfl rfl rfl rfl (decide_eq_false hb5)) rfl rfl (x_move rfl rfl) ?_)
      refine l_of (s_val (v := .int .i64 ((seed.size : Int))) (wt1 rfl rfl rfl rfl (decide_eq_false hb5)) rfl rfl (x_lens rfl rfl Try.underlying9) ?_)
      refine l_of (s_val (v := .bool (decide ((100 : Int) < (seed.size : Int)))) (wt1 rfl rfl rfl rfl (decide_eq_false hb5)) rfl rfl (x_bin rfl rfl rfl b_gtr) ?_)
      refine l_of (s_val (v := .bool (decide ((100 : Int) < (seed.size : Int)))) (wt0 rfl) rfl rfl (x_pick_f rfl rfl (decide_eq_false hb5) rfl) ?_)
      refine g_nil ?_
      refine g_then ?_
      refine g_weak [(0, .string seed), (1, .slice p n c), (2, .slice pe ne ce), (33, .bool (decide ((100 : Int) < (seed.size : Int))))] ⟨rfl, rfl, rfl, rfl, trivial⟩ ?_
      by_cases hb8 : (100 : Int) < (seed.size : Int)
      · skip
        refine g_cond_t rfl (decide_eq_true hb8) ?_
        refine g_seq ?_
        refine g_region ?_
        refine l_of (s_call (wt0 rfl) (x_call' rfl rfl cl8) (awake_s _) ?_)
        rintro _ wq9 ⟨rfl, H10⟩
        replace H10 : S wq9 [Old w no] := H2.absorb (new := []) H10
        refine b_ret rfl rfl ?_
        refine l_of (s_val (v := .bool true) (wt0 rfl) rfl rfl (x_assign rfl rfl) ?_)
        refine g_nil ?_
        refine g_then ?_
        refine g_ret ?_
        refine g_then_ret ?_
        refine fin_ret [.tmp 6] [.bool true] rfl ⟨rfl, trivial⟩ ?_
        exact ⟨rfl, H10.mask [true]⟩
      · skip
        refine g_cond_f rfl (decide_eq_false hb8) ?_
        refine g_skip ?_
        refine g_then ?_
        refine g_seq ?_
        refine g_region ?_
        refine l_of (s_val (v := .string seed) (wt0 rfl) rfl rfl (x_move rfl rfl) ?_)
        refine l_of (s_val (v := .slice p n c) (wt0 rfl) rfl rfl (x_move rfl rfl) ?_)
        refine l_of (s_call (wt0 rfl) (x_call' rfl rfl cl9) (new_s _ (by omega) ls p n c hn (by omega) (fun r hr => ⟨by have := hL9.2.1 r hr; omega, fun s hs => by have := (hL9.2.1 r hr).2 s hs; omega⟩) false _ (H2.oldReads (k := 0) rfl hr) (fun r hr => H2.oldReads (k := 0) rfl (hrs r hr))) ?_)
        rintro ee13 wq11 hor14
        rcases hor14 with ⟨hbad, rfl, H12⟩ | ⟨g, mg, nr, C, P, rows, tk, M, hsd, hgood, hnew, hnr, rfl, H12⟩
        · skip
          replace H12 : S wq11 [Old w no] := H2.absorb (new := []) H12
          refine b_ret rfl rfl ?_
          refine l_of (s_val (v := .tuple #[.pointer none, .int .i64 1]) (wt0 rfl) rfl rfl (x_move rfl rfl) ?_)
          refine l_of (s_val (v := .pointer none) (wt0 rfl) rfl rfl (x_extract rfl rfl rfl) ?_)
          refine l_of (s_val (v := .int .i64 1) (wt0 rfl) rfl rfl (x_extract rfl rfl rfl) ?_)
          refine l_of (s_val (v := .pointer none) (wt0 rfl) rfl rfl (x_assign rfl rfl) ?_)
          refine l_of (s_val (v := .int .i64 1) (wt0 rfl) rfl rfl (x_assign rfl rfl) ?_)
          refine g_nil ?_
          refine g_then ?_
          refine g_seq ?_
          refine g_seq ?_
          refine g_region ?_
          refine l_of (s_val (v := .int .i64 1) (wt0 rfl) rfl rfl (x_move rfl rfl) ?_)
          refine l_of (s_val (v := .bool (!decide ((1 : Int) = 0))) (wt0 rfl) rfl rfl (x_bin rfl rfl rfl b_neq) ?_)
          refine g_nil ?_
          refine g_then ?_
          refine g_cond_t rfl (by decide) ?_
          refine g_seq ?_
          refine g_region ?_
          refine l_of (s_call (wt0 rfl) (x_call' rfl rfl cl8) (awake_s _) ?_)
          rintro _ wq15 ⟨rfl, H16⟩
          replace H16 : S wq15 [Old w no] := H12.absorb (new := []) H16
          refine b_ret rfl rfl ?_
          refine l_of (s_val (v := .bool true) (wt0 rfl) rfl rfl (x_assign rfl rfl) ?_)
          refine g_nil ?_
          refine g_then ?_
          refine g_weak [(6, .bool true)] ⟨rfl, trivial⟩ ?_
          refine g_ret ?_
          refine g_then_ret ?_
          refine fin_ret [.tmp 6] [.bool true] rfl ⟨rfl, trivial⟩ ?_
          exact ⟨rfl, H16.mask [true]⟩
        · skip
          replace H12 : S wq11 [Ob g (.cells #[.pointer none, .int .i64 0, .slice P nr C, (.map (some mg)), .int .i64 0, .int .i64 0, .bool false, .bool false, .bool false, .bool false] 64 (0, 0)), Rw 68 1 P nr C (rosV rows), RowsI 59 1 ptL rows, Fam 71 Tk.cells (adr rows) tk, Mp Value.string (fun x : Nat => Value.pointer (some ⟨x, 0, none⟩)) okT mg M, Old w no] := H2.absorb (new := [Ob g (.cells #[.pointer none, .int .i64 0, .slice P nr C, (.map (some mg)), .int .i64 0, .int .i64 0, .bool false, .bool false, .bool false, .bool false] 64 (0, 0)), Rw 68 1 P nr C (rosV rows), RowsI 59 1 ptL rows, Fam 71 Tk.cells (adr rows) tk, Mp Value.string (fun x : Nat => Value.pointer (some ⟨x, 0, none⟩)) okT mg M]) H12
          have hg1 := hgood.1
          have hg2 := hgood.2.1
          unfold tlsOf at hg1 hg2
          rw [List.length_map] at hg1 hg2
          have hsane := sane_new hnew hg1 hg2
          refine b_ret rfl rfl ?_
          refine l_of (s_val (v := .tuple #[.pointer (some ⟨g, 0, none⟩), .int .i64 0]) (wt0 rfl) rfl rfl (x_move rfl rfl) ?_)
          refine l_of (s_val (v := .pointer (some ⟨g, 0, none⟩)) (wt0 rfl) rfl rfl (x_extract rfl rfl rfl) ?_)
          refine l_of (s_val (v := .int .i64 0) (wt0 rfl) rfl rfl (x_extract rfl rfl rfl) ?_)
          refine l_of (s_val (v := .pointer (some ⟨g, 0, none⟩)) (wt0 rfl) rfl rfl (x_assign rfl rfl) ?_)
          refine l_of (s_val (v := .int .i64 0) (wt0 rfl) rfl rfl (x_assign rfl rfl) ?_)
          refine g_nil ?_
          refine g_then ?_
          refine g_seq ?_
          refine g_seq ?_
          refine g_region ?_
          refine l_of (s_val (v := .int .i64 0) (wt0 rfl) rfl rfl (x_move rfl rfl) ?_)
          refine l_of (s_val (v := .bool (!decide ((0 : Int) = 0))) (wt0 rfl) rfl rfl (x_bin rfl rfl rfl b_neq) ?_)
          refine g_nil ?_
          refine g_then ?_
          refine g_cond_f rfl (nf rfl) ?_
          refine g_skip ?_
          refine g_then ?_
          refine g_weak [(2, .slice pe ne ce), (7, .pointer (some ⟨g, 0, none⟩))] ⟨rfl, rfl, trivial⟩ ?_
          refine g_seq ?_
          refine g_region ?_
          refine l_of (s_makeMap (α := Int) Value.string (fun x : Int => Value.int .i64 x) okT H12 (wt0 rfl) rfl rfl rfl ?_)
          intro mf wq17 H18
          replace H18 : S wq17 [Mp Value.string (fun x : Int => Value.int .i64 x) okT mf (fun _ => none), Ob g (.cells #[.pointer none, .int .i64 0, .slice P nr C, (.map (some mg)), .int .i64 0, .int .i64 0, .bool false, .bool false, .bool false, .bool false] 64 (0, 0)), Rw 68 1 P nr C (rosV rows), RowsI 59 1 ptL rows, Fam 71 Tk.cells (adr rows) tk, Mp Value.string (fun x : Nat => Value.pointer (some ⟨x, 0, none⟩)) okT mg M, Old w no] := H18
          refine l_of (s_makeMap (α := Int) Value.string (fun x : Int => Value.int .i64 x) okT H18 (wt0 rfl) rfl rfl rfl ?_)
          intro ma wq19 H20
          replace H20 : S wq19 [Mp Value.string (fun x : Int => Value.int .i64 x) okT ma (fun _ => none), Mp Value.string (fun x : Int => Value.int .i64 x) okT mf (fun _ => none), Ob g (.cells #[.pointer none, .int .i64 0, .slice P nr C, (.map (some mg)), .int .i64 0, .int .i64 0, .bool false, .bool false, .bool false, .bool false] 64 (0, 0)), Rw 68 1 P nr C (rosV rows), RowsI 59 1 ptL rows, Fam 71 Tk.cells (adr rows) tk, Mp Value.string (fun x : Nat => Value.pointer (some ⟨x, 0, none⟩)) okT mg M, Old w no] := H20
          refine l_of (s_val (v := .map (some mf)) (wt0 rfl) rfl rfl (x_assign rfl rfl) ?_)
          refine l_of (s_val (v := .map (some ma)) (wt0 rfl) rfl rfl (x_assign rfl rfl) ?_)
          refine g_nil ?_
          refine g_then ?_
          refine g_seq ?_
          refine g_region ?_
          refine l_of (s_val (v := .int .i64 0) (wt0 rfl) rfl rfl (x_assign rfl rfl) ?_)
          refine g_nil ?_
          refine g_then ?_
          refine g_seq ?_
          refine g_seq ?_
          refine g_region ?_
          refine l_of (s_val (v := .slice pe ne ce) (wt0 rfl) rfl rfl (x_move rfl rfl) ?_)
          refine l_of (s_val (v := .int .i64 ((ne : Int))) (wt0 rfl) rfl rfl (x_lenl rfl rfl Try.underlying23) ?_)
          refine l_of (s_val (v := .int .i64 0) (wt0 rfl) rfl rfl (x_move rfl rfl) ?_)
          refine g_nil ?_
          refine g_then ?_
          refine g_block ?_
          refine g_loop (ι := Nat × Rws × (Nat → Tk) × Int × Int × Int × Bool × (ByteArray → Option Int) × (ByteArray → Option Int)) (fun (z, rows, tk, tn, til, now, begun, MF, MA) => [(7, .pointer (some ⟨g, 0, none⟩)), (9, .map (some mf)), (10, .map (some ma)), (11, .int .i64 now), (46, .slice pe ne ce), (47, .int .i64 ((ne : Int))), (48, .int .i64 ((z : Int)))]) (fun (z, rows, tk, tn, til, now, begun, MF, MA) wx => (z ≤ ne) ∧ (nr = rows.length) ∧ (WI z rows tk tn til now MF MA) ∧ S wx [Ob g (.cells #[.pointer none, .int .i64 0, .slice P nr C, (.map (some mg)), .int .i64 tn, .int .i64 til, .bool begun, .bool false, .bool false, .bool false] 64 (0, 0)), Rw 68 1 P nr C (rosV rows), RowsI 59 1 ptL rows, Fam 71 Tk.cells (adr rows) tk, Mp Value.string (fun x : Int => Value.int .i64 x) okT mf MF, Mp Value.string (fun x : Int => Value.int .i64 x) okT ma MA, Old w no]) (fun (z, rows, tk, tn, til, now, begun, MF, MA) => ne - z) (0, rows, tk, 0, 0, 0, false, (fun _ => none), (fun _ => none)) ⟨rfl, rfl, rfl, rfl, rfl, rfl, rfl, trivial⟩ ⟨Nat.zero_le _, hnr, (wi_start hsane hnew), (H20.takes [2, 3, 4, 5, 1, 0, 7] (by decide))⟩ ?_
          rintro ⟨z, rows, tk, tn, til, now, begun, MF, MA⟩ wq21 ⟨hz, hnrz, hI, H22⟩
          replace H22 : S wq21 [Ob g (.cells #[.pointer none, .int .i64 0, .slice P nr C, (.map (some mg)), .int .i64 tn, .int .i64 til, .bool begun, .bool false, .bool false, .bool false] 64 (0, 0)), Rw 68 1 P nr C (rosV rows), RowsI 59 1 ptL rows, Fam 71 Tk.cells (adr rows) tk, Mp Value.string (fun x : Int => Value.int .i64 x) okT mf MF, Mp Value.string (fun x : Int => Value.int .i64 x) okT ma MA, Old w no] := H22
          refine g_weak [(7, .pointer (some ⟨g, 0, none⟩)), (9, .map (some mf)), (10, .map (some ma)), (11, .int .i64 now), (46, .slice pe ne ce), (47, .int .i64 ((ne : Int))), (48, .int .i64 ((z : Int)))] ⟨rfl, rfl, rfl, rfl, rfl, rfl, rfl, trivial⟩ ?_
          have hrlz : ∀ r ∈ rows, r.l.length ≤ 1000 := fun r hr => by have := (hI.sane.lens r hr).2; omega
          have hnr2 : nr ≤ 1000 := by have := hI.sane.rl; omega
          refine g_seq ?_
          refine g_region ?_
          refine l_of (s_val (v := .bool (decide (((z : Int) : Int) < (ne : Int)))) (wt0 rfl) rfl rfl (x_bin rfl rfl rfl b_lss) ?_)
          refine g_nil ?_
          refine g_then ?_
          refine g_seq ?_
          by_cases hb23 : ((z : Int) : Int) < (ne : Int)
          · skip
            obtain ⟨xe, hxe⟩ : ∃ xe, es[z]? = some xe := ⟨_, List.getElem?_eq_getElem (by omega)⟩
            have htm := tmod_lt xe (m := 100000) (by decide)
            refine g_cond_t rfl (decide_eq_true hb23) ?_
            refine g_skip ?_
            refine g_then ?_
            refine g_seq ?_
            refine g_block ?_
            refine g_seq ?_
            refine g_region ?_
            refine l_of (s_val (v := .pointer ((pe).map fun q => q.add (z * 1))) (wt0 rfl) rfl rfl (x_idxR z (H22.oldReads (k := 6) rfl he) rfl rfl rfl Try.underlying23 sz3 (by omega)) ?_)
            refine l_of (s_val (v := .int .i64 xe) (wt0 rfl) rfl rfl (x_loadR1 z (H22.oldReads (k := 6) rfl he) (by omega) rfl rfl Try.underlying3 rfl (ints_at hxe)) ?_)
            refine l_of (s_val (v := .int .i64 xe) (wt0 rfl) rfl rfl (x_assign rfl rfl) ?_)
            refine g_nil ?_
            refine g_then ?_
            refine g_seq ?_
            refine g_region ?_
            refine l_of (s_val (v := .pointer (some ⟨g, 0, none⟩)) (wt0 rfl) rfl rfl (x_move rfl rfl) ?_)
            refine l_of (s_val (v := .int .i64 now) (wt0 rfl) rfl rfl (x_move rfl rfl) ?_)
            have hev := ev_ne2 begun false
            obtain ⟨hw1, hw2, hwn, hwx⟩ := hI.when hev
            have htn := hI.htn
            have hnb := hI.hnow
            refine l_of (s_call (wt0 rfl) (x_call' rfl rfl cl10) (when_s hnrz hnr2 hrlz _ (H22.takes [0, 1, 2, 3] (by decide))) ?_)
            rintro ee26 wq24 hor27
            rcases hor27 with ⟨hl9, rfl, H25⟩ | ⟨hl0, hw9, rfl, H25⟩ | ⟨hl0, hw1, hw2, rfl, H25⟩
            · skip
              exact absurd (tellS_ok (by omega) (by omega)) hl9
            · skip
              exfalso; omega
            · skip
              replace H25 : S wq24 [Ob g (.cells #[.pointer none, .int .i64 0, .slice P nr C, (.map (some mg)), .int .i64 now, .int .i64 til, .bool begun, .bool false, .bool false, .bool false] 64 (0, 0)), Rw 68 1 P nr C (rosV rows), RowsI 59 1 ptL rows, Fam 71 Tk.cells (adr rows) tk, Mp Value.string (fun x : Int => Value.int .i64 x) okT mf MF, Mp Value.string (fun x : Int => Value.int .i64 x) okT ma MA, Old w no] := H22.absorbI (new := [Ob g (.cells #[.pointer none, .int .i64 0, .slice P nr C, (.map (some mg)), .int .i64 now, .int .i64 til, .bool begun, .bool false, .bool false, .bool false] 64 (0, 0)), Rw 68 1 P nr C (rosV rows), RowsI 59 1 ptL rows, Fam 71 Tk.cells (adr rows) tk]) [0, 1, 2, 3] H25
              obtain ⟨wv, hwv⟩ : ∃ wv, wv = max (whenF (evS begun false false) til tk (flatF 0 (lsOf rows))) now := ⟨_, rfl⟩
              refine b_ret rfl rfl ?_
              refine l_of (s_val (v := .tuple #[.int .i64 ((max (whenF (evS begun false false) til tk (flatF 0 (lsOf rows))) now)), .int .i64 0]) (wt0 rfl) rfl rfl (x_move rfl rfl) ?_)
              refine l_of (s_val (v := .int .i64 ((max (whenF (evS begun false false) til tk (flatF 0 (lsOf rows))) now))) (wt0 rfl) rfl rfl (x_extract rfl rfl rfl) ?_)
              refine l_of (s_val (v := .int .i64 0) (wt0 rfl) rfl rfl (x_extract rfl rfl rfl) ?_)
              refine l_of (s_val (v := .int .i64 wv) (wt0 rfl) rfl rfl (ex_cast (x_assign rfl rfl) (by rw [hwv])) ?_)
              refine l_of (s_val (v := .int .i64 0) (wt0 rfl) rfl rfl (x_assign rfl rfl) ?_)
              refine g_nil ?_
              refine g_then ?_
              refine g_seq ?_
              refine g_seq ?_
              refine g_region ?_
              refine l_of (s_val (v := .int .i64 0) (wt0 rfl) rfl rfl (x_move rfl rfl) ?_)
              refine l_of (s_val (v := .bool (!decide ((0 : Int) = 0))) (wt0 rfl) rfl rfl (x_bin rfl rfl rfl b_neq) ?_)
              refine l_of (s_val (v := .bool (!decide ((0 : Int) = 0))) (wt0 rfl) rfl rfl (x_move rfl rfl) ?_)
              refine l_of (s_val (v := .int .i64 wv) (wt1 rfl rfl rfl rfl (nf rfl)) rfl rfl (x_move rfl rfl) ?_)
              refine l_of (s_val (v := .int .i64 now) (wt1 rfl rfl rfl rfl (nf rfl)) rfl rfl (x_move rfl rfl) ?_)
              refine l_of (s_val (v := .bool (decide ((wv : Int) < now))) (wt1 rfl rfl rfl rfl (nf rfl)) rfl rfl (x_bin rfl rfl rfl b_lss) ?_)
              refine l_of (s_val (v := .bool (decide ((wv : Int) < now))) (wt0 rfl) rfl rfl (x_pick_f rfl rfl (nf rfl) rfl) ?_)
              refine g_nil ?_
              refine g_then ?_
              refine g_weak [(7, .pointer (some ⟨g, 0, none⟩)), (9, .map (some mf)), (10, .map (some ma)), (11, .int .i64 now), (13, .int .i64 xe), (14, .int .i64 wv), (46, .slice pe ne ce), (47, .int .i64 ((ne : Int))), (48, .int .i64 ((z : Int))), (64, .bool (decide ((wv : Int) < now)))] ⟨rfl, rfl, rfl, rfl, rfl, rfl, rfl, rfl, rfl, rfl, trivial⟩ ?_
              by_cases hb28 : (wv : Int) < now
              · skip
                refine g_cond_t rfl (decide_eq_true hb28) ?_
                refine g_seq ?_
                refine g_region ?_
                refine l_of (s_val (v := .bool false) (wt0 rfl) rfl rfl (x_assign rfl rfl) ?_)
                refine g_nil ?_
                refine g_then ?_
                refine g_ret ?_
                refine g_then_ret ?_
                refine g_in_ret ?_
                refine g_then_ret ?_
                refine g_then_ret ?_
                refine g_in_ret ?_
                refine g_then_ret ?_
                refine fin_ret [.tmp 6] [.bool false] rfl ⟨rfl, trivial⟩ ?_
                exfalso; omega
              · skip
                refine g_cond_f rfl (decide_eq_false hb28) ?_
                refine g_skip ?_
                refine g_then ?_
                refine g_seq ?_
                refine g_seq ?_
                refine g_region ?_
                refine l_of (s_val (v := .int .i64 wv) (wt0 rfl) rfl rfl (x_move rfl rfl) ?_)
                refine l_of (s_val (v := .bool (decide ((1000000000 : Int) < wv))) (wt0 rfl) rfl rfl (x_bin rfl rfl rfl b_gtr) ?_)
                refine g_nil ?_
                refine g_then ?_
                by_cases hb29 : (1000000000 : Int) < wv
                · skip
                  refine g_cond_t rfl (decide_eq_true hb29) ?_
                  refine g_seq ?_
                  refine g_region ?_
                  refine l_of (s_call (wt0 rfl) (x_call' rfl rfl cl8) (awake_s _) ?_)
                  rintro _ wq30 ⟨rfl, H31⟩
                  replace H31 : S wq30 [Ob g (.cells #[.pointer none, .int .i64 0, .slice P nr C, (.map (some mg)), .int .i64 now, .int .i64 til, .bool begun, .bool false, .bool false, .bool false] 64 (0, 0)), Rw 68 1 P nr C (rosV rows), RowsI 59 1 ptL rows, Fam 71 Tk.cells (adr rows) tk, Mp Value.string (fun x : Int => Value.int .i64 x) okT mf MF, Mp Value.string (fun x : Int => Value.int .i64 x) okT ma MA, Old w no] := H25.absorb (new := []) H31
                  refine b_ret rfl rfl ?_
                  refine l_of (s_val (v := .bool true) (wt0 rfl) rfl rfl (x_assign rfl rfl) ?_)
                  refine g_nil ?_
                  refine g_then ?_
                  refine g_weak [(6, .bool true)] ⟨rfl, trivial⟩ ?_
                  refine g_ret ?_
                  refine g_then_ret ?_
                  refine g_in_ret ?_
                  refine g_then_ret ?_
                  refine g_then_ret ?_
                  refine g_in_ret ?_
                  refine g_then_ret ?_
                  refine fin_ret [.tmp 6] [.bool true] rfl ⟨rfl, trivial⟩ ?_
                  exact ⟨rfl, H31.mask [false, false, false, false, false, false, true]⟩
                · skip
                  refine g_cond_f rfl (decide_eq_false hb29) ?_
                  refine g_skip ?_
                  refine g_then ?_
                  refine g_seq ?_
                  refine g_seq ?_
                  refine g_region ?_
                  refine l_of (s_val (v := .int .i64 wv) (wt0 rfl) rfl rfl (x_move rfl rfl) ?_)
                  refine l_of (s_val (v := .int .i64 now) (wt0 rfl) rfl rfl (x_move rfl rfl) ?_)
                  refine l_of (s_val (v := .bool (decide ((now : Int) < wv))) (wt0 rfl) rfl rfl (x_bin rfl rfl rfl b_gtr) ?_)
                  refine g_nil ?_
                  refine g_then ?_
                  by_cases hb32 : (now : Int) < wv
                  · skip
                    refine g_cond_t rfl (decide_eq_true hb32) ?_
                    refine g_seq ?_
                    refine g_region ?_
                    refine l_of (s_val (v := .pointer (some ⟨g, 0, none⟩)) (wt0 rfl) rfl rfl (x_move rfl rfl) ?_)
                    refine l_of (s_val (v := .int .i64 wv) (wt0 rfl) rfl rfl (x_move rfl rfl) ?_)
                    refine l_of (s_val (v := .int .i64 (wv - 1)) (wt0 rfl) rfl rfl (x_bin rfl rfl rfl (b_sub (w64 (by omega)))) ?_)
                    refine l_of (s_call (wt0 rfl) (x_call' rfl rfl cl11) (next_s hnrz hnr2 hrlz _ (H25.takes [0, 1, 2, 3] (by decide))) ?_)
                    rintro ee41 wq39 hor42
                    rcases hor42 with ⟨hl9, rfl, H40⟩ | ⟨hl0, hno9, rfl, H40⟩ | ⟨i33, k34, x35, post, pre, hsp36, hl0, hno37, hok38, rfl, H40⟩
                    · skip
                      exact absurd (tellS_ok (by omega) (by omega)) hl9
                    · skip
                      replace H40 : S wq39 [Ob g (.cells #[.pointer none, .int .i64 0, .slice P nr C, (.map (some mg)), .int .i64 now, .int .i64 til, .bool begun, .bool false, .bool false, .bool false] 64 (0, 0)), Rw 68 1 P nr C (rosV rows), RowsI 59 1 ptL rows, Fam 71 Tk.cells (adr rows) tk, Mp Value.string (fun x : Int => Value.int .i64 x) okT mf MF, Mp Value.string (fun x : Int => Value.int .i64 x) okT ma MA, Old w no] := H25.absorbI (new := [Ob g (.cells #[.pointer none, .int .i64 0, .slice P nr C, (.map (some mg)), .int .i64 now, .int .i64 til, .bool begun, .bool false, .bool false, .bool false] 64 (0, 0)), Rw 68 1 P nr C (rosV rows), RowsI 59 1 ptL rows, Fam 71 Tk.cells (adr rows) tk]) [0, 1, 2, 3] H40
                      refine b_ret rfl rfl ?_
                      refine l_of (s_val (v := .tuple #[.agg #[.int .i64 0, .int .i64 0, .int .i64 0, .int .i64 0], .int .i64 8]) (wt0 rfl) rfl rfl (x_move rfl rfl) ?_)
                      refine l_of (s_val (v := .agg #[.int .i64 0, .int .i64 0, .int .i64 0, .int .i64 0]) (wt0 rfl) rfl rfl (x_extract rfl rfl rfl) ?_)
                      refine l_of (s_val (v := .int .i64 8) (wt0 rfl) rfl rfl (x_extract rfl rfl rfl) ?_)
                      refine l_of (s_alloc H40 (wt0 rfl) rfl rfl rfl ze34 ?_)
                      intro g43 wq44 H45
                      refine l_of (s_store H45 0 (wt0 rfl) rfl rfl rfl rfl rfl sz34 rfl rfl (cs' := #[.int .i64 0, .int .i64 0, .int .i64 0, .int .i64 0]) rfl ?_)
                      intro wq46 H47
                      refine l_of (s_val (v := .int .i64 8) (wt0 rfl) rfl rfl (x_assign rfl rfl) ?_)
                      refine g_nil ?_
                      refine g_then ?_
                      refine g_weak [(7, .pointer (some ⟨g, 0, none⟩)), (9, .map (some mf)), (10, .map (some ma)), (13, .int .i64 xe), (14, .int .i64 wv), (17, .int .i64 8), (46, .slice pe ne ce), (47, .int .i64 ((ne : Int))), (48, .int .i64 ((z : Int)))] ⟨rfl, rfl, rfl, rfl, rfl, rfl, rfl, rfl, rfl, trivial⟩ ?_
                      refine g_seq ?_
                      refine g_region ?_
                      refine l_of (s_val (v := .int .i64 8) (wt0 rfl) rfl rfl (x_move rfl rfl) ?_)
                      refine l_of (s_val (v := .bool (!decide ((8 : Int) = 8))) (wt0 rfl) rfl rfl (x_bin rfl rfl rfl b_neq) ?_)
                      refine g_nil ?_
                      refine g_then ?_
                      refine g_cond_f rfl (nf rfl) ?_
                      refine g_skip ?_
                      refine g_then ?_
                      refine g_seq ?_
                      refine g_region ?_
                      refine l_of (s_val (v := .pointer (some ⟨g, 0, none⟩)) (wt0 rfl) rfl rfl (x_move rfl rfl) ?_)
                      refine l_of (s_val (v := .int .i64 wv) (wt0 rfl) rfl rfl (x_move rfl rfl) ?_)
                      refine l_of (s_call (wt0 rfl) (x_call' rfl rfl cl11) (next_s hnrz hnr2 hrlz _ (H47.takes [1, 2, 3, 4] (by decide))) ?_)
                      rintro ee56 wq54 hor57
                      rcases hor57 with ⟨hl9, rfl, H55⟩ | ⟨hl0, hno9, rfl, H55⟩ | ⟨i48, k49, x50, post, pre, hsp51, hl0, hno52, hok53, rfl, H55⟩
                      · skip
                        exact absurd (tellS_ok (by omega) (by omega)) hl9
                      · skip
                        obtain ⟨q, hq1, hq2⟩ := hwx wv (by omega); exact absurd (hno9 q hq1) (by rw [hq2]; decide)
                      · skip
                        replace H55 : S wq54 [Ob g (.cells #[.pointer (some ⟨x50, 0, none⟩), .int .i64 ((evS begun false false)), .slice P nr C, (.map (some mg)), .int .i64 wv, .int .i64 til, .bool begun, .bool false, .bool false, .bool false] 64 (0, 0)), Rw 68 1 P nr C (rosV rows), RowsI 59 1 ptL rows, Fam 71 Tk.cells (adr rows) tk, Ob g43 (.cells #[.int .i64 0, .int .i64 0, .int .i64 0, .int .i64 0] 34 (0, 0)), Mp Value.string (fun x : Int => Value.int .i64 x) okT mf MF, Mp Value.string (fun x : Int => Value.int .i64 x) okT ma MA, Old w no] := H47.absorbI (new := [Ob g (.cells #[.pointer (some ⟨x50, 0, none⟩), .int .i64 ((evS begun false false)), .slice P nr C, (.map (some mg)), .int .i64 wv, .int .i64 til, .bool begun, .bool false, .bool false, .bool false] 64 (0, 0)), Rw 68 1 P nr C (rosV rows), RowsI 59 1 ptL rows, Fam 71 Tk.cells (adr rows) tk]) [1, 2, 3, 4] H55
                        obtain ⟨r, hrow, hkx, hxa⟩ := place_at hsp51
                        have hrz := (hI.sane.lens r (List.mem_of_getElem? hrow))
                        have hkl := (List.getElem?_eq_some_iff.1 hkx).1
                        have hil := (List.getElem?_eq_some_iff.1 hrow).1
                        have htk := hI.trk x50 hxa
                        have hlk := hI.link x50 hxa
                        have haw : (tk x50).after ≤ wv := Int.le_trans (free_lo hev _) ((ok_iff hev _).1 hok53)
                        have hokT : okT (tk x50).name := Nat.le_trans (hI.sane.size hxa) (by decide)
                        have hwe : waitS ((MF (tk x50).name).getD 0) = waitS (tk x50).failed := by rw [hlk.1]
                        refine b_ret rfl rfl ?_
                        refine l_of (s_val (v := .tuple #[.agg #[.int .i64 ((i48 : Int)), .int .i64 ((k49 : Int)), .int .i64 wv, .int .i64 ((evS begun false false))], .int .i64 0]) (wt0 rfl) rfl rfl (x_move rfl rfl) ?_)
                        refine l_of (s_val (v := .agg #[.int .i64 ((i48 : Int)), .int .i64 ((k49 : Int)), .int .i64 wv, .int .i64 ((evS begun false false))]) (wt0 rfl) rfl rfl (x_extract rfl rfl rfl) ?_)
                        refine l_of (s_val (v := .int .i64 0) (wt0 rfl) rfl rfl (x_extract rfl rfl rfl) ?_)
                        refine l_of (s_alloc H55 (wt0 rfl) rfl rfl rfl ze34 ?_)
                        intro g58 wq59 H60
                        refine l_of (s_store H60 0 (wt0 rfl) rfl rfl rfl rfl rfl sz34 rfl rfl (cs' := #[.int .i64 ((i48 : Int)), .int .i64 ((k49 : Int)), .int .i64 wv, .int .i64 ((evS begun false false))]) rfl ?_)
                        intro wq61 H62
                        refine l_of (s_val (v := .int .i64 0) (wt0 rfl) rfl rfl (x_assign rfl rfl) ?_)
                        refine g_nil ?_
                        refine g_then ?_
                        refine g_seq ?_
                        refine g_seq ?_
                        refine g_region ?_
                        refine l_of (s_val (v := .int .i64 0) (wt0 rfl) rfl rfl (x_move rfl rfl) ?_)
                        refine l_of (s_val (v := .bool (!decide ((0 : Int) = 0))) (wt0 rfl) rfl rfl (x_bin rfl rfl rfl b_neq) ?_)
                        refine l_of (s_val (v := .bool (!decide ((0 : Int) = 0))) (wt0 rfl) rfl rfl (x_move rfl rfl) ?_)
                        refine l_of (s_val (v := .pointer (some ⟨g58, 2, none⟩)) (wt1 rfl rfl rfl rfl (nf rfl)) rfl rfl (x_fieldAddr rfl rfl fo34_2 rfl) ?_)
                        refine l_of (s_val (v := .int .i64 wv) (wt1 rfl rfl rfl rfl (nf rfl)) rfl rfl (x_load1 H62 0 rfl rfl Try.underlying3 rfl rfl rfl) ?_)
                        refine l_of (s_val (v := .int .i64 wv) (wt1 rfl rfl rfl rfl (nf rfl)) rfl rfl (x_move rfl rfl) ?_)
                        refine l_of (s_val (v := .bool (!decide ((wv : Int) = wv))) (wt1 rfl rfl rfl rfl (nf rfl)) rfl rfl (x_bin rfl rfl rfl b_neq) ?_)
                        refine l_of (s_val (v := .bool (!decide ((wv : Int) = wv))) (wt0 rfl) rfl rfl (x_pick_f rfl rfl (nf rfl) rfl) ?_)
                        refine g_nil ?_
                        refine g_then ?_
                        refine g_weak [(7, .pointer (some ⟨g, 0, none⟩)), (9, .map (some mf)), (10, .map (some ma)), (13, .int .i64 xe), (14, .int .i64 wv), (18, .pointer (some ⟨g58, 0, none⟩)), (46, .slice pe ne ce), (47, .int .i64 ((ne : Int))), (48, .int .i64 ((z : Int))), (93, .bool (!decide ((wv : Int) = wv)))] ⟨rfl, rfl, rfl, rfl, rfl, rfl, rfl, rfl, rfl, rfl, trivial⟩ ?_
                        refine g_cond_f rfl (nf rfl) ?_
                        refine g_skip ?_
                        refine g_then ?_
                        refine g_seq ?_
                        refine g_region ?_
                        refine l_of (s_val (v := .pointer (some ⟨g, 0, none⟩)) (wt0 rfl) rfl rfl (x_move rfl rfl) ?_)
                        refine l_of (s_val (v := .pointer (some ⟨g58, 0, none⟩)) (wt0 rfl) rfl rfl (x_fieldAddr rfl rfl fo34_0 rfl) ?_)
                        refine l_of (s_val (v := .int .i64 ((i48 : Int))) (wt0 rfl) rfl rfl (x_load1 H62 0 rfl rfl Try.underlying3 rfl rfl rfl) ?_)
                        refine l_of (s_call (wt0 rfl) (x_call' rfl rfl cl12) (order_s hnrz hnr2 hrlz _ (H62.takes [1, 2, 3, 4] (by decide))) ?_)
                        rintro ee70 wq68 hor71
                        rcases hor71 with ⟨hq9, rfl, H69⟩ | ⟨j63, rr67, p65, c66, hq9, hrw64, rfl, H69⟩
                        · skip
                          omega
                        · skip
                          have hj9 : j63 = i48 := by omega
                          rw [hj9, hrow] at hrw64
                          obtain rfl := Option.some.inj hrw64
                          replace H69 : S wq68 [Rw 9 1 p65 r.l.length c66 (stV (namesT tk r.l)), Ob g (.cells #[.pointer (some ⟨x50, 0, none⟩), .int .i64 ((evS begun false false)), .slice P nr C, (.map (some mg)), .int .i64 wv, .int .i64 til, .bool begun, .bool false, .bool false, .bool false] 64 (0, 0)), Rw 68 1 P nr C (rosV rows), RowsI 59 1 ptL rows, Fam 71 Tk.cells (adr rows) tk, Ob g58 (.cells #[.int .i64 ((i48 : Int)), .int .i64 ((k49 : Int)), .int .i64 wv, .int .i64 ((evS begun false false))] 34 (0, 0)), Ob g43 (.cells #[.int .i64 0, .int .i64 0, .int .i64 0, .int .i64 0] 34 (0, 0)), Mp Value.string (fun x : Int => Value.int .i64 x) okT mf MF, Mp Value.string (fun x : Int => Value.int .i64 x) okT ma MA, Old w no] := H62.absorbI (new := [Rw 9 1 p65 r.l.length c66 (stV (namesT tk r.l)), Ob g (.cells #[.pointer (some ⟨x50, 0, none⟩), .int .i64 ((evS begun false false)), .slice P nr C, (.map (some mg)), .int .i64 wv, .int .i64 til, .bool begun, .bool false, .bool false, .bool false] 64 (0, 0)), Rw 68 1 P nr C (rosV rows), RowsI 59 1 ptL rows, Fam 71 Tk.cells (adr rows) tk]) [1, 2, 3, 4] H69
                          refine b_ret rfl rfl ?_
                          refine l_of (s_val (v := .tuple #[.slice p65 r.l.length c66, .int .i64 0]) (wt0 rfl) rfl rfl (x_move rfl rfl) ?_)
                          refine l_of (s_val (v := .slice p65 r.l.length c66) (wt0 rfl) rfl rfl (x_extract rfl rfl rfl) ?_)
                          refine l_of (s_val (v := .int .i64 0) (wt0 rfl) rfl rfl (x_extract rfl rfl rfl) ?_)
                          refine l_of (s_val (v := .slice p65 r.l.length c66) (wt0 rfl) rfl rfl (x_assign rfl rfl) ?_)
                          refine l_of (s_val (v := .int .i64 0) (wt0 rfl) rfl rfl (x_assign rfl rfl) ?_)
                          refine g_nil ?_
                          refine g_then ?_
                          refine g_seq ?_
                          refine g_seq ?_
                          refine g_region ?_
                          refine l_of (s_val (v := .int .i64 0) (wt0 rfl) rfl rfl (x_move rfl rfl) ?_)
                          refine l_of (s_val (v := .bool (!decide ((0 : Int) = 0))) (wt0 rfl) rfl rfl (x_bin rfl rfl rfl b_neq) ?_)
                          refine l_of (s_val (v := .bool (!decide ((0 : Int) = 0))) (wt0 rfl) rfl rfl (x_move rfl rfl) ?_)
                          refine l_of (s_val (v := .pointer (some ⟨g58, 1, none⟩)) (wt1 rfl rfl rfl rfl (nf rfl)) rfl rfl (x_fieldAddr rfl rfl fo34_1 rfl) ?_)
                          refine l_of (s_val (v := .int .i64 ((k49 : Int))) (wt1 rfl rfl rfl rfl (nf rfl)) rfl rfl (x_load1 H69 5 rfl rfl Try.underlying3 rfl rfl rfl) ?_)
                          refine l_of (s_val (v := .bool (decide (((k49 : Int) : Int) < 0))) (wt1 rfl rfl rfl rfl (nf rfl)) rfl rfl (x_bin rfl rfl rfl b_lss) ?_)
                          refine l_of (s_val (v := .bool (decide (((k49 : Int) : Int) < 0))) (wt0 rfl) rfl rfl (x_pick_f rfl rfl (nf rfl) rfl) ?_)
                          refine l_of (s_val (v := .bool (decide (((k49 : Int) : Int) < 0))) (wt0 rfl) rfl rfl (x_move rfl rfl) ?_)
                          by_cases hb72 : ((k49 : Int) : Int) < 0
                          · skip
                            refine l_of (s_not (wn1 rfl rfl rfl rfl (decide_eq_true hb72)) rfl rfl ?_)
                            refine l_of (s_not (wn1 rfl rfl rfl rfl (decide_eq_true hb72)) rfl rfl ?_)
                            refine l_of (s_not (wn1 rfl rfl rfl rfl (decide_eq_true hb72)) rfl rfl ?_)
                            refine l_of (s_not (wn1 rfl rfl rfl rfl (decide_eq_true hb72)) rfl rfl ?_)
                            refine l_of (s_not (wn1 rfl rfl rfl rfl (decide_eq_true hb72)) rfl rfl ?_)
                            refine l_of (s_val (v := .bool true) (wt0 rfl) rfl rfl (x_pick_t rfl rfl (decide_eq_true hb72) rfl) ?_)
                            refine g_nil ?_
                            refine g_then ?_
                            refine g_weak [(7, .pointer (some ⟨g, 0, none⟩)), (9, .map (some mf)), (10, .map (some ma)), (13, .int .i64 xe), (14, .int .i64 wv), (18, .pointer (some ⟨g58, 0, none⟩)), (19, .slice p65 r.l.length c66), (46, .slice pe ne ce), (47, .int .i64 ((ne : Int))), (48, .int .i64 ((z : Int))), (114, .bool true)] ⟨rfl, rfl, rfl, rfl, rfl, rfl, rfl, rfl, rfl, rfl, rfl, trivial⟩ ?_
                            refine g_cond_t rfl rfl ?_
                            refine g_seq ?_
                            refine g_region ?_
                            refine l_of (s_val (v := .bool false) (wt0 rfl) rfl rfl (x_assign rfl rfl) ?_)
                            refine g_nil ?_
                            refine g_then ?_
                            refine g_ret ?_
                            refine g_then_ret ?_
                            refine g_in_ret ?_
                            refine g_then_ret ?_
                            refine g_then_ret ?_
                            refine g_in_ret ?_
                            refine g_then_ret ?_
                            refine fin_ret [.tmp 6] [.bool false] rfl ⟨rfl, trivial⟩ ?_
                            exfalso; omega
                          · skip
                            refine l_of (s_val (v := .pointer (some ⟨g58, 1, none⟩)) (wt1 rfl rfl rfl rfl (decide_eq_false hb72)) rfl rfl (x_fieldAddr rfl rfl fo34_1 rfl) ?_)
                            refine l_of (s_val (v := .int .i64 ((k49 : Int))) (wt1 rfl rfl rfl rfl (decide_eq_false hb72)) rfl rfl (x_load1 H69 5 rfl rfl Try.underlying3 rfl rfl rfl) ?_)
                            refine l_of (s_val (v := .slice p65 r.l.length c66) (wt1 rfl rfl rfl rfl (decide_eq_false hb72)) rfl rfl (x_move rfl rfl) ?_)
                            refine l_of (s_val (v := .int .i64 ((r.l.length : Int))) (wt1 rfl rfl rfl rfl (decide_eq_false hb72)) rfl rfl (x_lenl rfl rfl Try.underlying37) ?_)
                            refine l_of (s_val (v := .bool (decide (((r.l.length : Int) : Int) ≤ (k49 : Int)))) (wt1 rfl rfl rfl rfl (decide_eq_false hb72)) rfl rfl (x_bin rfl rfl rfl b_geq) ?_)
                            refine l_of (s_val (v := .bool (decide (((r.l.length : Int) : Int) ≤ (k49 : Int)))) (wt0 rfl) rfl rfl (x_pick_f rfl rfl (decide_eq_false hb72) rfl) ?_)
                            refine g_nil ?_
                            refine g_then ?_
                            refine g_weak [(7, .pointer (some ⟨g, 0, none⟩)), (9, .map (some mf)), (10, .map (some ma)), (13, .int .i64 xe), (14, .int .i64 wv), (18, .pointer (some ⟨g58, 0, none⟩)), (19, .slice p65 r.l.length c66), (46, .slice pe ne ce), (47, .int .i64 ((ne : Int))), (48, .int .i64 ((z : Int))), (114, .bool (decide (((r.l.length : Int) : Int) ≤ (k49 : Int))))] ⟨rfl, rfl, rfl, rfl, rfl, rfl, rfl, rfl, rfl, rfl, rfl, trivial⟩ ?_
                            by_cases hb73 : ((r.l.length : Int) : Int) ≤ (k49 : Int)
                            · skip
                              refine g_cond_t rfl (decide_eq_true hb73) ?_
                              refine g_seq ?_
                              refine g_region ?_
                              refine l_of (s_val (v := .bool false) (wt0 rfl) rfl rfl (x_assign rfl rfl) ?_)
                              refine g_nil ?_
                              refine g_then ?_
                              refine g_ret ?_
                              refine g_then_ret ?_
                              refine g_in_ret ?_
                              refine g_then_ret ?_
                              refine g_then_ret ?_
                              refine g_in_ret ?_
                              refine g_then_ret ?_
                              refine fin_ret [.tmp 6] [.bool false] rfl ⟨rfl, trivial⟩ ?_
                              exfalso; omega
                            · skip
                              refine g_cond_f rfl (decide_eq_false hb73) ?_
                              refine g_skip ?_
                              refine g_then ?_
                              refine g_seq ?_
                              refine g_region ?_
                              refine l_of (s_val (v := .slice p65 r.l.length c66) (wt0 rfl) rfl rfl (x_move rfl rfl) ?_)
                              refine l_of (s_val (v := .pointer (some ⟨g58, 1, none⟩)) (wt0 rfl) rfl rfl (x_fieldAddr rfl rfl fo34_1 rfl) ?_)
                              refine l_of (s_val (v := .int .i64 ((k49 : Int))) (wt0 rfl) rfl rfl (x_load1 H69 5 rfl rfl Try.underlying3 rfl rfl rfl) ?_)
                              refine l_of (s_val (v := .pointer ((p65).map fun q => q.add (k49 * 1))) (wt0 rfl) rfl rfl (x_idxR k49 (H69.rwReads (k := 0) rfl) rfl rfl rfl Try.underlying37 sz9 (by omega)) ?_)
                              refine l_of (s_val (v := .string ((tk x50).name)) (wt0 rfl) rfl rfl (x_loadR1 k49 (H69.rwReads (k := 0) rfl) (by omega) rfl rfl Try.underlying9 rfl (stV_at (names_at hkx))) ?_)
                              refine l_of (s_val (v := .string ((tk x50).name)) (wt0 rfl) rfl rfl (x_assign rfl rfl) ?_)
                              refine g_nil ?_
                              refine g_then ?_
                              refine g_seq ?_
                              refine g_seq ?_
                              refine g_quiet (by kernel_rfl) (by kernel_rfl) H69 ?_
                              refine q_val (v := .map (some mf)) (wt0 rfl) rfl rfl (fun wx H => x_move rfl rfl) ?_
                              refine q_val (v := .string ((tk x50).name)) (wt0 rfl) rfl rfl (fun wx H => x_move rfl rfl) ?_
                              refine q_val (v := .int .i64 (((MF (tk x50).name).getD 0))) (wt0 rfl) rfl rfl (fun wx H => ex_cast (x_lookup1 (x := (tk x50).name) (strTy Try.underlying30 Try.underlying9) H 7 rfl rfl rfl rfl hokT ze3) (look_I _)) ?_
                              refine q_val (v := .bool (decide ((0 : Int) < ((MF (tk x50).name).getD 0)))) (wt0 rfl) rfl rfl (fun wx H => x_bin rfl rfl rfl b_gtr) ?_
                              refine q_val (v := .bool (decide ((0 : Int) < ((MF (tk x50).name).getD 0)))) (wt0 rfl) rfl rfl (fun wx H => x_move rfl rfl) ?_
                              by_cases hb74 : (0 : Int) < ((MF (tk x50).name).getD 0)
                              · skip
                                have hlk2 := hlk.2 (by omega)
                                have hws := waitS_ge (tk x50).failed (by omega)
                                refine q_val (v := .int .i64 wv) (wt1 rfl rfl rfl rfl (decide_eq_true hb74)) rfl rfl (fun wx H => x_move rfl rfl) ?_
                                refine q_val (v := .map (some ma)) (wt1 rfl rfl rfl rfl (decide_eq_true hb74)) rfl rfl (fun wx H => x_move rfl rfl) ?_
                                refine q_val (v := .string ((tk x50).name)) (wt1 rfl rfl rfl rfl (decide_eq_true hb74)) rfl rfl (fun wx H => x_move rfl rfl) ?_
                                refine q_val (v := .int .i64 (((MA (tk x50).name).getD 0))) (wt1 rfl rfl rfl rfl (decide_eq_true hb74)) rfl rfl (fun wx H => ex_cast (x_lookup1 (x := (tk x50).name) (strTy Try.underlying30 Try.underlying9) H 8 rfl rfl rfl rfl hokT ze3) (look_I _)) ?_
                                refine q_val (v := .map (some mf)) (wt1 rfl rfl rfl rfl (decide_eq_true hb74)) rfl rfl (fun wx H => x_move rfl rfl) ?_
                                refine q_val (v := .string ((tk x50).name)) (wt1 rfl rfl rfl rfl (decide_eq_true hb74)) rfl rfl (fun wx H => x_move rfl rfl) ?_
                                refine q_val (v := .int .i64 (((MF (tk x50).name).getD 0))) (wt1 rfl rfl rfl rfl (decide_eq_true hb74)) rfl rfl (fun wx H => ex_cast (x_lookup1 (x := (tk x50).name) (strTy Try.underlying30 Try.underlying9) H 7 rfl rfl rfl rfl hokT ze3) (look_I _)) ?_
                                refine q_call (wt1 rfl rfl rfl rfl (decide_eq_true hb74)) rfl rfl (fun wx H => x_call' rfl rfl cl13) (fun wx H => (wait_r _ (by omega) (by omega) _).mono (by rintro _ _ ⟨rfl, h⟩; exact ⟨rfl, H.absorb (new := []) h⟩)) ?_
                                refine q_val (v := .int .i64 (((MA (tk x50).name).getD 0) + (waitS ((MF (tk x50).name).getD 0)))) (wt1 rfl rfl rfl rfl (decide_eq_true hb74)) rfl rfl (fun wx H => x_bin rfl rfl rfl (b_add (w64 (by omega)))) ?_
                                refine q_val (v := .bool (decide ((wv : Int) < ((MA (tk x50).name).getD 0) + (waitS ((MF (tk x50).name).getD 0))))) (wt1 rfl rfl rfl rfl (decide_eq_true hb74)) rfl rfl (fun wx H => x_bin rfl rfl rfl b_lss) ?_
                                refine q_val (v := .bool (decide ((wv : Int) < ((MA (tk x50).name).getD 0) + (waitS ((MF (tk x50).name).getD 0))))) (wt0 rfl) rfl rfl (fun wx H => x_pick_t rfl rfl (decide_eq_true hb74) rfl) ?_
                                refine q_nil (fun wq75 H76 => ?_)
                                refine g_then ?_
                                refine g_weak [(7, .pointer (some ⟨g, 0, none⟩)), (9, .map (some mf)), (10, .map (some ma)), (13, .int .i64 xe), (14, .int .i64 wv), (18, .pointer (some ⟨g58, 0, none⟩)), (20, .string ((tk x50).name)), (46, .slice pe ne ce), (47, .int .i64 ((ne : Int))), (48, .int .i64 ((z : Int))), (125, .int .i64 wv), (126, .map (some ma)), (127, .string ((tk x50).name)), (128, .int .i64 (((MA (tk x50).name).getD 0))), (129, .map (some mf)), (130, .string ((tk x50).name)), (131, .int .i64 (((MF (tk x50).name).getD 0))), (132, .int .i64 ((waitS ((MF (tk x50).name).getD 0)))), (133, .int .i64 (((MA (tk x50).name).getD 0) + (waitS ((MF (tk x50).name).getD 0)))), (134, .bool (decide ((wv : Int) < ((MA (tk x50).name).getD 0) + (waitS ((MF (tk x50).name).getD 0))))), (135, .bool (decide ((wv : Int) < ((MA (tk x50).name).getD 0) + (waitS ((MF (tk x50).name).getD 0)))))] ⟨rfl, rfl, rfl, rfl, rfl, rfl, rfl, rfl, rfl, rfl, rfl, rfl, rfl, rfl, rfl, rfl, rfl, rfl, rfl, rfl, rfl, trivial⟩ ?_
                                by_cases hb77 : (wv : Int) < ((MA (tk x50).name).getD 0) + (waitS ((MF (tk x50).name).getD 0))
                                · skip
                                  refine g_cond_t rfl (decide_eq_true hb77) ?_
                                  refine g_seq ?_
                                  refine g_region ?_
                                  refine l_of (s_val (v := .bool false) (wt0 rfl) rfl rfl (x_assign rfl rfl) ?_)
                                  refine g_nil ?_
                                  refine g_then ?_
                                  refine g_weak [(6, .bool false)] ⟨rfl, trivial⟩ ?_
                                  refine g_ret ?_
                                  refine g_then_ret ?_
                                  refine g_in_ret ?_
                                  refine g_then_ret ?_
                                  refine g_then_ret ?_
                                  refine g_in_ret ?_
                                  refine g_then_ret ?_
                                  refine fin_ret [.tmp 6] [.bool false] rfl ⟨rfl, trivial⟩ ?_
                                  exfalso; omega
                                · skip
                                  refine g_cond_f rfl (decide_eq_false hb77) ?_
                                  refine g_skip ?_
                                  refine g_then ?_
                                  refine g_seq ?_
                                  refine g_region ?_
                                  refine l_of (s_val (v := .int .i64 wv) (wt0 rfl) rfl rfl (x_move rfl rfl) ?_)
                                  refine l_of (s_val (v := .int .i64 wv) (wt0 rfl) rfl rfl (x_assign rfl rfl) ?_)
                                  refine g_nil ?_
                                  refine g_then ?_
                                  refine g_seq ?_
                                  refine g_seq ?_
                                  refine g_region ?_
                                  refine l_of (s_val (v := .int .i64 xe) (wt0 rfl) rfl rfl (x_move rfl rfl) ?_)
                                  refine l_of (s_val (v := .int .i64 ((xe.tmod 3))) (wt0 rfl) rfl rfl (x_bin rfl rfl rfl (b_rem (by decide) rfl)) ?_)
                                  refine l_of (s_val (v := .bool (decide (((xe.tmod 3) : Int) = 0))) (wt0 rfl) rfl rfl (x_bin rfl rfl rfl b_eql) ?_)
                                  refine g_nil ?_
                                  refine g_then ?_
                                  by_cases hb78 : ((xe.tmod 3) : Int) = 0
                                  · skip
                                    refine g_cond_t rfl (decide_eq_true hb78) ?_
                                    refine g_seq ?_
                                    refine g_seq ?_
                                    refine g_region ?_
                                    refine l_of (s_val (v := .pointer (some ⟨g, 0, none⟩)) (wt0 rfl) rfl rfl (x_move rfl rfl) ?_)
                                    refine l_of (s_val (v := .int .i64 wv) (wt0 rfl) rfl rfl (x_move rfl rfl) ?_)
                                    refine l_of (s_call (wt0 rfl) (x_call' rfl rfl cl14) (fail_f hxa (by omega) (by omega) (by omega) _ (H76.takes [1, 4] (by decide))) ?_)
                                    rintro ee81 wq79 hor82
                                    rcases hor82 with ⟨hl9, rfl, H80⟩ | ⟨hl0, rfl, H80⟩
                                    · skip
                                      exact absurd (tellS_ok (by omega) (by omega)) hl9
                                    · skip
                                      replace H80 : S wq79 [Ob g (.cells #[.pointer none, .int .i64 0, .slice P nr C, (.map (some mg)), .int .i64 wv, .int .i64 til, .bool begun, .bool false, .bool false, .bool false] 64 (0, 0)), Fam 71 Tk.cells (adr rows) (upd tk x50 (⟨(tk x50).name, (tk x50).failed + 1, wv + waitS ((tk x50).failed + 1), (tk x50).ans, (tk x50).told || decide ((evS begun false false) = 2)⟩ : Tk)), Rw 9 1 p65 r.l.length c66 (stV (namesT tk r.l)), Rw 68 1 P nr C (rosV rows), RowsI 59 1 ptL rows, Ob g58 (.cells #[.int .i64 ((i48 : Int)), .int .i64 ((k49 : Int)), .int .i64 wv, .int .i64 ((evS begun false false))] 34 (0, 0)), Ob g43 (.cells #[.int .i64 0, .int .i64 0, .int .i64 0, .int .i64 0] 34 (0, 0)), Mp Value.string (fun x : Int => Value.int .i64 x) okT mf MF, Mp Value.string (fun x : Int => Value.int .i64 x) okT ma MA, Old w no] := H76.absorbI (new := [Ob g (.cells #[.pointer none, .int .i64 0, .slice P nr C, (.map (some mg)), .int .i64 wv, .int .i64 til, .bool begun, .bool false, .bool false, .bool false] 64 (0, 0)), Fam 71 Tk.cells (adr rows) (upd tk x50 (⟨(tk x50).name, (tk x50).failed + 1, wv + waitS ((tk x50).failed + 1), (tk x50).ans, (tk x50).told || decide ((evS begun false false) = 2)⟩ : Tk))]) [1, 4] H80
                                      refine b_ret rfl rfl ?_
                                      refine l_of (s_val (v := .bool (!decide ((0 : Int) = 0))) (wt0 rfl) rfl rfl (x_bin rfl rfl rfl b_neq) ?_)
                                      refine g_nil ?_
                                      refine g_then ?_
                                      refine g_cond_f rfl (nf rfl) ?_
                                      refine g_skip ?_
                                      refine g_then ?_
                                      refine g_weak [(7, .pointer (some ⟨g, 0, none⟩)), (9, .map (some mf)), (10, .map (some ma)), (11, .int .i64 wv), (20, .string ((tk x50).name)), (46, .slice pe ne ce), (47, .int .i64 ((ne : Int))), (48, .int .i64 ((z : Int))), (125, .int .i64 wv), (126, .map (some ma)), (127, .string ((tk x50).name)), (128, .int .i64 (((MA (tk x50).name).getD 0))), (129, .map (some mf)), (130, .string ((tk x50).name)), (131, .int .i64 (((MF (tk x50).name).getD 0))), (132, .int .i64 ((waitS ((MF (tk x50).name).getD 0)))), (133, .int .i64 (((MA (tk x50).name).getD 0) + (waitS ((MF (tk x50).name).getD 0)))), (134, .bool (decide ((wv : Int) < ((MA (tk x50).name).getD 0) + (waitS ((MF (tk x50).name).getD 0)))))] ⟨rfl, rfl, rfl, rfl, rfl, rfl, rfl, rfl, rfl, rfl, rfl, rfl, rfl, rfl, rfl, rfl, rfl, rfl, trivial⟩ ?_
                                      refine g_seq ?_
                                      refine g_region ?_
                                      refine l_of (s_val (v := .map (some mf)) (wt0 rfl) rfl rfl (x_move rfl rfl) ?_)
                                      refine l_of (s_val (v := .string ((tk x50).name)) (wt0 rfl) rfl rfl (x_move rfl rfl) ?_)
                                      refine l_of (s_val (v := .int .i64 (((MF (tk x50).name).getD 0))) (wt0 rfl) rfl rfl (ex_cast (x_lookup1 (x := (tk x50).name) (strTy Try.underlying30 Try.underlying9) H80 7 rfl rfl rfl rfl hokT ze3) (look_I _)) ?_)
                                      refine l_of (s_val (v := .int .i64 (((MF (tk x50).name).getD 0) + 1)) (wt0 rfl) rfl rfl (x_bin rfl rfl rfl (b_add (w64 (by omega)))) ?_)
                                      refine l_of (s_mapUpdate (x := (tk x50).name) (a := ((MF (tk x50).name).getD 0 + 1)) (strTy Try.underlying30 Try.underlying9) H80 7 (wt0 rfl) rfl rfl rfl rfl rfl rfl hokT ?_)
                                      intro wq83 H84
                                      replace H84 : S wq83 [Ob g (.cells #[.pointer none, .int .i64 0, .slice P nr C, (.map (some mg)), .int .i64 wv, .int .i64 til, .bool begun, .bool false, .bool false, .bool false] 64 (0, 0)), Fam 71 Tk.cells (adr rows) (upd tk x50 (⟨(tk x50).name, (tk x50).failed + 1, wv + waitS ((tk x50).failed + 1), (tk x50).ans, (tk x50).told || decide ((evS begun false false) = 2)⟩ : Tk)), Rw 9 1 p65 r.l.length c66 (stV (namesT tk r.l)), Rw 68 1 P nr C (rosV rows), RowsI 59 1 ptL rows, Ob g58 (.cells #[.int .i64 ((i48 : Int)), .int .i64 ((k49 : Int)), .int .i64 wv, .int .i64 ((evS begun false false))] 34 (0, 0)), Ob g43 (.cells #[.int .i64 0, .int .i64 0, .int .i64 0, .int .i64 0] 34 (0, 0)), Mp Value.string (fun x : Int => Value.int .i64 x) okT mf (upM MF (tk x50).name ((MF (tk x50).name).getD 0 + 1)), Mp Value.string (fun x : Int => Value.int .i64 x) okT ma MA, Old w no] := H84
                                      refine g_nil ?_
                                      refine g_then ?_
                                      refine g_seq ?_
                                      refine g_region ?_
                                      refine l_of (s_val (v := .map (some ma)) (wt0 rfl) rfl rfl (x_move rfl rfl) ?_)
                                      refine l_of (s_val (v := .string ((tk x50).name)) (wt0 rfl) rfl rfl (x_move rfl rfl) ?_)
                                      refine l_of (s_val (v := .int .i64 wv) (wt0 rfl) rfl rfl (x_move rfl rfl) ?_)
                                      refine l_of (s_mapUpdate (x := (tk x50).name) (a := wv) (strTy Try.underlying30 Try.underlying9) H84 8 (wt0 rfl) rfl rfl rfl rfl rfl rfl hokT ?_)
                                      intro wq85 H86
                                      replace H86 : S wq85 [Ob g (.cells #[.pointer none, .int .i64 0, .slice P nr C, (.map (some mg)), .int .i64 wv, .int .i64 til, .bool begun, .bool false, .bool false, .bool false] 64 (0, 0)), Fam 71 Tk.cells (adr rows) (upd tk x50 (⟨(tk x50).name, (tk x50).failed + 1, wv + waitS ((tk x50).failed + 1), (tk x50).ans, (tk x50).told || decide ((evS begun false false) = 2)⟩ : Tk)), Rw 9 1 p65 r.l.length c66 (stV (namesT tk r.l)), Rw 68 1 P nr C (rosV rows), RowsI 59 1 ptL rows, Ob g58 (.cells #[.int .i64 ((i48 : Int)), .int .i64 ((k49 : Int)), .int .i64 wv, .int .i64 ((evS begun false false))] 34 (0, 0)), Ob g43 (.cells #[.int .i64 0, .int .i64 0, .int .i64 0, .int .i64 0] 34 (0, 0)), Mp Value.string (fun x : Int => Value.int .i64 x) okT mf (upM MF (tk x50).name ((MF (tk x50).name).getD 0 + 1)), Mp Value.string (fun x : Int => Value.int .i64 x) okT ma (upM MA (tk x50).name wv), Old w no] := H86
                                      refine g_nil ?_
                                      refine g_then ?_
                                      refine g_exit ?_
                                      refine g_then_exit ?_
                                      refine g_in_hit ?_
                                      refine g_then ?_
                                      refine g_region ?_
                                      refine l_of (s_val (v := .int .i64 ((z : Int) + 1)) (wt0 rfl) rfl rfl (x_bin rfl rfl rfl (b_add (w64 (by omega)))) ?_)
                                      refine l_of (s_val (v := .int .i64 ((z : Int) + 1)) (wt0 rfl) rfl rfl (x_move rfl rfl) ?_)
                                      refine g_nil ?_
                                      refine g_then ?_
                                      refine g_round (i := (z, rows, tk, tn, til, now, begun, MF, MA)) ((z + 1), rows, (upd tk x50 (⟨(tk x50).name, (tk x50).failed + 1, wv + waitS ((tk x50).failed + 1), (tk x50).ans, (tk x50).told || decide ((evS begun false false) = 2)⟩ : Tk)), wv, til, wv, begun, (upM MF (tk x50).name ((MF (tk x50).name).getD 0 + 1)), (upM MA (tk x50).name wv)) ?_ ?_ ?_
                                      · exact ⟨rfl, rfl, rfl, rfl, rfl, rfl, rfl, trivial⟩
                                      · exact ⟨by omega, hnrz, (hI.fail hxa (by omega) (by omega) _), (H86.takes [0, 3, 4, 1, 7, 8, 9] (by decide))⟩
                                      · (try dsimp only); omega
                                  · skip
                                    refine g_cond_f rfl (decide_eq_false hb78) ?_
                                    refine g_skip ?_
                                    refine g_then ?_
                                    refine g_seq ?_
                                    refine g_seq ?_
                                    refine g_region ?_
                                    refine l_of (s_val (v := .pointer (some ⟨g, 0, none⟩)) (wt0 rfl) rfl rfl (x_move rfl rfl) ?_)
                                    refine l_of (s_val (v := .int .i64 wv) (wt0 rfl) rfl rfl (x_move rfl rfl) ?_)
                                    refine l_of (s_val (v := .int .i64 xe) (wt0 rfl) rfl rfl (x_move rfl rfl) ?_)
                                    refine l_of (s_val (v := .int .i64 ((xe.tmod 100000))) (wt0 rfl) rfl rfl (x_bin rfl rfl rfl (b_rem (by decide) rfl)) ?_)
                                    refine l_of (s_val (v := .int .i64 ((xe.tmod 100000) + 100000)) (wt0 rfl) rfl rfl (x_bin rfl rfl rfl (b_add (w64 (by omega)))) ?_)
                                    refine l_of (s_val (v := .int .i64 (((xe.tmod 100000) + 100000) % 100000)) (wt0 rfl) rfl rfl (x_bin rfl rfl rfl (b_rem (by omega) (rem0 (by omega)))) ?_)
                                    refine l_of (s_val (v := .int .i64 (1 + (((xe.tmod 100000) + 100000) % 100000))) (wt0 rfl) rfl rfl (x_bin rfl rfl rfl (b_add (w64 (by omega)))) ?_)
                                    refine l_of (s_call (wt0 rfl) (x_call' rfl rfl cl15) (answer_s hnrz hnr2 hrlz hxa (by omega) _ (H76.takes [1, 2, 3, 4] (by decide))) ?_)
                                    rintro ee89 wq87 hor90
                                    rcases hor90 with ⟨hi9, rfl, H88⟩ | ⟨_, _, hl9, rfl, H88⟩ | ⟨_, _, hl0, he9, rfl, H88⟩ | ⟨_, _, hl0, he9, rfl, H88⟩
                                    · skip
                                      omega
                                    · skip
                                      exact absurd (tellS_ok (by omega) (by omega)) hl9
                                    · skip
                                      exact absurd he9 hev
                                    · skip
                                      replace H88 : S wq87 [Ob g (.cells #[.pointer none, .int .i64 0, .slice P nr C, (.map (some mg)), .int .i64 wv, .int .i64 ((wv + (1 + (((xe.tmod 100000) + 100000) % 100000)))), .bool ((begun || decide ((evS begun false false) = 1))), .bool false, .bool ((false && !decide ((evS begun false false) = 3))), .bool false] 64 (0, 0)), Rw 68 1 P nr C (rosV (rows.map (frontR x50))), RowsI 59 1 ptL (rows.map (frontR x50)), Fam 71 Tk.cells (adr (rows.map (frontR x50))) (upd tk x50 ⟨(tk x50).name, 0, 0, true, false⟩), Rw 9 1 p65 r.l.length c66 (stV (namesT tk r.l)), Ob g58 (.cells #[.int .i64 ((i48 : Int)), .int .i64 ((k49 : Int)), .int .i64 wv, .int .i64 ((evS begun false false))] 34 (0, 0)), Ob g43 (.cells #[.int .i64 0, .int .i64 0, .int .i64 0, .int .i64 0] 34 (0, 0)), Mp Value.string (fun x : Int => Value.int .i64 x) okT mf MF, Mp Value.string (fun x : Int => Value.int .i64 x) okT ma MA, Old w no] := H76.absorbI (new := [Ob g (.cells #[.pointer none, .int .i64 0, .slice P nr C, (.map (some mg)), .int .i64 wv, .int .i64 ((wv + (1 + (((xe.tmod 100000) + 100000) % 100000)))), .bool ((begun || decide ((evS begun false false) = 1))), .bool false, .bool ((false && !decide ((evS begun false false) = 3))), .bool false] 64 (0, 0)), Rw 68 1 P nr C (rosV (rows.map (frontR x50))), RowsI 59 1 ptL (rows.map (frontR x50)), Fam 71 Tk.cells (adr (rows.map (frontR x50))) (upd tk x50 ⟨(tk x50).name, 0, 0, true, false⟩)]) [1, 2, 3, 4] H88
                                      refine b_ret rfl rfl ?_
                                      refine l_of (s_val (v := .bool (!decide ((0 : Int) = 0))) (wt0 rfl) rfl rfl (x_bin rfl rfl rfl b_neq) ?_)
                                      refine g_nil ?_
                                      refine g_then ?_
                                      refine g_weak [(7, .pointer (some ⟨g, 0, none⟩)), (9, .map (some mf)), (10, .map (some ma)), (11, .int .i64 wv), (18, .pointer (some ⟨g58, 0, none⟩)), (20, .string ((tk x50).name)), (46, .slice pe ne ce), (47, .int .i64 ((ne : Int))), (48, .int .i64 ((z : Int))), (125, .int .i64 wv), (126, .map (some ma)), (127, .string ((tk x50).name)), (128, .int .i64 (((MA (tk x50).name).getD 0))), (129, .map (some mf)), (130, .string ((tk x50).name)), (131, .int .i64 (((MF (tk x50).name).getD 0))), (132, .int .i64 ((waitS ((MF (tk x50).name).getD 0)))), (133, .int .i64 (((MA (tk x50).name).getD 0) + (waitS ((MF (tk x50).name).getD 0)))), (134, .bool (decide ((wv : Int) < ((MA (tk x50).name).getD 0) + (waitS ((MF (tk x50).name).getD 0))))), (159, .bool (!decide ((0 : Int) = 0)))] ⟨rfl, rfl, rfl, rfl, rfl, rfl, rfl, rfl, rfl, rfl, rfl, rfl, rfl, rfl, rfl, rfl, rfl, rfl, rfl, rfl, trivial⟩ ?_
                                      refine g_cond_f rfl (nf rfl) ?_
                                      refine g_skip ?_
                                      refine g_then ?_
                                      refine g_seq ?_
                                      refine g_region ?_
                                      refine l_of (s_val (v := .map (some mf)) (wt0 rfl) rfl rfl (x_move rfl rfl) ?_)
                                      refine l_of (s_val (v := .string ((tk x50).name)) (wt0 rfl) rfl rfl (x_move rfl rfl) ?_)
                                      refine l_of (s_mapUpdate (x := (tk x50).name) (a := 0) (strTy Try.underlying30 Try.underlying9) H88 7 (wt0 rfl) rfl rfl rfl rfl rfl rfl hokT ?_)
                                      intro wq91 H92
                                      replace H92 : S wq91 [Ob g (.cells #[.pointer none, .int .i64 0, .slice P nr C, (.map (some mg)), .int .i64 wv, .int .i64 ((wv + (1 + (((xe.tmod 100000) + 100000) % 100000)))), .bool ((begun || decide ((evS begun false false) = 1))), .bool false, .bool ((false && !decide ((evS begun false false) = 3))), .bool false] 64 (0, 0)), Rw 68 1 P nr C (rosV (rows.map (frontR x50))), RowsI 59 1 ptL (rows.map (frontR x50)), Fam 71 Tk.cells (adr (rows.map (frontR x50))) (upd tk x50 ⟨(tk x50).name, 0, 0, true, false⟩), Rw 9 1 p65 r.l.length c66 (stV (namesT tk r.l)), Ob g58 (.cells #[.int .i64 ((i48 : Int)), .int .i64 ((k49 : Int)), .int .i64 wv, .int .i64 ((evS begun false false))] 34 (0, 0)), Ob g43 (.cells #[.int .i64 0, .int .i64 0, .int .i64 0, .int .i64 0] 34 (0, 0)), Mp Value.string (fun x : Int => Value.int .i64 x) okT mf (upM MF (tk x50).name 0), Mp Value.string (fun x : Int => Value.int .i64 x) okT ma MA, Old w no] := H92
                                      refine g_nil ?_
                                      refine g_then ?_
                                      refine g_seq ?_
                                      refine g_region ?_
                                      refine l_of (s_val (v := .pointer (some ⟨g, 0, none⟩)) (wt0 rfl) rfl rfl (x_move rfl rfl) ?_)
                                      refine l_of (s_val (v := .pointer (some ⟨g58, 0, none⟩)) (wt0 rfl) rfl rfl (x_fieldAddr rfl rfl fo34_0 rfl) ?_)
                                      refine l_of (s_val (v := .int .i64 ((i48 : Int))) (wt0 rfl) rfl rfl (x_load1 H92 5 rfl rfl Try.underlying3 rfl rfl rfl) ?_)
                                      have hrowf : (rows.map (frontR x50))[i48]? = some (frontR x50 r) := by rw [List.getElem?_map, hrow]; rfl
                                      have hfl : (frontR x50 r).l.length = r.l.length := frontL_len x50 r.l
                                      have hrlf : ∀ q ∈ rows.map (frontR x50), q.l.length ≤ 1000 := fun q hq => by obtain ⟨q2, hq2, rfl⟩ := List.mem_map.1 hq; exact Nat.le_trans (Nat.le_of_eq (frontL_len _ _)) (hrlz q2 hq2)
                                      refine l_of (s_call (wt0 rfl) (x_call' rfl rfl cl12) (order_s (by rw [List.length_map]; exact hnrz) hnr2 hrlf _ (H92.takes [0, 1, 2, 3] (by decide))) ?_)
                                      rintro ee100 wq98 hor101
                                      rcases hor101 with ⟨hq9, rfl, H99⟩ | ⟨j93, rr97, p95, c96, hq9, hrw94, rfl, H99⟩
                                      · skip
                                        omega
                                      · skip
                                        have hj9 : j93 = i48 := by omega
                                        rw [hj9, hrowf] at hrw94
                                        obtain rfl := Option.some.inj hrw94
                                        replace H99 : S wq98 [Rw 9 1 p95 (frontR x50 r).l.length c96 (stV (namesT (upd tk x50 ⟨(tk x50).name, 0, 0, true, false⟩) (frontR x50 r).l)), Ob g (.cells #[.pointer none, .int .i64 0, .slice P nr C, (.map (some mg)), .int .i64 wv, .int .i64 ((wv + (1 + (((xe.tmod 100000) + 100000) % 100000)))), .bool ((begun || decide ((evS begun false false) = 1))), .bool false, .bool ((false && !decide ((evS begun false false) = 3))), .bool false] 64 (0, 0)), Rw 68 1 P nr C (rosV (rows.map (frontR x50))), RowsI 59 1 ptL (rows.map (frontR x50)), Fam 71 Tk.cells (adr (rows.map (frontR x50))) (upd tk x50 ⟨(tk x50).name, 0, 0, true, false⟩), Rw 9 1 p65 r.l.length c66 (stV (namesT tk r.l)), Ob g58 (.cells #[.int .i64 ((i48 : Int)), .int .i64 ((k49 : Int)), .int .i64 wv, .int .i64 ((evS begun false false))] 34 (0, 0)), Ob g43 (.cells #[.int .i64 0, .int .i64 0, .int .i64 0, .int .i64 0] 34 (0, 0)), Mp Value.string (fun x : Int => Value.int .i64 x) okT mf (upM MF (tk x50).name 0), Mp Value.string (fun x : Int => Value.int .i64 x) okT ma MA, Old w no] := H92.absorbI (new := [Rw 9 1 p95 (frontR x50 r).l.length c96 (stV (namesT (upd tk x50 ⟨(tk x50).name, 0, 0, true, false⟩) (frontR x50 r).l)), Ob g (.cells #[.pointer none, .int .i64 0, .slice P nr C, (.map (some mg)), .int .i64 wv, .int .i64 ((wv + (1 + (((xe.tmod 100000) + 100000) % 100000)))), .bool ((begun || decide ((evS begun false false) = 1))), .bool false, .bool ((false && !decide ((evS begun false false) = 3))), .bool false] 64 (0, 0)), Rw 68 1 P nr C (rosV (rows.map (frontR x50))), RowsI 59 1 ptL (rows.map (frontR x50)), Fam 71 Tk.cells (adr (rows.map (frontR x50))) (upd tk x50 ⟨(tk x50).name, 0, 0, true, false⟩)]) [0, 1, 2, 3] H99
                                        refine b_ret rfl rfl ?_
                                        refine l_of (s_val (v := .tuple #[.slice p95 (frontR x50 r).l.length c96, .int .i64 0]) (wt0 rfl) rfl rfl (x_move rfl rfl) ?_)
                                        refine l_of (s_val (v := .slice p95 (frontR x50 r).l.length c96) (wt0 rfl) rfl rfl (x_extract rfl rfl rfl) ?_)
                                        refine l_of (s_val (v := .int .i64 0) (wt0 rfl) rfl rfl (x_extract rfl rfl rfl) ?_)
                                        refine l_of (s_val (v := .slice p95 (frontR x50 r).l.length c96) (wt0 rfl) rfl rfl (x_assign rfl rfl) ?_)
                                        refine l_of (s_val (v := .int .i64 0) (wt0 rfl) rfl rfl (x_assign rfl rfl) ?_)
                                        refine g_nil ?_
                                        refine g_then ?_
                                        refine g_seq ?_
                                        refine g_region ?_
                                        refine l_of (s_val (v := .int .i64 0) (wt0 rfl) rfl rfl (x_move rfl rfl) ?_)
                                        refine l_of (s_val (v := .bool (!decide ((0 : Int) = 0))) (wt0 rfl) rfl rfl (x_bin rfl rfl rfl b_neq) ?_)
                                        refine l_of (s_val (v := .bool (!decide ((0 : Int) = 0))) (wt0 rfl) rfl rfl (x_move rfl rfl) ?_)
                                        refine l_of (s_val (v := .slice p95 (frontR x50 r).l.length c96) (wt1 rfl rfl rfl rfl (nf rfl)) rfl rfl (x_move rfl rfl) ?_)
                                        refine l_of (s_val (v := .int .i64 (((frontR x50 r).l.length : Int))) (wt1 rfl rfl rfl rfl (nf rfl)) rfl rfl (x_lenl rfl rfl Try.underlying37) ?_)
                                        refine l_of (s_val (v := .bool (decide ((((frontR x50 r).l.length : Int) : Int) = 0))) (wt1 rfl rfl rfl rfl (nf rfl)) rfl rfl (x_bin rfl rfl rfl b_eql) ?_)
                                        refine l_of (s_val (v := .bool (decide ((((frontR x50 r).l.length : Int) : Int) = 0))) (wt0 rfl) rfl rfl (x_pick_f rfl rfl (nf rfl) rfl) ?_)
                                        refine l_of (s_val (v := .bool (decide ((((frontR x50 r).l.length : Int) : Int) = 0))) (wt0 rfl) rfl rfl (x_move rfl rfl) ?_)
                                        by_cases hb102 : (((frontR x50 r).l.length : Int) : Int) = 0
                                        · skip
                                          refine l_of (s_not (wn1 rfl rfl rfl rfl (decide_eq_true hb102)) rfl rfl ?_)
                                          refine l_of (s_not (wn1 rfl rfl rfl rfl (decide_eq_true hb102)) rfl rfl ?_)
                                          refine l_of (s_not (wn1 rfl rfl rfl rfl (decide_eq_true hb102)) rfl rfl ?_)
                                          refine l_of (s_not (wn1 rfl rfl rfl rfl (decide_eq_true hb102)) rfl rfl ?_)
                                          refine l_of (s_not (wn1 rfl rfl rfl rfl (decide_eq_true hb102)) rfl rfl ?_)
                                          refine l_of (s_val (v := .bool true) (wt0 rfl) rfl rfl (x_pick_t rfl rfl (decide_eq_true hb102) rfl) ?_)
                                          refine g_nil ?_
                                          refine g_then ?_
                                          refine g_weak [(7, .pointer (some ⟨g, 0, none⟩)), (9, .map (some mf)), (10, .map (some ma)), (11, .int .i64 wv), (46, .slice pe ne ce), (47, .int .i64 ((ne : Int))), (48, .int .i64 ((z : Int))), (125, .int .i64 wv), (126, .map (some ma)), (127, .string ((tk x50).name)), (128, .int .i64 (((MA (tk x50).name).getD 0))), (129, .map (some mf)), (130, .string ((tk x50).name)), (131, .int .i64 (((MF (tk x50).name).getD 0))), (132, .int .i64 ((waitS ((MF (tk x50).name).getD 0)))), (133, .int .i64 (((MA (tk x50).name).getD 0) + (waitS ((MF (tk x50).name).getD 0)))), (134, .bool (decide ((wv : Int) < ((MA (tk x50).name).getD 0) + (waitS ((MF (tk x50).name).getD 0))))), (182, .bool true)] ⟨rfl, rfl, rfl, rfl, rfl, rfl, rfl, rfl, rfl, rfl, rfl, rfl, rfl, rfl, rfl, rfl, rfl, rfl, trivial⟩ ?_
                                          refine g_cond_t rfl rfl ?_
                                          refine g_seq ?_
                                          refine g_region ?_
                                          refine l_of (s_val (v := .bool false) (wt0 rfl) rfl rfl (x_assign rfl rfl) ?_)
                                          refine g_nil ?_
                                          refine g_then ?_
                                          refine g_weak [(6, .bool false)] ⟨rfl, trivial⟩ ?_
                                          refine g_ret ?_
                                          refine g_in_ret ?_
                                          refine g_then_ret ?_
                                          refine g_then_ret ?_
                                          refine g_in_ret ?_
                                          refine g_then_ret ?_
                                          refine fin_ret [.tmp 6] [.bool false] rfl ⟨rfl, trivial⟩ ?_
                                          exfalso; omega
                                        · skip
                                          refine l_of (s_val (v := .slice p95 (frontR x50 r).l.length c96) (wt1 rfl rfl rfl rfl (decide_eq_false hb102)) rfl rfl (x_move rfl rfl) ?_)
                                          refine l_of (s_val (v := .pointer ((p95).map fun q => q.add (0 * 1))) (wt1 rfl rfl rfl rfl (decide_eq_false hb102)) rfl rfl (x_idxR 0 (H99.rwReads (k := 0) rfl) rfl rfl rfl Try.underlying37 sz9 (by omega)) ?_)
                                          refine l_of (s_val (v := .string ((tk x50).name)) (wt1 rfl rfl rfl rfl (decide_eq_false hb102)) rfl rfl (x_loadR1 0 (H99.rwReads (k := 0) rfl) (by omega) rfl rfl Try.underlying9 rfl (stV_at ((names_at (tk := (upd tk x50 ⟨(tk x50).name, 0, 0, true, false⟩)) (front_first (List.mem_of_getElem? hkx))).trans (by rw [upd_same])))) ?_)
                                          refine l_of (s_val (v := .string ((tk x50).name)) (wt1 rfl rfl rfl rfl (decide_eq_false hb102)) rfl rfl (x_move rfl rfl) ?_)
                                          refine l_of (s_val (v := .bool (!decide ((tk x50).name = (tk x50).name))) (wt1 rfl rfl rfl rfl (decide_eq_false hb102)) rfl rfl (x_bin rfl rfl rfl b_nes) ?_)
                                          refine l_of (s_val (v := .bool (!decide ((tk x50).name = (tk x50).name))) (wt0 rfl) rfl rfl (x_pick_f rfl rfl (decide_eq_false hb102) rfl) ?_)
                                          refine g_nil ?_
                                          refine g_then ?_
                                          refine g_weak [(7, .pointer (some ⟨g, 0, none⟩)), (9, .map (some mf)), (10, .map (some ma)), (11, .int .i64 wv), (46, .slice pe ne ce), (47, .int .i64 ((ne : Int))), (48, .int .i64 ((z : Int))), (125, .int .i64 wv), (126, .map (some ma)), (127, .string ((tk x50).name)), (128, .int .i64 (((MA (tk x50).name).getD 0))), (129, .map (some mf)), (130, .string ((tk x50).name)), (131, .int .i64 (((MF (tk x50).name).getD 0))), (132, .int .i64 ((waitS ((MF (tk x50).name).getD 0)))), (133, .int .i64 (((MA (tk x50).name).getD 0) + (waitS ((MF (tk x50).name).getD 0)))), (134, .bool (decide ((wv : Int) < ((MA (tk x50).name).getD 0) + (waitS ((MF (tk x50).name).getD 0))))), (182, .bool (!decide ((tk x50).name = (tk x50).name)))] ⟨rfl, rfl, rfl, rfl, rfl, rfl, rfl, rfl, rfl, rfl, rfl, rfl, rfl, rfl, rfl, rfl, rfl, rfl, trivial⟩ ?_
                                          refine g_cond_f rfl (nf rfl) ?_
                                          refine g_skip ?_
                                          refine g_in ?_
                                          refine g_then ?_
                                          refine g_region ?_
                                          refine l_of (s_val (v := .int .i64 ((z : Int) + 1)) (wt0 rfl) rfl rfl (x_bin rfl rfl rfl (b_add (w64 (by omega)))) ?_)
                                          refine l_of (s_val (v := .int .i64 ((z : Int) + 1)) (wt0 rfl) rfl rfl (x_move rfl rfl) ?_)
                                          refine g_nil ?_
                                          refine g_then ?_
                                          refine g_round (i := (z, rows, tk, tn, til, now, begun, MF, MA)) ((z + 1), (rows.map (frontR x50)), (upd tk x50 ⟨(tk x50).name, 0, 0, true, false⟩), wv, (wv + (1 + (((xe.tmod 100000) + 100000) % 100000))), wv, (begun || decide ((evS begun false false) = 1)), (upM MF (tk x50).name 0), MA) ?_ ?_ ?_
                                          · exact ⟨rfl, rfl, rfl, rfl, rfl, rfl, rfl, trivial⟩
                                          · exact ⟨by omega, (by rw [List.length_map]; exact hnrz), (hI.answer hxa (by omega) (by omega) (by omega) (by omega)), (H99.takes [1, 2, 3, 4, 8, 9, 10] (by decide))⟩
                                          · (try dsimp only); omega
                              · skip
                                refine q_not (wn1 rfl rfl rfl rfl (decide_eq_false hb74)) rfl rfl ?_
                                refine q_not (wn1 rfl rfl rfl rfl (decide_eq_false hb74)) rfl rfl ?_
                                refine q_not (wn1 rfl rfl rfl rfl (decide_eq_false hb74)) rfl rfl ?_
                                refine q_not (wn1 rfl rfl rfl rfl (decide_eq_false hb74)) rfl rfl ?_
                                refine q_not (wn1 rfl rfl rfl rfl (decide_eq_false hb74)) rfl rfl ?_
                                refine q_not (wn1 rfl rfl rfl rfl (decide_eq_false hb74)) rfl rfl ?_
                                refine q_not (wn1 rfl rfl rfl rfl (decide_eq_false hb74)) rfl rfl ?_
                                refine q_not (wn1 rfl rfl rfl rfl (decide_eq_false hb74)) rfl rfl ?_
                                refine q_not (wn1 rfl rfl rfl rfl (decide_eq_false hb74)) rfl rfl ?_
                                refine q_not (wn1 rfl rfl rfl rfl (decide_eq_false hb74)) rfl rfl ?_
                                refine q_val (v := .bool false) (wt0 rfl) rfl rfl (fun wx H => x_pick_f rfl rfl (decide_eq_false hb74) rfl) ?_
                                refine q_nil (fun wq103 H104 => ?_)
                                refine g_then ?_
                                refine g_weak [(7, .pointer (some ⟨g, 0, none⟩)), (9, .map (some mf)), (10, .map (some ma)), (13, .int .i64 xe), (14, .int .i64 wv), (18, .pointer (some ⟨g58, 0, none⟩)), (20, .string ((tk x50).name)), (46, .slice pe ne ce), (47, .int .i64 ((ne : Int))), (48, .int .i64 ((z : Int))), (125, undef), (126, undef), (127, undef), (128, undef), (129, undef), (130, undef), (131, undef), (132, undef), (133, undef), (134, undef), (135, .bool false)] ⟨rfl, rfl, rfl, rfl, rfl, rfl, rfl, rfl, rfl, rfl, rfl, rfl, rfl, rfl, rfl, rfl, rfl, rfl, rfl, rfl, rfl, trivial⟩ ?_
                                refine g_cond_f rfl rfl ?_
                                refine g_skip ?_
                                refine g_then ?_
                                refine g_seq ?_
                                refine g_region ?_
                                refine l_of (s_val (v := .int .i64 wv) (wt0 rfl) rfl rfl (x_move rfl rfl) ?_)
                                refine l_of (s_val (v := .int .i64 wv) (wt0 rfl) rfl rfl (x_assign rfl rfl) ?_)
                                refine g_nil ?_
                                refine g_then ?_
                                refine g_seq ?_
                                refine g_seq ?_
                                refine g_region ?_
                                refine l_of (s_val (v := .int .i64 xe) (wt0 rfl) rfl rfl (x_move rfl rfl) ?_)
                                refine l_of (s_val (v := .int .i64 ((xe.tmod 3))) (wt0 rfl) rfl rfl (x_bin rfl rfl rfl (b_rem (by decide) rfl)) ?_)
                                refine l_of (s_val (v := .bool (decide (((xe.tmod 3) : Int) = 0))) (wt0 rfl) rfl rfl (x_bin rfl rfl rfl b_eql) ?_)
                                refine g_nil ?_
                                refine g_then ?_
                                by_cases hb105 : ((xe.tmod 3) : Int) = 0
                                · skip
                                  refine g_cond_t rfl (decide_eq_true hb105) ?_
                                  refine g_seq ?_
                                  refine g_seq ?_
                                  refine g_region ?_
                                  refine l_of (s_val (v := .pointer (some ⟨g, 0, none⟩)) (wt0 rfl) rfl rfl (x_move rfl rfl) ?_)
                                  refine l_of (s_val (v := .int .i64 wv) (wt0 rfl) rfl rfl (x_move rfl rfl) ?_)
                                  refine l_of (s_call (wt0 rfl) (x_call' rfl rfl cl14) (fail_f hxa (by omega) (by omega) (by omega) _ (H104.takes [1, 4] (by decide))) ?_)
                                  rintro ee108 wq106 hor109
                                  rcases hor109 with ⟨hl9, rfl, H107⟩ | ⟨hl0, rfl, H107⟩
                                  · skip
                                    exact absurd (tellS_ok (by omega) (by omega)) hl9
                                  · skip
                                    replace H107 : S wq106 [Ob g (.cells #[.pointer none, .int .i64 0, .slice P nr C, (.map (some mg)), .int .i64 wv, .int .i64 til, .bool begun, .bool false, .bool false, .bool false] 64 (0, 0)), Fam 71 Tk.cells (adr rows) (upd tk x50 (⟨(tk x50).name, (tk x50).failed + 1, wv + waitS ((tk x50).failed + 1), (tk x50).ans, (tk x50).told || decide ((evS begun false false) = 2)⟩ : Tk)), Rw 9 1 p65 r.l.length c66 (stV (namesT tk r.l)), Rw 68 1 P nr C (rosV rows), RowsI 59 1 ptL rows, Ob g58 (.cells #[.int .i64 ((i48 : Int)), .int .i64 ((k49 : Int)), .int .i64 wv, .int .i64 ((evS begun false false))] 34 (0, 0)), Ob g43 (.cells #[.int .i64 0, .int .i64 0, .int .i64 0, .int .i64 0] 34 (0, 0)), Mp Value.string (fun x : Int => Value.int .i64 x) okT mf MF, Mp Value.string (fun x : Int => Value.int .i64 x) okT ma MA, Old w no] := H104.absorbI (new := [Ob g (.cells #[.pointer none, .int .i64 0, .slice P nr C, (.map (some mg)), .int .i64 wv, .int .i64 til, .bool begun, .bool false, .bool false, .bool false] 64 (0, 0)), Fam 71 Tk.cells (adr rows) (upd tk x50 (⟨(tk x50).name, (tk x50).failed + 1, wv + waitS ((tk x50).failed + 1), (tk x50).ans, (tk x50).told || decide ((evS begun false false) = 2)⟩ : Tk))]) [1, 4] H107
                                    refine b_ret rfl rfl ?_
                                    refine l_of (s_val (v := .bool (!decide ((0 : Int) = 0))) (wt0 rfl) rfl rfl (x_bin rfl rfl rfl b_neq) ?_)
                                    refine g_nil ?_
                                    refine g_then ?_
                                    refine g_cond_f rfl (nf rfl) ?_
                                    refine g_skip ?_
                                    refine g_then ?_
                                    refine g_weak [(7, .pointer (some ⟨g, 0, none⟩)), (9, .map (some mf)), (10, .map (some ma)), (11, .int .i64 wv), (20, .string ((tk x50).name)), (46, .slice pe ne ce), (47, .int .i64 ((ne : Int))), (48, .int .i64 ((z : Int))), (125, undef), (126, undef), (127, undef), (128, undef), (129, undef), (130, undef), (131, undef), (132, undef), (133, undef), (134, undef)] ⟨rfl, rfl, rfl, rfl, rfl, rfl, rfl, rfl, rfl, rfl, rfl, rfl, rfl, rfl, rfl, rfl, rfl, rfl, trivial⟩ ?_
                                    refine g_seq ?_
                                    refine g_region ?_
                                    refine l_of (s_val (v := .map (some mf)) (wt0 rfl) rfl rfl (x_move rfl rfl) ?_)
                                    refine l_of (s_val (v := .string ((tk x50).name)) (wt0 rfl) rfl rfl (x_move rfl rfl) ?_)
                                    refine l_of (s_val (v := .int .i64 (((MF (tk x50).name).getD 0))) (wt0 rfl) rfl rfl (ex_cast (x_lookup1 (x := (tk x50).name) (strTy Try.underlying30 Try.underlying9) H107 7 rfl rfl rfl rfl hokT ze3) (look_I _)) ?_)
                                    refine l_of (s_val (v := .int .i64 (((MF (tk x50).name).getD 0) + 1)) (wt0 rfl) rfl rfl (x_bin rfl rfl rfl (b_add (w64 (by omega)))) ?_)
                                    refine l_of (s_mapUpdate (x := (tk x50).name) (a := ((MF (tk x50).name).getD 0 + 1)) (strTy Try.underlying30 Try.underlying9) H107 7 (wt0 rfl) rfl rfl rfl rfl rfl rfl hokT ?_)
                                    intro wq110 H111
                                    replace H111 : S wq110 [Ob g (.cells #[.pointer none, .int .i64 0, .slice P nr C, (.map (some mg)), .int .i64 wv, .int .i64 til, .bool begun, .bool false, .bool false, .bool false] 64 (0, 0)), Fam 71 Tk.cells (adr rows) (upd tk x50 (⟨(tk x50).name, (tk x50).failed + 1, wv + waitS ((tk x50).failed + 1), (tk x50).ans, (tk x50).told || decide ((evS begun false false) = 2)⟩ : Tk)), Rw 9 1 p65 r.l.length c66 (stV (namesT tk r.l)), Rw 68 1 P nr C (rosV rows), RowsI 59 1 ptL rows, Ob g58 (.cells #[.int .i64 ((i48 : Int)), .int .i64 ((k49 : Int)), .int .i64 wv, .int .i64 ((evS begun false false))] 34 (0, 0)), Ob g43 (.cells #[.int .i64 0, .int .i64 0, .int .i64 0, .int .i64 0] 34 (0, 0)), Mp Value.string (fun x : Int => Value.int .i64 x) okT mf (upM MF (tk x50).name ((MF (tk x50).name).getD 0 + 1)), Mp Value.string (fun x : Int => Value.int .i64 x) okT ma MA, Old w no] := H111
                                    refine g_nil ?_
                                    refine g_then ?_
                                    refine g_seq ?_
                                    refine g_region ?_
                                    refine l_of (s_val (v := .map (some ma)) (wt0 rfl) rfl rfl (x_move rfl rfl) ?_)
                                    refine l_of (s_val (v := .string ((tk x50).name)) (wt0 rfl) rfl rfl (x_move rfl rfl) ?_)
                                    refine l_of (s_val (v := .int .i64 wv) (wt0 rfl) rfl rfl (x_move rfl rfl) ?_)
                                    refine l_of (s_mapUpdate (x := (tk x50).name) (a := wv) (strTy Try.underlying30 Try.underlying9) H111 8 (wt0 rfl) rfl rfl rfl rfl rfl rfl hokT ?_)
                                    intro wq112 H113
                                    replace H113 : S wq112 [Ob g (.cells #[.pointer none, .int .i64 0, .slice P nr C, (.map (some mg)), .int .i64 wv, .int .i64 til, .bool begun, .bool false, .bool false, .bool false] 64 (0, 0)), Fam 71 Tk.cells (adr rows) (upd tk x50 (⟨(tk x50).name, (tk x50).failed + 1, wv + waitS ((tk x50).failed + 1), (tk x50).ans, (tk x50).told || decide ((evS begun false false) = 2)⟩ : Tk)), Rw 9 1 p65 r.l.length c66 (stV (namesT tk r.l)), Rw 68 1 P nr C (rosV rows), RowsI 59 1 ptL rows, Ob g58 (.cells #[.int .i64 ((i48 : Int)), .int .i64 ((k49 : Int)), .int .i64 wv, .int .i64 ((evS begun false false))] 34 (0, 0)), Ob g43 (.cells #[.int .i64 0, .int .i64 0, .int .i64 0, .int .i64 0] 34 (0, 0)), Mp Value.string (fun x : Int => Value.int .i64 x) okT mf (upM MF (tk x50).name ((MF (tk x50).name).getD 0 + 1)), Mp Value.string (fun x : Int => Value.int .i64 x) okT ma (upM MA (tk x50).name wv), Old w no] := H113
                                    refine g_nil ?_
                                    refine g_then ?_
                                    refine g_exit ?_
                                    refine g_then_exit ?_
                                    refine g_in_hit ?_
                                    refine g_then ?_
                                    refine g_region ?_
                                    refine l_of (s_val (v := .int .i64 ((z : Int) + 1)) (wt0 rfl) rfl rfl (x_bin rfl rfl rfl (b_add (w64 (by omega)))) ?_)
                                    refine l_of (s_val (v := .int .i64 ((z : Int) + 1)) (wt0 rfl) rfl rfl (x_move rfl rfl) ?_)
                                    refine g_nil ?_
                                    refine g_then ?_
                                    refine g_round (i := (z, rows, tk, tn, til, now, begun, MF, MA)) ((z + 1), rows, (upd tk x50 (⟨(tk x50).name, (tk x50).failed + 1, wv + waitS ((tk x50).failed + 1), (tk x50).ans, (tk x50).told || decide ((evS begun false false) = 2)⟩ : Tk)), wv, til, wv, begun, (upM MF (tk x50).name ((MF (tk x50).name).getD 0 + 1)), (upM MA (tk x50).name wv)) ?_ ?_ ?_
                                    · exact ⟨rfl, rfl, rfl, rfl, rfl, rfl, rfl, trivial⟩
                                    · exact ⟨by omega, hnrz, (hI.fail hxa (by omega) (by omega) _), (H113.takes [0, 3, 4, 1, 7, 8, 9] (by decide))⟩
                                    · (try dsimp only); omega
                                · skip
                                  refine g_cond_f rfl (decide_eq_false hb105) ?_
                                  refine g_skip ?_
                                  refine g_then ?_
                                  refine g_seq ?_
                                  refine g_seq ?_
                                  refine g_region ?_
                                  refine l_of (s_val (v := .pointer (some ⟨g, 0, none⟩)) (wt0 rfl) rfl rfl (x_move rfl rfl) ?_)
                                  refine l_of (s_val (v := .int .i64 wv) (wt0 rfl) rfl rfl (x_move rfl rfl) ?_)
                                  refine l_of (s_val (v := .int .i64 xe) (wt0 rfl) rfl rfl (x_move rfl rfl) ?_)
                                  refine l_of (s_val (v := .int .i64 ((xe.tmod 100000))) (wt0 rfl) rfl rfl (x_bin rfl rfl rfl (b_rem (by decide) rfl)) ?_)
                                  refine l_of (s_val (v := .int .i64 ((xe.tmod 100000) + 100000)) (wt0 rfl) rfl rfl (x_bin rfl rfl rfl (b_add (w64 (by omega)))) ?_)
                                  refine l_of (s_val (v := .int .i64 (((xe.tmod 100000) + 100000) % 100000)) (wt0 rfl) rfl rfl (x_bin rfl rfl rfl (b_rem (by omega) (rem0 (by omega)))) ?_)
                                  refine l_of (s_val (v := .int .i64 (1 + (((xe.tmod 100000) + 100000) % 100000))) (wt0 rfl) rfl rfl (x_bin rfl rfl rfl (b_add (w64 (by omega)))) ?_)
                                  refine l_of (s_call (wt0 rfl) (x_call' rfl rfl cl15) (answer_s hnrz hnr2 hrlz hxa (by omega) _ (H104.takes [1, 2, 3, 4] (by decide))) ?_)
                                  rintro ee116 wq114 hor117
                                  rcases hor117 with ⟨hi9, rfl, H115⟩ | ⟨_, _, hl9, rfl, H115⟩ | ⟨_, _, hl0, he9, rfl, H115⟩ | ⟨_, _, hl0, he9, rfl, H115⟩
                                  · skip
                                    omega
                                  · skip
                                    exact absurd (tellS_ok (by omega) (by omega)) hl9
                                  · skip
                                    exact absurd he9 hev
                                  · skip
                                    replace H115 : S wq114 [Ob g (.cells #[.pointer none, .int .i64 0, .slice P nr C, (.map (some mg)), .int .i64 wv, .int .i64 ((wv + (1 + (((xe.tmod 100000) + 100000) % 100000)))), .bool ((begun || decide ((evS begun false false) = 1))), .bool false, .bool ((false && !decide ((evS begun false false) = 3))), .bool false] 64 (0, 0)), Rw 68 1 P nr C (rosV (rows.map (frontR x50))), RowsI 59 1 ptL (rows.map (frontR x50)), Fam 71 Tk.cells (adr (rows.map (frontR x50))) (upd tk x50 ⟨(tk x50).name, 0, 0, true, false⟩), Rw 9 1 p65 r.l.length c66 (stV (namesT tk r.l)), Ob g58 (.cells #[.int .i64 ((i48 : Int)), .int .i64 ((k49 : Int)), .int .i64 wv, .int .i64 ((evS begun false false))] 34 (0, 0)), Ob g43 (.cells #[.int .i64 0, .int .i64 0, .int .i64 0, .int .i64 0] 34 (0, 0)), Mp Value.string (fun x : Int => Value.int .i64 x) okT mf MF, Mp Value.string (fun x : Int => Value.int .i64 x) okT ma MA, Old w no] := H104.absorbI (new := [Ob g (.cells #[.pointer none, .int .i64 0, .slice P nr C, (.map (some mg)), .int .i64 wv, .int .i64 ((wv + (1 + (((xe.tmod 100000) + 100000) % 100000)))), .bool ((begun || decide ((evS begun false false) = 1))), .bool false, .bool ((false && !decide ((evS begun false false) = 3))), .bool false] 64 (0, 0)), Rw 68 1 P nr C (rosV (rows.map (frontR x50))), RowsI 59 1 ptL (rows.map (frontR x50)), Fam 71 Tk.cells (adr (rows.map (frontR x50))) (upd tk x50 ⟨(tk x50).name, 0, 0, true, false⟩)]) [1, 2, 3, 4] H115
                                    refine b_ret rfl rfl ?_
                                    refine l_of (s_val (v := .bool (!decide ((0 : Int) = 0))) (wt0 rfl) rfl rfl (x_bin rfl rfl rfl b_neq) ?_)
                                    refine g_nil ?_
                                    refine g_then ?_
                                    refine g_weak [(7, .pointer (some ⟨g, 0, none⟩)), (9, .map (some mf)), (10, .map (some ma)), (11, .int .i64 wv), (18, .pointer (some ⟨g58, 0, none⟩)), (20, .string ((tk x50).name)), (46, .slice pe ne ce), (47, .int .i64 ((ne : Int))), (48, .int .i64 ((z : Int))), (125, undef), (126, undef), (127, undef), (128, undef), (129, undef), (130, undef), (131, undef), (132, undef), (133, undef), (134, undef), (159, .bool (!decide ((0 : Int) = 0)))] ⟨rfl, rfl, rfl, rfl, rfl, rfl, rfl, rfl, rfl, rfl, rfl, rfl, rfl, rfl, rfl, rfl, rfl, rfl, rfl, rfl, trivial⟩ ?_
                                    refine g_cond_f rfl (nf rfl) ?_
                                    refine g_skip ?_
                                    refine g_then ?_
                                    refine g_seq ?_
                                    refine g_region ?_
                                    refine l_of (s_val (v := .map (some mf)) (wt0 rfl) rfl rfl (x_move rfl rfl) ?_)
                                    refine l_of (s_val (v := .string ((tk x50).name)) (wt0 rfl) rfl rfl (x_move rfl rfl) ?_)
                                    refine l_of (s_mapUpdate (x := (tk x50).name) (a := 0) (strTy Try.underlying30 Try.underlying9) H115 7 (wt0 rfl) rfl rfl rfl rfl rfl rfl hokT ?_)
                                    intro wq118 H119
                                    replace H119 : S wq118 [Ob g (.cells #[.pointer none, .int .i64 0, .slice P nr C, (.map (some mg)), .int .i64 wv, .int .i64 ((wv + (1 + (((xe.tmod 100000) + 100000) % 100000)))), .bool ((begun || decide ((evS begun false false) = 1))), .bool false, .bool ((false && !decide ((evS begun false false) = 3))), .bool false] 64 (0, 0)), Rw 68 1 P nr C (rosV (rows.map (frontR x50))), RowsI 59 1 ptL (rows.map (frontR x50)), Fam 71 Tk.cells (adr (rows.map (frontR x50))) (upd tk x50 ⟨(tk x50).name, 0, 0, true, false⟩), Rw 9 1 p65 r.l.length c66 (stV (namesT tk r.l)), Ob g58 (.cells #[.int .i64 ((i48 : Int)), .int .i64 ((k49 : Int)), .int .i64 wv, .int .i64 ((evS begun false false))] 34 (0, 0)), Ob g43 (.cells #[.int .i64 0, .int .i64 0, .int .i64 0, .int .i64 0] 34 (0, 0)), Mp Value.string (fun x : Int => Value.int .i64 x) okT mf (upM MF (tk x50).name 0), Mp Value.string (fun x : Int => Value.int .i64 x) okT ma MA, Old w no] := H119
                                    refine g_nil ?_
                                    refine g_then ?_
                                    refine g_seq ?_
                                    refine g_region ?_
                                    refine l_of (s_val (v := .pointer (some ⟨g, 0, none⟩)) (wt0 rfl) rfl rfl (x_move rfl rfl) ?_)
                                    refine l_of (s_val (v := .pointer (some ⟨g58, 0, none⟩)) (wt0 rfl) rfl rfl (x_fieldAddr rfl rfl fo34_0 rfl) ?_)
                                    refine l_of (s_val (v := .int .i64 ((i48 : Int))) (wt0 rfl) rfl rfl (x_load1 H119 5 rfl rfl Try.underlying3 rfl rfl rfl) ?_)
                                    have hrowf : (rows.map (frontR x50))[i48]? = some (frontR x50 r) := by rw [List.getElem?_map, hrow]; rfl
                                    have hfl : (frontR x50 r).l.length = r.l.length := frontL_len x50 r.l
                                    have hrlf : ∀ q ∈ rows.map (frontR x50), q.l.length ≤ 1000 := fun q hq => by obtain ⟨q2, hq2, rfl⟩ := List.mem_map.1 hq; exact Nat.le_trans (Nat.le_of_eq (frontL_len _ _)) (hrlz q2 hq2)
                                    refine l_of (s_call (wt0 rfl) (x_call' rfl rfl cl12) (order_s (by rw [List.length_map]; exact hnrz) hnr2 hrlf _ (H119.takes [0, 1, 2, 3] (by decide))) ?_)
                                    rintro ee127 wq125 hor128
                                    rcases hor128 with ⟨hq9, rfl, H126⟩ | ⟨j120, rr124, p122, c123, hq9, hrw121, rfl, H126⟩
                                    · skip
                                      omega
                                    · skip
                                      have hj9 : j120 = i48 := by omega
                                      rw [hj9, hrowf] at hrw121
                                      obtain rfl := Option.some.inj hrw121
                                      replace H126 : S wq125 [Rw 9 1 p122 (frontR x50 r).l.length c123 (stV (namesT (upd tk x50 ⟨(tk x50).name, 0, 0, true, false⟩) (frontR x50 r).l)), Ob g (.cells #[.pointer none, .int .i64 0, .slice P nr C, (.map (some mg)), .int .i64 wv, .int .i64 ((wv + (1 + (((xe.tmod 100000) + 100000) % 100000)))), .bool ((begun || decide ((evS begun false false) = 1))), .bool false, .bool ((false && !decide ((evS begun false false) = 3))), .bool false] 64 (0, 0)), Rw 68 1 P nr C (rosV (rows.map (frontR x50))), RowsI 59 1 ptL (rows.map (frontR x50)), Fam 71 Tk.cells (adr (rows.map (frontR x50))) (upd tk x50 ⟨(tk x50).name, 0, 0, true, false⟩), Rw 9 1 p65 r.l.length c66 (stV (namesT tk r.l)), Ob g58 (.cells #[.int .i64 ((i48 : Int)), .int .i64 ((k49 : Int)), .int .i64 wv, .int .i64 ((evS begun false false))] 34 (0, 0)), Ob g43 (.cells #[.int .i64 0, .int .i64 0, .int .i64 0, .int .i64 0] 34 (0, 0)), Mp Value.string (fun x : Int => Value.int .i64 x) okT mf (upM MF (tk x50).name 0), Mp Value.string (fun x : Int => Value.int .i64 x) okT ma MA, Old w no] := H119.absorbI (new := [Rw 9 1 p122 (frontR x50 r).l.length c123 (stV (namesT (upd tk x50 ⟨(tk x50).name, 0, 0, true, false⟩) (frontR x50 r).l)), Ob g (.cells #[.pointer none, .int .i64 0, .slice P nr C, (.map (some mg)), .int .i64 wv, .int .i64 ((wv + (1 + (((xe.tmod 100000) + 100000) % 100000)))), .bool ((begun || decide ((evS begun false false) = 1))), .bool false, .bool ((false && !decide ((evS begun false false) = 3))), .bool false] 64 (0, 0)), Rw 68 1 P nr C (rosV (rows.map (frontR x50))), RowsI 59 1 ptL (rows.map (frontR x50)), Fam 71 Tk.cells (adr (rows.map (frontR x50))) (upd tk x50 ⟨(tk x50).name, 0, 0, true, false⟩)]) [0, 1, 2, 3] H126
                                      refine b_ret rfl rfl ?_
                                      refine l_of (s_val (v := .tuple #[.slice p122 (frontR x50 r).l.length c123, .int .i64 0]) (wt0 rfl) rfl rfl (x_move rfl rfl) ?_)
                                      refine l_of (s_val (v := .slice p122 (frontR x50 r).l.length c123) (wt0 rfl) rfl rfl (x_extract rfl rfl rfl) ?_)
                                      refine l_of (s_val (v := .int .i64 0) (wt0 rfl) rfl rfl (x_extract rfl rfl rfl) ?_)
                                      refine l_of (s_val (v := .slice p122 (frontR x50 r).l.length c123) (wt0 rfl) rfl rfl (x_assign rfl rfl) ?_)
                                      refine l_of (s_val (v := .int .i64 0) (wt0 rfl) rfl rfl (x_assign rfl rfl) ?_)
                                      refine g_nil ?_
                                      refine g_then ?_
                                      refine g_seq ?_
                                      refine g_region ?_
                                      refine l_of (s_val (v := .int .i64 0) (wt0 rfl) rfl rfl (x_move rfl rfl) ?_)
                                      refine l_of (s_val (v := .bool (!decide ((0 : Int) = 0))) (wt0 rfl) rfl rfl (x_bin rfl rfl rfl b_neq) ?_)
                                      refine l_of (s_val (v := .bool (!decide ((0 : Int) = 0))) (wt0 rfl) rfl rfl (x_move rfl rfl) ?_)
                                      refine l_of (s_val (v := .slice p122 (frontR x50 r).l.length c123) (wt1 rfl rfl rfl rfl (nf rfl)) rfl rfl (x_move rfl rfl) ?_)
                                      refine l_of (s_val (v := .int .i64 (((frontR x50 r).l.length : Int))) (wt1 rfl rfl rfl rfl (nf rfl)) rfl rfl (x_lenl rfl rfl Try.underlying37) ?_)
                                      refine l_of (s_val (v := .bool (decide ((((frontR x50 r).l.length : Int) : Int) = 0))) (wt1 rfl rfl rfl rfl (nf rfl)) rfl rfl (x_bin rfl rfl rfl b_eql) ?_)
                                      refine l_of (s_val (v := .bool (decide ((((frontR x50 r).l.length : Int) : Int) = 0))) (wt0 rfl) rfl rfl (x_pick_f rfl rfl (nf rfl) rfl) ?_)
                                      refine l_of (s_val (v := .bool (decide ((((frontR x50 r).l.length : Int) : Int) = 0))) (wt0 rfl) rfl rfl (x_move rfl rfl) ?_)
                                      by_cases hb129 : (((frontR x50 r).l.length : Int) : Int) = 0
                                      · skip
                                        refine l_of (s_not (wn1 rfl rfl rfl rfl (decide_eq_true hb129)) rfl rfl ?_)
                                        refine l_of (s_not (wn1 rfl rfl rfl rfl (decide_eq_true hb129)) rfl rfl ?_)
                                        refine l_of (s_not (wn1 rfl rfl rfl rfl (decide_eq_true hb129)) rfl rfl ?_)
                                        refine l_of (s_not (wn1 rfl rfl rfl rfl (decide_eq_true hb129)) rfl rfl ?_)
                                        refine l_of (s_not (wn1 rfl rfl rfl rfl (decide_eq_true hb129)) rfl rfl ?_)
                                        refine l_of (s_val (v := .bool true) (wt0 rfl) rfl rfl (x_pick_t rfl rfl (decide_eq_true hb129) rfl) ?_)
                                        refine g_nil ?_
                                        refine g_then ?_
                                        refine g_weak [(7, .pointer (some ⟨g, 0, none⟩)), (9, .map (some mf)), (10, .map (some ma)), (11, .int .i64 wv), (46, .slice pe ne ce), (47, .int .i64 ((ne : Int))), (48, .int .i64 ((z : Int))), (125, undef), (126, undef), (127, undef), (128, undef), (129, undef), (130, undef), (131, undef), (132, undef), (133, undef), (134, undef), (182, .bool true)] ⟨rfl, rfl, rfl, rfl, rfl, rfl, rfl, rfl, rfl, rfl, rfl, rfl, rfl, rfl, rfl, rfl, rfl, rfl, trivial⟩ ?_
                                        refine g_cond_t rfl rfl ?_
                                        refine g_seq ?_
                                        refine g_region ?_
                                        refine l_of (s_val (v := .bool false) (wt0 rfl) rfl rfl (x_assign rfl rfl) ?_)
                                        refine g_nil ?_
                                        refine g_then ?_
                                        refine g_weak [(6, .bool false)] ⟨rfl, trivial⟩ ?_
                                        refine g_ret ?_
                                        refine g_in_ret ?_
                                        refine g_then_ret ?_
                                        refine g_then_ret ?_
                                        refine g_in_ret ?_
                                        refine g_then_ret ?_
                                        refine fin_ret [.tmp 6] [.bool false] rfl ⟨rfl, trivial⟩ ?_
                                        exfalso; omega
                                      · skip
                                        refine l_of (s_val (v := .slice p122 (frontR x50 r).l.length c123) (wt1 rfl rfl rfl rfl (decide_eq_false hb129)) rfl rfl (x_move rfl rfl) ?_)
                                        refine l_of (s_val (v := .pointer ((p122).map fun q => q.add (0 * 1))) (wt1 rfl rfl rfl rfl (decide_eq_false hb129)) rfl rfl (x_idxR 0 (H126.rwReads (k := 0) rfl) rfl rfl rfl Try.underlying37 sz9 (by omega)) ?_)
                                        refine l_of (s_val (v := .string ((tk x50).name)) (wt1 rfl rfl rfl rfl (decide_eq_false hb129)) rfl rfl (x_loadR1 0 (H126.rwReads (k := 0) rfl) (by omega) rfl rfl Try.underlying9 rfl (stV_at ((names_at (tk := (upd tk x50 ⟨(tk x50).name, 0, 0, true, false⟩)) (front_first (List.mem_of_getElem? hkx))).trans (by rw [upd_same])))) ?_)
                                        refine l_of (s_val (v := .string ((tk x50).name)) (wt1 rfl rfl rfl rfl (decide_eq_false hb129)) rfl rfl (x_move rfl rfl) ?_)
                                        refine l_of (s_val (v := .bool (!decide ((tk x50).name = (tk x50).name))) (wt1 rfl rfl rfl rfl (decide_eq_false hb129)) rfl rfl (x_bin rfl rfl rfl b_nes) ?_)
                                        refine l_of (s_val (v := .bool (!decide ((tk x50).name = (tk x50).name))) (wt0 rfl) rfl rfl (x_pick_f rfl rfl (decide_eq_false hb129) rfl) ?_)
                                        refine g_nil ?_
                                        refine g_then ?_
                                        refine g_weak [(7, .pointer (some ⟨g, 0, none⟩)), (9, .map (some mf)), (10, .map (some ma)), (11, .int .i64 wv), (46, .slice pe ne ce), (47, .int .i64 ((ne : Int))), (48, .int .i64 ((z : Int))), (125, undef), (126, undef), (127, undef), (128, undef), (129, undef), (130, undef), (131, undef), (132, undef), (133, undef), (134, undef), (182, .bool (!decide ((tk x50).name = (tk x50).name)))] ⟨rfl, rfl, rfl, rfl, rfl, rfl, rfl, rfl, rfl, rfl, rfl, rfl, rfl, rfl, rfl, rfl, rfl, rfl, trivial⟩ ?_
                                        refine g_cond_f rfl (nf rfl) ?_
                                        refine g_skip ?_
                                        refine g_in ?_
                                        refine g_then ?_
                                        refine g_region ?_
                                        refine l_of (s_val (v := .int .i64 ((z : Int) + 1)) (wt0 rfl) rfl rfl (x_bin rfl rfl rfl (b_add (w64 (by omega)))) ?_)
                                        refine l_of (s_val (v := .int .i64 ((z : Int) + 1)) (wt0 rfl) rfl rfl (x_move rfl rfl) ?_)
                                        refine g_nil ?_
                                        refine g_then ?_
                                        refine g_round (i := (z, rows, tk, tn, til, now, begun, MF, MA)) ((z + 1), (rows.map (frontR x50)), (upd tk x50 ⟨(tk x50).name, 0, 0, true, false⟩), wv, (wv + (1 + (((xe.tmod 100000) + 100000) % 100000))), wv, (begun || decide ((evS begun false false) = 1)), (upM MF (tk x50).name 0), MA) ?_ ?_ ?_
                                        · exact ⟨rfl, rfl, rfl, rfl, rfl, rfl, rfl, trivial⟩
                                        · exact ⟨by omega, (by rw [List.length_map]; exact hnrz), (hI.answer hxa (by omega) (by omega) (by omega) (by omega)), (H126.takes [1, 2, 3, 4, 8, 9, 10] (by decide))⟩
                                        · (try dsimp only); omega
                    · skip
                      exact absurd (hwn (wv - 1) (by omega) _ (show ((i33, k34, x35) : Pl) ∈ _ from by rw [hsp36]; simp)) (by rw [hok38]; decide)
                  · skip
                    refine g_cond_f rfl (decide_eq_false hb32) ?_
                    refine g_skip ?_
                    refine g_then ?_
                    refine g_seq ?_
                    refine g_region ?_
                    refine l_of (s_val (v := .pointer (some ⟨g, 0, none⟩)) (wt0 rfl) rfl rfl (x_move rfl rfl) ?_)
                    refine l_of (s_val (v := .int .i64 wv) (wt0 rfl) rfl rfl (x_move rfl rfl) ?_)
                    refine l_of (s_call (wt0 rfl) (x_call' rfl rfl cl11) (next_s hnrz hnr2 hrlz _ (H25.takes [0, 1, 2, 3] (by decide))) ?_)
                    rintro ee138 wq136 hor139
                    rcases hor139 with ⟨hl9, rfl, H137⟩ | ⟨hl0, hno9, rfl, H137⟩ | ⟨i130, k131, x132, post, pre, hsp133, hl0, hno134, hok135, rfl, H137⟩
                    · skip
                      exact absurd (tellS_ok (by omega) (by omega)) hl9
                    · skip
                      obtain ⟨q, hq1, hq2⟩ := hwx wv (by omega); exact absurd (hno9 q hq1) (by rw [hq2]; decide)
                    · skip
                      replace H137 : S wq136 [Ob g (.cells #[.pointer (some ⟨x132, 0, none⟩), .int .i64 ((evS begun false false)), .slice P nr C, (.map (some mg)), .int .i64 wv, .int .i64 til, .bool begun, .bool false, .bool false, .bool false] 64 (0, 0)), Rw 68 1 P nr C (rosV rows), RowsI 59 1 ptL rows, Fam 71 Tk.cells (adr rows) tk, Mp Value.string (fun x : Int => Value.int .i64 x) okT mf MF, Mp Value.string (fun x : Int => Value.int .i64 x) okT ma MA, Old w no] := H25.absorbI (new := [Ob g (.cells #[.pointer (some ⟨x132, 0, none⟩), .int .i64 ((evS begun false false)), .slice P nr C, (.map (some mg)), .int .i64 wv, .int .i64 til, .bool begun, .bool false, .bool false, .bool false] 64 (0, 0)), Rw 68 1 P nr C (rosV rows), RowsI 59 1 ptL rows, Fam 71 Tk.cells (adr rows) tk]) [0, 1, 2, 3] H137
                      obtain ⟨r, hrow, hkx, hxa⟩ := place_at hsp133
                      have hrz := (hI.sane.lens r (List.mem_of_getElem? hrow))
                      have hkl := (List.getElem?_eq_some_iff.1 hkx).1
                      have hil := (List.getElem?_eq_some_iff.1 hrow).1
                      have htk := hI.trk x132 hxa
                      have hlk := hI.link x132 hxa
                      have haw : (tk x132).after ≤ wv := Int.le_trans (free_lo hev _) ((ok_iff hev _).1 hok135)
                      have hokT : okT (tk x132).name := Nat.le_trans (hI.sane.size hxa) (by decide)
                      have hwe : waitS ((MF (tk x132).name).getD 0) = waitS (tk x132).failed := by rw [hlk.1]
                      refine b_ret rfl rfl ?_
                      refine l_of (s_val (v := .tuple #[.agg #[.int .i64 ((i130 : Int)), .int .i64 ((k131 : Int)), .int .i64 wv, .int .i64 ((evS begun false false))], .int .i64 0]) (wt0 rfl) rfl rfl (x_move rfl rfl) ?_)
                      refine l_of (s_val (v := .agg #[.int .i64 ((i130 : Int)), .int .i64 ((k131 : Int)), .int .i64 wv, .int .i64 ((evS begun false false))]) (wt0 rfl) rfl rfl (x_extract rfl rfl rfl) ?_)
                      refine l_of (s_val (v := .int .i64 0) (wt0 rfl) rfl rfl (x_extract rfl rfl rfl) ?_)
                      refine l_of (s_alloc H137 (wt0 rfl) rfl rfl rfl ze34 ?_)
                      intro g140 wq141 H142
                      refine l_of (s_store H142 0 (wt0 rfl) rfl rfl rfl rfl rfl sz34 rfl rfl (cs' := #[.int .i64 ((i130 : Int)), .int .i64 ((k131 : Int)), .int .i64 wv, .int .i64 ((evS begun false false))]) rfl ?_)
                      intro wq143 H144
                      refine l_of (s_val (v := .int .i64 0) (wt0 rfl) rfl rfl (x_assign rfl rfl) ?_)
                      refine g_nil ?_
                      refine g_then ?_
                      refine g_weak [(7, .pointer (some ⟨g, 0, none⟩)), (9, .map (some mf)), (10, .map (some ma)), (13, .int .i64 xe), (14, .int .i64 wv), (15, .int .i64 0), (18, .pointer (some ⟨g140, 0, none⟩)), (46, .slice pe ne ce), (47, .int .i64 ((ne : Int))), (48, .int .i64 ((z : Int)))] ⟨rfl, rfl, rfl, rfl, rfl, rfl, rfl, rfl, rfl, rfl, trivial⟩ ?_
                      refine g_seq ?_
                      refine g_seq ?_
                      refine g_region ?_
                      refine l_of (s_val (v := .int .i64 0) (wt0 rfl) rfl rfl (x_move rfl rfl) ?_)
                      refine l_of (s_val (v := .bool (!decide ((0 : Int) = 0))) (wt0 rfl) rfl rfl (x_bin rfl rfl rfl b_neq) ?_)
                      refine l_of (s_val (v := .bool (!decide ((0 : Int) = 0))) (wt0 rfl) rfl rfl (x_move rfl rfl) ?_)
                      refine l_of (s_val (v := .pointer (some ⟨g140, 2, none⟩)) (wt1 rfl rfl rfl rfl (nf rfl)) rfl rfl (x_fieldAddr rfl rfl fo34_2 rfl) ?_)
                      refine l_of (s_val (v := .int .i64 wv) (wt1 rfl rfl rfl rfl (nf rfl)) rfl rfl (x_load1 H144 0 rfl rfl Try.underlying3 rfl rfl rfl) ?_)
                      refine l_of (s_val (v := .int .i64 wv) (wt1 rfl rfl rfl rfl (nf rfl)) rfl rfl (x_move rfl rfl) ?_)
                      refine l_of (s_val (v := .bool (!decide ((wv : Int) = wv))) (wt1 rfl rfl rfl rfl (nf rfl)) rfl rfl (x_bin rfl rfl rfl b_neq) ?_)
                      refine l_of (s_val (v := .bool (!decide ((wv : Int) = wv))) (wt0 rfl) rfl rfl (x_pick_f rfl rfl (nf rfl) rfl) ?_)
                      refine g_nil ?_
                      refine g_then ?_
                      refine g_cond_f rfl (nf rfl) ?_
                      refine g_skip ?_
                      refine g_then ?_
                      refine g_seq ?_
                      refine g_region ?_
                      refine l_of (s_val (v := .pointer (some ⟨g, 0, none⟩)) (wt0 rfl) rfl rfl (x_move rfl rfl) ?_)
                      refine l_of (s_val (v := .pointer (some ⟨g140, 0, none⟩)) (wt0 rfl) rfl rfl (x_fieldAddr rfl rfl fo34_0 rfl) ?_)
                      refine l_of (s_val (v := .int .i64 ((i130 : Int))) (wt0 rfl) rfl rfl (x_load1 H144 0 rfl rfl Try.underlying3 rfl rfl rfl) ?_)
                      refine l_of (s_call (wt0 rfl) (x_call' rfl rfl cl12) (order_s hnrz hnr2 hrlz _ (H144.takes [1, 2, 3, 4] (by decide))) ?_)
                      rintro ee152 wq150 hor153
                      rcases hor153 with ⟨hq9, rfl, H151⟩ | ⟨j145, rr149, p147, c148, hq9, hrw146, rfl, H151⟩
                      · skip
                        omega
                      · skip
                        have hj9 : j145 = i130 := by omega
                        rw [hj9, hrow] at hrw146
                        obtain rfl := Option.some.inj hrw146
                        replace H151 : S wq150 [Rw 9 1 p147 r.l.length c148 (stV (namesT tk r.l)), Ob g (.cells #[.pointer (some ⟨x132, 0, none⟩), .int .i64 ((evS begun false false)), .slice P nr C, (.map (some mg)), .int .i64 wv, .int .i64 til, .bool begun, .bool false, .bool false, .bool false] 64 (0, 0)), Rw 68 1 P nr C (rosV rows), RowsI 59 1 ptL rows, Fam 71 Tk.cells (adr rows) tk, Ob g140 (.cells #[.int .i64 ((i130 : Int)), .int .i64 ((k131 : Int)), .int .i64 wv, .int .i64 ((evS begun false false))] 34 (0, 0)), Mp Value.string (fun x : Int => Value.int .i64 x) okT mf MF, Mp Value.string (fun x : Int => Value.int .i64 x) okT ma MA, Old w no] := H144.absorbI (new := [Rw 9 1 p147 r.l.length c148 (stV (namesT tk r.l)), Ob g (.cells #[.pointer (some ⟨x132, 0, none⟩), .int .i64 ((evS begun false false)), .slice P nr C, (.map (some mg)), .int .i64 wv, .int .i64 til, .bool begun, .bool false, .bool false, .bool false] 64 (0, 0)), Rw 68 1 P nr C (rosV rows), RowsI 59 1 ptL rows, Fam 71 Tk.cells (adr rows) tk]) [1, 2, 3, 4] H151
                        refine b_ret rfl rfl ?_
                        refine l_of (s_val (v := .tuple #[.slice p147 r.l.length c148, .int .i64 0]) (wt0 rfl) rfl rfl (x_move rfl rfl) ?_)
                        refine l_of (s_val (v := .slice p147 r.l.length c148) (wt0 rfl) rfl rfl (x_extract rfl rfl rfl) ?_)
                        refine l_of (s_val (v := .int .i64 0) (wt0 rfl) rfl rfl (x_extract rfl rfl rfl) ?_)
                        refine l_of (s_val (v := .slice p147 r.l.length c148) (wt0 rfl) rfl rfl (x_assign rfl rfl) ?_)
                        refine l_of (s_val (v := .int .i64 0) (wt0 rfl) rfl rfl (x_assign rfl rfl) ?_)
                        refine g_nil ?_
                        refine g_then ?_
                        refine g_weak [(7, .pointer (some ⟨g, 0, none⟩)), (9, .map (some mf)), (10, .map (some ma)), (13, .int .i64 xe), (14, .int .i64 wv), (15, .int .i64 0), (18, .pointer (some ⟨g140, 0, none⟩)), (19, .slice p147 r.l.length c148), (46, .slice pe ne ce), (47, .int .i64 ((ne : Int))), (48, .int .i64 ((z : Int)))] ⟨rfl, rfl, rfl, rfl, rfl, rfl, rfl, rfl, rfl, rfl, rfl, trivial⟩ ?_
                        refine g_seq ?_
                        refine g_seq ?_
                        refine g_region ?_
                        refine l_of (s_val (v := .int .i64 0) (wt0 rfl) rfl rfl (x_move rfl rfl) ?_)
                        refine l_of (s_val (v := .bool (!decide ((0 : Int) = 0))) (wt0 rfl) rfl rfl (x_bin rfl rfl rfl b_neq) ?_)
                        refine l_of (s_val (v := .bool (!decide ((0 : Int) = 0))) (wt0 rfl) rfl rfl (x_move rfl rfl) ?_)
                        refine l_of (s_val (v := .pointer (some ⟨g140, 1, none⟩)) (wt1 rfl rfl rfl rfl (nf rfl)) rfl rfl (x_fieldAddr rfl rfl fo34_1 rfl) ?_)
                        refine l_of (s_val (v := .int .i64 ((k131 : Int))) (wt1 rfl rfl rfl rfl (nf rfl)) rfl rfl (x_load1 H151 5 rfl rfl Try.underlying3 rfl rfl rfl) ?_)
                        refine l_of (s_val (v := .bool (decide (((k131 : Int) : Int) < 0))) (wt1 rfl rfl rfl rfl (nf rfl)) rfl rfl (x_bin rfl rfl rfl b_lss) ?_)
                        refine l_of (s_val (v := .bool (decide (((k131 : Int) : Int) < 0))) (wt0 rfl) rfl rfl (x_pick_f rfl rfl (nf rfl) rfl) ?_)
                        refine l_of (s_val (v := .bool (decide (((k131 : Int) : Int) < 0))) (wt0 rfl) rfl rfl (x_move rfl rfl) ?_)
                        by_cases hb154 : ((k131 : Int) : Int) < 0
                        · skip
                          refine l_of (s_not (wn1 rfl rfl rfl rfl (decide_eq_true hb154)) rfl rfl ?_)
                          refine l_of (s_not (wn1 rfl rfl rfl rfl (decide_eq_true hb154)) rfl rfl ?_)
                          refine l_of (s_not (wn1 rfl rfl rfl rfl (decide_eq_true hb154)) rfl rfl ?_)
                          refine l_of (s_not (wn1 rfl rfl rfl rfl (decide_eq_true hb154)) rfl rfl ?_)
                          refine l_of (s_not (wn1 rfl rfl rfl rfl (decide_eq_true hb154)) rfl rfl ?_)
                          refine l_of (s_val (v := .bool true) (wt0 rfl) rfl rfl (x_pick_t rfl rfl (decide_eq_true hb154) rfl) ?_)
                          refine g_nil ?_
                          refine g_then ?_
                          refine g_weak [(7, .pointer (some ⟨g, 0, none⟩)), (9, .map (some mf)), (10, .map (some ma)), (13, .int .i64 xe), (14, .int .i64 wv), (18, .pointer (some ⟨g140, 0, none⟩)), (19, .slice p147 r.l.length c148), (46, .slice pe ne ce), (47, .int .i64 ((ne : Int))), (48, .int .i64 ((z : Int))), (114, .bool true)] ⟨rfl, rfl, rfl, rfl, rfl, rfl, rfl, rfl, rfl, rfl, rfl, trivial⟩ ?_
                          refine g_cond_t rfl rfl ?_
                          refine g_seq ?_
                          refine g_region ?_
                          refine l_of (s_val (v := .bool false) (wt0 rfl) rfl rfl (x_assign rfl rfl) ?_)
                          refine g_nil ?_
                          refine g_then ?_
                          refine g_ret ?_
                          refine g_then_ret ?_
                          refine g_in_ret ?_
                          refine g_then_ret ?_
                          refine g_then_ret ?_
                          refine g_in_ret ?_
                          refine g_then_ret ?_
                          refine fin_ret [.tmp 6] [.bool false] rfl ⟨rfl, trivial⟩ ?_
                          exfalso; omega
                        · skip
                          refine l_of (s_val (v := .pointer (some ⟨g140, 1, none⟩)) (wt1 rfl rfl rfl rfl (decide_eq_false hb154)) rfl rfl (x_fieldAddr rfl rfl fo34_1 rfl) ?_)
                          refine l_of (s_val (v := .int .i64 ((k131 : Int))) (wt1 rfl rfl rfl rfl (decide_eq_false hb154)) rfl rfl (x_load1 H151 5 rfl rfl Try.underlying3 rfl rfl rfl) ?_)
                          refine l_of (s_val (v := .slice p147 r.l.length c148) (wt1 rfl rfl rfl rfl (decide_eq_false hb154)) rfl rfl (x_move rfl rfl) ?_)
                          refine l_of (s_val (v := .int .i64 ((r.l.length : Int))) (wt1 rfl rfl rfl rfl (decide_eq_false hb154)) rfl rfl (x_lenl rfl rfl Try.underlying37) ?_)
                          refine l_of (s_val (v := .bool (decide (((r.l.length : Int) : Int) ≤ (k131 : Int)))) (wt1 rfl rfl rfl rfl (decide_eq_false hb154)) rfl rfl (x_bin rfl rfl rfl b_geq) ?_)
                          refine l_of (s_val (v := .bool (decide (((r.l.length : Int) : Int) ≤ (k131 : Int)))) (wt0 rfl) rfl rfl (x_pick_f rfl rfl (decide_eq_false hb154) rfl) ?_)
                          refine g_nil ?_
                          refine g_then ?_
                          refine g_weak [(7, .pointer (some ⟨g, 0, none⟩)), (9, .map (some mf)), (10, .map (some ma)), (13, .int .i64 xe), (14, .int .i64 wv), (18, .pointer (some ⟨g140, 0, none⟩)), (19, .slice p147 r.l.length c148), (46, .slice pe ne ce), (47, .int .i64 ((ne : Int))), (48, .int .i64 ((z : Int))), (114, .bool (decide (((r.l.length : Int) : Int) ≤ (k131 : Int))))] ⟨rfl, rfl, rfl, rfl, rfl, rfl, rfl, rfl, rfl, rfl, rfl, trivial⟩ ?_
                          by_cases hb155 : ((r.l.length : Int) : Int) ≤ (k131 : Int)
                          · skip
                            refine g_cond_t rfl (decide_eq_true hb155) ?_
                            refine g_seq ?_
                            refine g_region ?_
                            refine l_of (s_val (v := .bool false) (wt0 rfl) rfl rfl (x_assign rfl rfl) ?_)
                            refine g_nil ?_
                            refine g_then ?_
                            refine g_ret ?_
                            refine g_then_ret ?_
                            refine g_in_ret ?_
                            refine g_then_ret ?_
                            refine g_then_ret ?_
                            refine g_in_ret ?_
                            refine g_then_ret ?_
                            refine fin_ret [.tmp 6] [.bool false] rfl ⟨rfl, trivial⟩ ?_
                            exfalso; omega
                          · skip
                            refine g_cond_f rfl (decide_eq_false hb155) ?_
                            refine g_skip ?_
                            refine g_then ?_
                            refine g_seq ?_
                            refine g_region ?_
                            refine l_of (s_val (v := .slice p147 r.l.length c148) (wt0 rfl) rfl rfl (x_move rfl rfl) ?_)
                            refine l_of (s_val (v := .pointer (some ⟨g140, 1, none⟩)) (wt0 rfl) rfl rfl (x_fieldAddr rfl rfl fo34_1 rfl) ?_)
                            refine l_of (s_val (v := .int .i64 ((k131 : Int))) (wt0 rfl) rfl rfl (x_load1 H151 5 rfl rfl Try.underlying3 rfl rfl rfl) ?_)
                            refine l_of (s_val (v := .pointer ((p147).map fun q => q.add (k131 * 1))) (wt0 rfl) rfl rfl (x_idxR k131 (H151.rwReads (k := 0) rfl) rfl rfl rfl Try.underlying37 sz9 (by omega)) ?_)
                            refine l_of (s_val (v := .string ((tk x132).name)) (wt0 rfl) rfl rfl (x_loadR1 k131 (H151.rwReads (k := 0) rfl) (by omega) rfl rfl Try.underlying9 rfl (stV_at (names_at hkx))) ?_)
                            refine l_of (s_val (v := .string ((tk x132).name)) (wt0 rfl) rfl rfl (x_assign rfl rfl) ?_)
                            refine g_nil ?_
                            refine g_then ?_
                            refine g_seq ?_
                            refine g_seq ?_
                            refine g_quiet (by kernel_rfl) (by kernel_rfl) H151 ?_
                            refine q_val (v := .map (some mf)) (wt0 rfl) rfl rfl (fun wx H => x_move rfl rfl) ?_
                            refine q_val (v := .string ((tk x132).name)) (wt0 rfl) rfl rfl (fun wx H => x_move rfl rfl) ?_
                            refine q_val (v := .int .i64 (((MF (tk x132).name).getD 0))) (wt0 rfl) rfl rfl (fun wx H => ex_cast (x_lookup1 (x := (tk x132).name) (strTy Try.underlying30 Try.underlying9) H 6 rfl rfl rfl rfl hokT ze3) (look_I _)) ?_
                            refine q_val (v := .bool (decide ((0 : Int) < ((MF (tk x132).name).getD 0)))) (wt0 rfl) rfl rfl (fun wx H => x_bin rfl rfl rfl b_gtr) ?_
                            refine q_val (v := .bool (decide ((0 : Int) < ((MF (tk x132).name).getD 0)))) (wt0 rfl) rfl rfl (fun wx H => x_move rfl rfl) ?_
                            by_cases hb156 : (0 : Int) < ((MF (tk x132).name).getD 0)
                            · skip
                              have hlk2 := hlk.2 (by omega)
                              have hws := waitS_ge (tk x132).failed (by omega)
                              refine q_val (v := .int .i64 wv) (wt1 rfl rfl rfl rfl (decide_eq_true hb156)) rfl rfl (fun wx H => x_move rfl rfl) ?_
                              refine q_val (v := .map (some ma)) (wt1 rfl rfl rfl rfl (decide_eq_true hb156)) rfl rfl (fun wx H => x_move rfl rfl) ?_
                              refine q_val (v := .string ((tk x132).name)) (wt1 rfl rfl rfl rfl (decide_eq_true hb156)) rfl rfl (fun wx H => x_move rfl rfl) ?_
                              refine q_val (v := .int .i64 (((MA (tk x132).name).getD 0))) (wt1 rfl rfl rfl rfl (decide_eq_true hb156)) rfl rfl (fun wx H => ex_cast (x_lookup1 (x := (tk x132).name) (strTy Try.underlying30 Try.underlying9) H 7 rfl rfl rfl rfl hokT ze3) (look_I _)) ?_
                              refine q_val (v := .map (some mf)) (wt1 rfl rfl rfl rfl (decide_eq_true hb156)) rfl rfl (fun wx H => x_move rfl rfl) ?_
                              refine q_val (v := .string ((tk x132).name)) (wt1 rfl rfl rfl rfl (decide_eq_true hb156)) rfl rfl (fun wx H => x_move rfl rfl) ?_
                              refine q_val (v := .int .i64 (((MF (tk x132).name).getD 0))) (wt1 rfl rfl rfl rfl (decide_eq_true hb156)) rfl rfl (fun wx H => ex_cast (x_lookup1 (x := (tk x132).name) (strTy Try.underlying30 Try.underlying9) H 6 rfl rfl rfl rfl hokT ze3) (look_I _)) ?_
                              refine q_call (wt1 rfl rfl rfl rfl (decide_eq_true hb156)) rfl rfl (fun wx H => x_call' rfl rfl cl13) (fun wx H => (wait_r _ (by omega) (by omega) _).mono (by rintro _ _ ⟨rfl, h⟩; exact ⟨rfl, H.absorb (new := []) h⟩)) ?_
                              refine q_val (v := .int .i64 (((MA (tk x132).name).getD 0) + (waitS ((MF (tk x132).name).getD 0)))) (wt1 rfl rfl rfl rfl (decide_eq_true hb156)) rfl rfl (fun wx H => x_bin rfl rfl rfl (b_add (w64 (by omega)))) ?_
                              refine q_val (v := .bool (decide ((wv : Int) < ((MA (tk x132).name).getD 0) + (waitS ((MF (tk x132).name).getD 0))))) (wt1 rfl rfl rfl rfl (decide_eq_true hb156)) rfl rfl (fun wx H => x_bin rfl rfl rfl b_lss) ?_
                              refine q_val (v := .bool (decide ((wv : Int) < ((MA (tk x132).name).getD 0) + (waitS ((MF (tk x132).name).getD 0))))) (wt0 rfl) rfl rfl (fun wx H => x_pick_t rfl rfl (decide_eq_true hb156) rfl) ?_
                              refine q_nil (fun wq157 H158 => ?_)
                              refine g_then ?_
                              refine g_weak [(7, .pointer (some ⟨g, 0, none⟩)), (9, .map (some mf)), (10, .map (some ma)), (13, .int .i64 xe), (14, .int .i64 wv), (18, .pointer (some ⟨g140, 0, none⟩)), (20, .string ((tk x132).name)), (46, .slice pe ne ce), (47, .int .i64 ((ne : Int))), (48, .int .i64 ((z : Int))), (125, .int .i64 wv), (126, .map (some ma)), (127, .string ((tk x132).name)), (128, .int .i64 (((MA (tk x132).name).getD 0))), (129, .map (some mf)), (130, .string ((tk x132).name)), (131, .int .i64 (((MF (tk x132).name).getD 0))), (132, .int .i64 ((waitS ((MF (tk x132).name).getD 0)))), (133, .int .i64 (((MA (tk x132).name).getD 0) + (waitS ((MF (tk x132).name).getD 0)))), (134, .bool (decide ((wv : Int) < ((MA (tk x132).name).getD 0) + (waitS ((MF (tk x132).name).getD 0))))), (135, .bool (decide ((wv : Int) < ((MA (tk x132).name).getD 0) + (waitS ((MF (tk x132).name).getD 0)))))] ⟨rfl, rfl, rfl, rfl, rfl, rfl, rfl, rfl, rfl, rfl, rfl, rfl, rfl, rfl, rfl, rfl, rfl, rfl, rfl, rfl, rfl, trivial⟩ ?_
                              by_cases hb159 : (wv : Int) < ((MA (tk x132).name).getD 0) + (waitS ((MF (tk x132).name).getD 0))
                              · skip
                                refine g_cond_t rfl (decide_eq_true hb159) ?_
                                refine g_seq ?_
                                refine g_region ?_
                                refine l_of (s_val (v := .bool false) (wt0 rfl) rfl rfl (x_assign rfl rfl) ?_)
                                refine g_nil ?_
                                refine g_then ?_
                                refine g_weak [(6, .bool false)] ⟨rfl, trivial⟩ ?_
                                refine g_ret ?_
                                refine g_then_ret ?_
                                refine g_in_ret ?_
                                refine g_then_ret ?_
                                refine g_then_ret ?_
                                refine g_in_ret ?_
                                refine g_then_ret ?_
                                refine fin_ret [.tmp 6] [.bool false] rfl ⟨rfl, trivial⟩ ?_
                                exfalso; omega
                              · skip
                                refine g_cond_f rfl (decide_eq_false hb159) ?_
                                refine g_skip ?_
                                refine g_then ?_
                                refine g_seq ?_
                                refine g_region ?_
                                refine l_of (s_val (v := .int .i64 wv) (wt0 rfl) rfl rfl (x_move rfl rfl) ?_)
                                refine l_of (s_val (v := .int .i64 wv) (wt0 rfl) rfl rfl (x_assign rfl rfl) ?_)
                                refine g_nil ?_
                                refine g_then ?_
                                refine g_seq ?_
                                refine g_seq ?_
                                refine g_region ?_
                                refine l_of (s_val (v := .int .i64 xe) (wt0 rfl) rfl rfl (x_move rfl rfl) ?_)
                                refine l_of (s_val (v := .int .i64 ((xe.tmod 3))) (wt0 rfl) rfl rfl (x_bin rfl rfl rfl (b_rem (by decide) rfl)) ?_)
                                refine l_of (s_val (v := .bool (decide (((xe.tmod 3) : Int) = 0))) (wt0 rfl) rfl rfl (x_bin rfl rfl rfl b_eql) ?_)
                                refine g_nil ?_
                                refine g_then ?_
                                by_cases hb160 : ((xe.tmod 3) : Int) = 0
                                · skip
                                  refine g_cond_t rfl (decide_eq_true hb160) ?_
                                  refine g_seq ?_
                                  refine g_seq ?_
                                  refine g_region ?_
                                  refine l_of (s_val (v := .pointer (some ⟨g, 0, none⟩)) (wt0 rfl) rfl rfl (x_move rfl rfl) ?_)
                                  refine l_of (s_val (v := .int .i64 wv) (wt0 rfl) rfl rfl (x_move rfl rfl) ?_)
                                  refine l_of (s_call (wt0 rfl) (x_call' rfl rfl cl14) (fail_f hxa (by omega) (by omega) (by omega) _ (H158.takes [1, 4] (by decide))) ?_)
                                  rintro ee163 wq161 hor164
                                  rcases hor164 with ⟨hl9, rfl, H162⟩ | ⟨hl0, rfl, H162⟩
                                  · skip
                                    exact absurd (tellS_ok (by omega) (by omega)) hl9
                                  · skip
                                    replace H162 : S wq161 [Ob g (.cells #[.pointer none, .int .i64 0, .slice P nr C, (.map (some mg)), .int .i64 wv, .int .i64 til, .bool begun, .bool false, .bool false, .bool false] 64 (0, 0)), Fam 71 Tk.cells (adr rows) (upd tk x132 (⟨(tk x132).name, (tk x132).failed + 1, wv + waitS ((tk x132).failed + 1), (tk x132).ans, (tk x132).told || decide ((evS begun false false) = 2)⟩ : Tk)), Rw 9 1 p147 r.l.length c148 (stV (namesT tk r.l)), Rw 68 1 P nr C (rosV rows), RowsI 59 1 ptL rows, Ob g140 (.cells #[.int .i64 ((i130 : Int)), .int .i64 ((k131 : Int)), .int .i64 wv, .int .i64 ((evS begun false false))] 34 (0, 0)), Mp Value.string (fun x : Int => Value.int .i64 x) okT mf MF, Mp Value.string (fun x : Int => Value.int .i64 x) okT ma MA, Old w no] := H158.absorbI (new := [Ob g (.cells #[.pointer none, .int .i64 0, .slice P nr C, (.map (some mg)), .int .i64 wv, .int .i64 til, .bool begun, .bool false, .bool false, .bool false] 64 (0, 0)), Fam 71 Tk.cells (adr rows) (upd tk x132 (⟨(tk x132).name, (tk x132).failed + 1, wv + waitS ((tk x132).failed + 1), (tk x132).ans, (tk x132).told || decide ((evS begun false false) = 2)⟩ : Tk))]) [1, 4] H162
                                    refine b_ret rfl rfl ?_
                                    refine l_of (s_val (v := .bool (!decide ((0 : Int) = 0))) (wt0 rfl) rfl rfl (x_bin rfl rfl rfl b_neq) ?_)
                                    refine g_nil ?_
                                    refine g_then ?_
                                    refine g_cond_f rfl (nf rfl) ?_
                                    refine g_skip ?_
                                    refine g_then ?_
                                    refine g_weak [(7, .pointer (some ⟨g, 0, none⟩)), (9, .map (some mf)), (10, .map (some ma)), (11, .int .i64 wv), (20, .string ((tk x132).name)), (46, .slice pe ne ce), (47, .int .i64 ((ne : Int))), (48, .int .i64 ((z : Int))), (125, .int .i64 wv), (126, .map (some ma)), (127, .string ((tk x132).name)), (128, .int .i64 (((MA (tk x132).name).getD 0))), (129, .map (some mf)), (130, .string ((tk x132).name)), (131, .int .i64 (((MF (tk x132).name).getD 0))), (132, .int .i64 ((waitS ((MF (tk x132).name).getD 0)))), (133, .int .i64 (((MA (tk x132).name).getD 0) + (waitS ((MF (tk x132).name).getD 0)))), (134, .bool (decide ((wv : Int) < ((MA (tk x132).name).getD 0) + (waitS ((MF (tk x132).name).getD 0)))))] ⟨rfl, rfl, rfl, rfl, rfl, rfl, rfl, rfl, rfl, rfl, rfl, rfl, rfl, rfl, rfl, rfl, rfl, rfl, trivial⟩ ?_
                                    refine g_seq ?_
                                    refine g_region ?_
                                    refine l_of (s_val (v := .map (some mf)) (wt0 rfl) rfl rfl (x_move rfl rfl) ?_)
                                    refine l_of (s_val (v := .string ((tk x132).name)) (wt0 rfl) rfl rfl (x_move rfl rfl) ?_)
                                    refine l_of (s_val (v := .int .i64 (((MF (tk x132).name).getD 0))) (wt0 rfl) rfl rfl (ex_cast (x_lookup1 (x := (tk x132).name) (strTy Try.underlying30 Try.underlying9) H162 6 rfl rfl rfl rfl hokT ze3) (look_I _)) ?_)
                                    refine l_of (s_val (v := .int .i64 (((MF (tk x132).name).getD 0) + 1)) (wt0 rfl) rfl rfl (x_bin rfl rfl rfl (b_add (w64 (by omega)))) ?_)
                                    refine l_of (s_mapUpdate (x := (tk x132).name) (a := ((MF (tk x132).name).getD 0 + 1)) (strTy Try.underlying30 Try.underlying9) H162 6 (wt0 rfl) rfl rfl rfl rfl rfl rfl hokT ?_)
                                    intro wq165 H166
                                    replace H166 : S wq165 [Ob g (.cells #[.pointer none, .int .i64 0, .slice P nr C, (.map (some mg)), .int .i64 wv, .int .i64 til, .bool begun, .bool false, .bool false, .bool false] 64 (0, 0)), Fam 71 Tk.cells (adr rows) (upd tk x132 (⟨(tk x132).name, (tk x132).failed + 1, wv + waitS ((tk x132).failed + 1), (tk x132).ans, (tk x132).told || decide ((evS begun false false) = 2)⟩ : Tk)), Rw 9 1 p147 r.l.length c148 (stV (namesT tk r.l)), Rw 68 1 P nr C (rosV rows), RowsI 59 1 ptL rows, Ob g140 (.cells #[.int .i64 ((i130 : Int)), .int .i64 ((k131 : Int)), .int .i64 wv, .int .i64 ((evS begun false false))] 34 (0, 0)), Mp Value.string (fun x : Int => Value.int .i64 x) okT mf (upM MF (tk x132).name ((MF (tk x132).name).getD 0 + 1)), Mp Value.string (fun x : Int => Value.int .i64 x) okT ma MA, Old w no] := H166
                                    refine g_nil ?_
                                    refine g_then ?_
                                    refine g_seq ?_
                                    refine g_region ?_
                                    refine l_of (s_val (v := .map (some ma)) (wt0 rfl) rfl rfl (x_move rfl rfl) ?_)
                                    refine l_of (s_val (v := .string ((tk x132).name)) (wt0 rfl) rfl rfl (x_move rfl rfl) ?_)
                                    refine l_of (s_val (v := .int .i64 wv) (wt0 rfl) rfl rfl (x_move rfl rfl) ?_)
                                    refine l_of (s_mapUpdate (x := (tk x132).name) (a := wv) (strTy Try.underlying30 Try.underlying9) H166 7 (wt0 rfl) rfl rfl rfl rfl rfl rfl hokT ?_)
                                    intro wq167 H168
                                    replace H168 : S wq167 [Ob g (.cells #[.pointer none, .int .i64 0, .slice P nr C, (.map (some mg)), .int .i64 wv, .int .i64 til, .bool begun, .bool false, .bool false, .bool false] 64 (0, 0)), Fam 71 Tk.cells (adr rows) (upd tk x132 (⟨(tk x132).name, (tk x132).failed + 1, wv + waitS ((tk x132).failed + 1), (tk x132).ans, (tk x132).told || decide ((evS begun false false) = 2)⟩ : Tk)), Rw 9 1 p147 r.l.length c148 (stV (namesT tk r.l)), Rw 68 1 P nr C (rosV rows), RowsI 59 1 ptL rows, Ob g140 (.cells #[.int .i64 ((i130 : Int)), .int .i64 ((k131 : Int)), .int .i64 wv, .int .i64 ((evS begun false false))] 34 (0, 0)), Mp Value.string (fun x : Int => Value.int .i64 x) okT mf (upM MF (tk x132).name ((MF (tk x132).name).getD 0 + 1)), Mp Value.string (fun x : Int => Value.int .i64 x) okT ma (upM MA (tk x132).name wv), Old w no] := H168
                                    refine g_nil ?_
                                    refine g_then ?_
                                    refine g_exit ?_
                                    refine g_then_exit ?_
                                    refine g_in_hit ?_
                                    refine g_then ?_
                                    refine g_region ?_
                                    refine l_of (s_val (v := .int .i64 ((z : Int) + 1)) (wt0 rfl) rfl rfl (x_bin rfl rfl rfl (b_add (w64 (by omega)))) ?_)
                                    refine l_of (s_val (v := .int .i64 ((z : Int) + 1)) (wt0 rfl) rfl rfl (x_move rfl rfl) ?_)
                                    refine g_nil ?_
                                    refine g_then ?_
                                    refine g_round (i := (z, rows, tk, tn, til, now, begun, MF, MA)) ((z + 1), rows, (upd tk x132 (⟨(tk x132).name, (tk x132).failed + 1, wv + waitS ((tk x132).failed + 1), (tk x132).ans, (tk x132).told || decide ((evS begun false false) = 2)⟩ : Tk)), wv, til, wv, begun, (upM MF (tk x132).name ((MF (tk x132).name).getD 0 + 1)), (upM MA (tk x132).name wv)) ?_ ?_ ?_
                                    · exact ⟨rfl, rfl, rfl, rfl, rfl, rfl, rfl, trivial⟩
                                    · exact ⟨by omega, hnrz, (hI.fail hxa (by omega) (by omega) _), (H168.takes [0, 3, 4, 1, 6, 7, 8] (by decide))⟩
                                    · (try dsimp only); omega
                                · skip
                                  refine g_cond_f rfl (decide_eq_false hb160) ?_
                                  refine g_skip ?_
                                  refine g_then ?_
                                  refine g_seq ?_
                                  refine g_seq ?_
                                  refine g_region ?_
                                  refine l_of (s_val (v := .pointer (some ⟨g, 0, none⟩)) (wt0 rfl) rfl rfl (x_move rfl rfl) ?_)
                                  refine l_of (s_val (v := .int .i64 wv) (wt0 rfl) rfl rfl (x_move rfl rfl) ?_)
                                  refine l_of (s_val (v := .int .i64 xe) (wt0 rfl) rfl rfl (x_move rfl rfl) ?_)
                                  refine l_of (s_val (v := .int .i64 ((xe.tmod 100000))) (wt0 rfl) rfl rfl (x_bin rfl rfl rfl (b_rem (by decide) rfl)) ?_)
                                  refine l_of (s_val (v := .int .i64 ((xe.tmod 100000) + 100000)) (wt0 rfl) rfl rfl (x_bin rfl rfl rfl (b_add (w64 (by omega)))) ?_)
                                  refine l_of (s_val (v := .int .i64 (((xe.tmod 100000) + 100000) % 100000)) (wt0 rfl) rfl rfl (x_bin rfl rfl rfl (b_rem (by omega) (rem0 (by omega)))) ?_)
                                  refine l_of (s_val (v := .int .i64 (1 + (((xe.tmod 100000) + 100000) % 100000))) (wt0 rfl) rfl rfl (x_bin rfl rfl rfl (b_add (w64 (by omega)))) ?_)
                                  refine l_of (s_call (wt0 rfl) (x_call' rfl rfl cl15) (answer_s hnrz hnr2 hrlz hxa (by omega) _ (H158.takes [1, 2, 3, 4] (by decide))) ?_)
                                  rintro ee171 wq169 hor172
                                  rcases hor172 with ⟨hi9, rfl, H170⟩ | ⟨_, _, hl9, rfl, H170⟩ | ⟨_, _, hl0, he9, rfl, H170⟩ | ⟨_, _, hl0, he9, rfl, H170⟩
                                  · skip
                                    omega
                                  · skip
                                    exact absurd (tellS_ok (by omega) (by omega)) hl9
                                  · skip
                                    exact absurd he9 hev
                                  · skip
                                    replace H170 : S wq169 [Ob g (.cells #[.pointer none, .int .i64 0, .slice P nr C, (.map (some mg)), .int .i64 wv, .int .i64 ((wv + (1 + (((xe.tmod 100000) + 100000) % 100000)))), .bool ((begun || decide ((evS begun false false) = 1))), .bool false, .bool ((false && !decide ((evS begun false false) = 3))), .bool false] 64 (0, 0)), Rw 68 1 P nr C (rosV (rows.map (frontR x132))), RowsI 59 1 ptL (rows.map (frontR x132)), Fam 71 Tk.cells (adr (rows.map (frontR x132))) (upd tk x132 ⟨(tk x132).name, 0, 0, true, false⟩), Rw 9 1 p147 r.l.length c148 (stV (namesT tk r.l)), Ob g140 (.cells #[.int .i64 ((i130 : Int)), .int .i64 ((k131 : Int)), .int .i64 wv, .int .i64 ((evS begun false false))] 34 (0, 0)), Mp Value.string (fun x : Int => Value.int .i64 x) okT mf MF, Mp Value.string (fun x : Int => Value.int .i64 x) okT ma MA, Old w no] := H158.absorbI (new := [Ob g (.cells #[.pointer none, .int .i64 0, .slice P nr C, (.map (some mg)), .int .i64 wv, .int .i64 ((wv + (1 + (((xe.tmod 100000) + 100000) % 100000)))), .bool ((begun || decide ((evS begun false false) = 1))), .bool false, .bool ((false && !decide ((evS begun false false) = 3))), .bool false] 64 (0, 0)), Rw 68 1 P nr C (rosV (rows.map (frontR x132))), RowsI 59 1 ptL (rows.map (frontR x132)), Fam 71 Tk.cells (adr (rows.map (frontR x132))) (upd tk x132 ⟨(tk x132).name, 0, 0, true, false⟩)]) [1, 2, 3, 4] H170
                                    refine b_ret rfl rfl ?_
                                    refine l_of (s_val (v := .bool (!decide ((0 : Int) = 0))) (wt0 rfl) rfl rfl (x_bin rfl rfl rfl b_neq) ?_)
                                    refine g_nil ?_
                                    refine g_then ?_
                                    refine g_weak [(7, .pointer (some ⟨g, 0, none⟩)), (9, .map (some mf)), (10, .map (some ma)), (11, .int .i64 wv), (18, .pointer (some ⟨g140, 0, none⟩)), (20, .string ((tk x132).name)), (46, .slice pe ne ce), (47, .int .i64 ((ne : Int))), (48, .int .i64 ((z : Int))), (125, .int .i64 wv), (126, .map (some ma)), (127, .string ((tk x132).name)), (128, .int .i64 (((MA (tk x132).name).getD 0))), (129, .map (some mf)), (130, .string ((tk x132).name)), (131, .int .i64 (((MF (tk x132).name).getD 0))), (132, .int .i64 ((waitS ((MF (tk x132).name).getD 0)))), (133, .int .i64 (((MA (tk x132).name).getD 0) + (waitS ((MF (tk x132).name).getD 0)))), (134, .bool (decide ((wv : Int) < ((MA (tk x132).name).getD 0) + (waitS ((MF (tk x132).name).getD 0))))), (159, .bool (!decide ((0 : Int) = 0)))] ⟨rfl, rfl, rfl, rfl, rfl, rfl, rfl, rfl, rfl, rfl, rfl, rfl, rfl, rfl, rfl, rfl, rfl, rfl, rfl, rfl, trivial⟩ ?_
                                    refine g_cond_f rfl (nf rfl) ?_
                                    refine g_skip ?_
                                    refine g_then ?_
                                    refine g_seq ?_
                                    refine g_region ?_
                                    refine l_of (s_val (v := .map (some mf)) (wt0 rfl) rfl rfl (x_move rfl rfl) ?_)
                                    refine l_of (s_val (v := .string ((tk x132).name)) (wt0 rfl) rfl rfl (x_move rfl rfl) ?_)
                                    refine l_of (s_mapUpdate (x := (tk x132).name) (a := 0) (strTy Try.underlying30 Try.underlying9) H170 6 (wt0 rfl) rfl rfl rfl rfl rfl rfl hokT ?_)
                                    intro wq173 H174
                                    replace H174 : S wq173 [Ob g (.cells #[.pointer none, .int .i64 0, .slice P nr C, (.map (some mg)), .int .i64 wv, .int .i64 ((wv + (1 + (((xe.tmod 100000) + 100000) % 100000)))), .bool ((begun || decide ((evS begun false false) = 1))), .bool false, .bool ((false && !decide ((evS begun false false) = 3))), .bool false] 64 (0, 0)), Rw 68 1 P nr C (rosV (rows.map (frontR x132))), RowsI 59 1 ptL (rows.map (frontR x132)), Fam 71 Tk.cells (adr (rows.map (frontR x132))) (upd tk x132 ⟨(tk x132).name, 0, 0, true, false⟩), Rw 9 1 p147 r.l.length c148 (stV (namesT tk r.l)), Ob g140 (.cells #[.int .i64 ((i130 : Int)), .int .i64 ((k131 : Int)), .int .i64 wv, .int .i64 ((evS begun false false))] 34 (0, 0)), Mp Value.string (fun x : Int => Value.int .i64 x) okT mf (upM MF (tk x132).name 0), Mp Value.string (fun x : Int => Value.int .i64 x) okT ma MA, Old w no] := H174
                                    refine g_nil ?_
                                    refine g_then ?_
                                    refine g_seq ?_
                                    refine g_region ?_
                                    refine l_of (s_val (v := .pointer (some ⟨g, 0, none⟩)) (wt0 rfl) rfl rfl (x_move rfl rfl) ?_)
                                    refine l_of (s_val (v := .pointer (some ⟨g140, 0, none⟩)) (wt0 rfl) rfl rfl (x_fieldAddr rfl rfl fo34_0 rfl) ?_)
                                    refine l_of (s_val (v := .int .i64 ((i130 : Int))) (wt0 rfl) rfl rfl (x_load1 H174 5 rfl rfl Try.underlying3 rfl rfl rfl) ?_)
                                    have hrowf : (rows.map (frontR x132))[i130]? = some (frontR x132 r) := by rw [List.getElem?_map, hrow]; rfl
                                    have hfl : (frontR x132 r).l.length = r.l.length := frontL_len x132 r.l
                                    have hrlf : ∀ q ∈ rows.map (frontR x132), q.l.length ≤ 1000 := fun q hq => by obtain ⟨q2, hq2, rfl⟩ := List.mem_map.1 hq; exact Nat.le_trans (Nat.le_of_eq (frontL_len _ _)) (hrlz q2 hq2)
                                    refine l_of (s_call (wt0 rfl) (x_call' rfl rfl cl12) (order_s (by rw [List.length_map]; exact hnrz) hnr2 hrlf _ (H174.takes [0, 1, 2, 3] (by decide))) ?_)
                                    rintro ee182 wq180 hor183
                                    rcases hor183 with ⟨hq9, rfl, H181⟩ | ⟨j175, rr179, p177, c178, hq9, hrw176, rfl, H181⟩
                                    · skip
                                      omega
                                    · skip
                                      have hj9 : j175 = i130 := by omega
                                      rw [hj9, hrowf] at hrw176
                                      obtain rfl := Option.some.inj hrw176
                                      replace H181 : S wq180 [Rw 9 1 p177 (frontR x132 r).l.length c178 (stV (namesT (upd tk x132 ⟨(tk x132).name, 0, 0, true, false⟩) (frontR x132 r).l)), Ob g (.cells #[.pointer none, .int .i64 0, .slice P nr C, (.map (some mg)), .int .i64 wv, .int .i64 ((wv + (1 + (((xe.tmod 100000) + 100000) % 100000)))), .bool ((begun || decide ((evS begun false false) = 1))), .bool false, .bool ((false && !decide ((evS begun false false) = 3))), .bool false] 64 (0, 0)), Rw 68 1 P nr C (rosV (rows.map (frontR x132))), RowsI 59 1 ptL (rows.map (frontR x132)), Fam 71 Tk.cells (adr (rows.map (frontR x132))) (upd tk x132 ⟨(tk x132).name, 0, 0, true, false⟩), Rw 9 1 p147 r.l.length c148 (stV (namesT tk r.l)), Ob g140 (.cells #[.int .i64 ((i130 : Int)), .int .i64 ((k131 : Int)), .int .i64 wv, .int .i64 ((evS begun false false))] 34 (0, 0)), Mp Value.string (fun x : Int => Value.int .i64 x) okT mf (upM MF (tk x132).name 0), Mp Value.string (fun x : Int => Value.int .i64 x) okT ma MA, Old w no] := H174.absorbI (new := [Rw 9 1 p177 (frontR x132 r).l.length c178 (stV (namesT (upd tk x132 ⟨(tk x132).name, 0, 0, true, false⟩) (frontR x132 r).l)), Ob g (.cells #[.pointer none, .int .i64 0, .slice P nr C, (.map (some mg)), .int .i64 wv, .int .i64 ((wv + (1 + (((xe.tmod 100000) + 100000) % 100000)))), .bool ((begun || decide ((evS begun false false) = 1))), .bool false, .bool ((false && !decide ((evS begun false false) = 3))), .bool false] 64 (0, 0)), Rw 68 1 P nr C (rosV (rows.map (frontR x132))), RowsI 59 1 ptL (rows.map (frontR x132)), Fam 71 Tk.cells (adr (rows.map (frontR x132))) (upd tk x132 ⟨(tk x132).name, 0, 0, true, false⟩)]) [0, 1, 2, 3] H181
                                      refine b_ret rfl rfl ?_
                                      refine l_of (s_val (v := .tuple #[.slice p177 (frontR x132 r).l.length c178, .int .i64 0]) (wt0 rfl) rfl rfl (x_move rfl rfl) ?_)
                                      refine l_of (s_val (v := .slice p177 (frontR x132 r).l.length c178) (wt0 rfl) rfl rfl (x_extract rfl rfl rfl) ?_)
                                      refine l_of (s_val (v := .int .i64 0) (wt0 rfl) rfl rfl (x_extract rfl rfl rfl) ?_)
                                      refine l_of (s_val (v := .slice p177 (frontR x132 r).l.length c178) (wt0 rfl) rfl rfl (x_assign rfl rfl) ?_)
                                      refine l_of (s_val (v := .int .i64 0) (wt0 rfl) rfl rfl (x_assign rfl rfl) ?_)
                                      refine g_nil ?_
                                      refine g_then ?_
                                      refine g_seq ?_
                                      refine g_region ?_
                                      refine l_of (s_val (v := .int .i64 0) (wt0 rfl) rfl rfl (x_move rfl rfl) ?_)
                                      refine l_of (s_val (v := .bool (!decide ((0 : Int) = 0))) (wt0 rfl) rfl rfl (x_bin rfl rfl rfl b_neq) ?_)
                                      refine l_of (s_val (v := .bool (!decide ((0 : Int) = 0))) (wt0 rfl) rfl rfl (x_move rfl rfl) ?_)
                                      refine l_of (s_val (v := .slice p177 (frontR x132 r).l.length c178) (wt1 rfl rfl rfl rfl (nf rfl)) rfl rfl (x_move rfl rfl) ?_)
                                      refine l_of (s_val (v := .int .i64 (((frontR x132 r).l.length : Int))) (wt1 rfl rfl rfl rfl (nf rfl)) rfl rfl (x_lenl rfl rfl Try.underlying37) ?_)
                                      refine l_of (s_val (v := .bool (decide ((((frontR x132 r).l.length : Int) : Int) = 0))) (wt1 rfl rfl rfl rfl (nf rfl)) rfl rfl (x_bin rfl rfl rfl b_eql) ?_)
                                      refine l_of (s_val (v := .bool (decide ((((frontR x132 r).l.length : Int) : Int) = 0))) (wt0 rfl) rfl rfl (x_pick_f rfl rfl (nf rfl) rfl) ?_)
                                      refine l_of (s_val (v := .bool (decide ((((frontR x132 r).l.length : Int) : Int) = 0))) (wt0 rfl) rfl rfl (x_move rfl rfl) ?_)
                                      by_cases hb184 : (((frontR x132 r).l.length : Int) : Int) = 0
                                      · skip
                                        refine l_of (s_not (wn1 rfl rfl rfl rfl (decide_eq_true hb184)) rfl rfl ?_)
                                        refine l_of (s_not (wn1 rfl rfl rfl rfl (decide_eq_true hb184)) rfl rfl ?_)
                                        refine l_of (s_not (wn1 rfl rfl rfl rfl (decide_eq_true hb184)) rfl rfl ?_)
                                        refine l_of (s_not (wn1 rfl rfl rfl rfl (decide_eq_true hb184)) rfl rfl ?_)
                                        refine l_of (s_not (wn1 rfl rfl rfl rfl (decide_eq_true hb184)) rfl rfl ?_)
                                        refine l_of (s_val (v := .bool true) (wt0 rfl) rfl rfl (x_pick_t rfl rfl (decide_eq_true hb184) rfl) ?_)
                                        refine g_nil ?_
                                        refine g_then ?_
                                        refine g_weak [(7, .pointer (some ⟨g, 0, none⟩)), (9, .map (some mf)), (10, .map (some ma)), (11, .int .i64 wv), (46, .slice pe ne ce), (47, .int .i64 ((ne : Int))), (48, .int .i64 ((z : Int))), (125, .int .i64 wv), (126, .map (some ma)), (127, .string ((tk x132).name)), (128, .int .i64 (((MA (tk x132).name).getD 0))), (129, .map (some mf)), (130, .string ((tk x132).name)), (131, .int .i64 (((MF (tk x132).name).getD 0))), (132, .int .i64 ((waitS ((MF (tk x132).name).getD 0)))), (133, .int .i64 (((MA (tk x132).name).getD 0) + (waitS ((MF (tk x132).name).getD 0)))), (134, .bool (decide ((wv : Int) < ((MA (tk x132).name).getD 0) + (waitS ((MF (tk x132).name).getD 0))))), (182, .bool true)] ⟨rfl, rfl, rfl, rfl, rfl, rfl, rfl, rfl, rfl, rfl, rfl, rfl, rfl, rfl, rfl, rfl, rfl, rfl, trivial⟩ ?_
                                        refine g_cond_t rfl rfl ?_
                                        refine g_seq ?_
                                        refine g_region ?_
                                        refine l_of (s_val (v := .bool false) (wt0 rfl) rfl rfl (x_assign rfl rfl) ?_)
                                        refine g_nil ?_
                                        refine g_then ?_
                                        refine g_weak [(6, .bool false)] ⟨rfl, trivial⟩ ?_
                                        refine g_ret ?_
                                        refine g_in_ret ?_
                                        refine g_then_ret ?_
                                        refine g_then_ret ?_
                                        refine g_in_ret ?_
                                        refine g_then_ret ?_
                                        refine fin_ret [.tmp 6] [.bool false] rfl ⟨rfl, trivial⟩ ?_
                                        exfalso; omega
                                      · skip
                                        refine l_of (s_val (v := .slice p177 (frontR x132 r).l.length c178) (wt1 rfl rfl rfl rfl (decide_eq_false hb184)) rfl rfl (x_move rfl rfl) ?_)
                                        refine l_of (s_val (v := .pointer ((p177).map fun q => q.add (0 * 1))) (wt1 rfl rfl rfl rfl (decide_eq_false hb184)) rfl rfl (x_idxR 0 (H181.rwReads (k := 0) rfl) rfl rfl rfl Try.underlying37 sz9 (by omega)) ?_)
                                        refine l_of (s_val (v := .string ((tk x132).name)) (wt1 rfl rfl rfl rfl (decide_eq_false hb184)) rfl rfl (x_loadR1 0 (H181.rwReads (k := 0) rfl) (by omega) rfl rfl Try.underlying9 rfl (stV_at ((names_at (tk := (upd tk x132 ⟨(tk x132).name, 0, 0, true, false⟩)) (front_first (List.mem_of_getElem? hkx))).trans (by rw [upd_same])))) ?_)
                                        refine l_of (s_val (v := .string ((tk x132).name)) (wt1 rfl rfl rfl rfl (decide_eq_false hb184)) rfl rfl (x_move rfl rfl) ?_)
                                        refine l_of (s_val (v := .bool (!decide ((tk x132).name = (tk x132).name))) (wt1 rfl rfl rfl rfl (decide_eq_false hb184)) rfl rfl (x_bin rfl rfl rfl b_nes) ?_)
                                        refine l_of (s_val (v := .bool (!decide ((tk x132).name = (tk x132).name))) (wt0 rfl) rfl rfl (x_pick_f rfl rfl (decide_eq_false hb184) rfl) ?_)
                                        refine g_nil ?_
                                        refine g_then ?_
                                        refine g_weak [(7, .pointer (some ⟨g, 0, none⟩)), (9, .map (some mf)), (10, .map (some ma)), (11, .int .i64 wv), (46, .slice pe ne ce), (47, .int .i64 ((ne : Int))), (48, .int .i64 ((z : Int))), (125, .int .i64 wv), (126, .map (some ma)), (127, .string ((tk x132).name)), (128, .int .i64 (((MA (tk x132).name).getD 0))), (129, .map (some mf)), (130, .string ((tk x132).name)), (131, .int .i64 (((MF (tk x132).name).getD 0))), (132, .int .i64 ((waitS ((MF (tk x132).name).getD 0)))), (133, .int .i64 (((MA (tk x132).name).getD 0) + (waitS ((MF (tk x132).name).getD 0)))), (134, .bool (decide ((wv : Int) < ((MA (tk x132).name).getD 0) + (waitS ((MF (tk x132).name).getD 0))))), (182, .bool (!decide ((tk x132).name = (tk x132).name)))] ⟨rfl, rfl, rfl, rfl, rfl, rfl, rfl, rfl, rfl, rfl, rfl, rfl, rfl, rfl, rfl, rfl, rfl, rfl, trivial⟩ ?_
                                        refine g_cond_f rfl (nf rfl) ?_
                                        refine g_skip ?_
                                        refine g_in ?_
                                        refine g_then ?_
                                        refine g_region ?_
                                        refine l_of (s_val (v := .int .i64 ((z : Int) + 1)) (wt0 rfl) rfl rfl (x_bin rfl rfl rfl (b_add (w64 (by omega)))) ?_)
                                        refine l_of (s_val (v := .int .i64 ((z : Int) + 1)) (wt0 rfl) rfl rfl (x_move rfl rfl) ?_)
                                        refine g_nil ?_
                                        refine g_then ?_
                                        refine g_round (i := (z, rows, tk, tn, til, now, begun, MF, MA)) ((z + 1), (rows.map (frontR x132)), (upd tk x132 ⟨(tk x132).name, 0, 0, true, false⟩), wv, (wv + (1 + (((xe.tmod 100000) + 100000) % 100000))), wv, (begun || decide ((evS begun false false) = 1)), (upM MF (tk x132).name 0), MA) ?_ ?_ ?_
                                        · exact ⟨rfl, rfl, rfl, rfl, rfl, rfl, rfl, trivial⟩
                                        · exact ⟨by omega, (by rw [List.length_map]; exact hnrz), (hI.answer hxa (by omega) (by omega) (by omega) (by omega)), (H181.takes [1, 2, 3, 4, 7, 8, 9] (by decide))⟩
                                        · (try dsimp only); omega
                            · skip
                              refine q_not (wn1 rfl rfl rfl rfl (decide_eq_false hb156)) rfl rfl ?_
                              refine q_not (wn1 rfl rfl rfl rfl (decide_eq_false hb156)) rfl rfl ?_
                              refine q_not (wn1 rfl rfl rfl rfl (decide_eq_false hb156)) rfl rfl ?_
                              refine q_not (wn1 rfl rfl rfl rfl (decide_eq_false hb156)) rfl rfl ?_
                              refine q_not (wn1 rfl rfl rfl rfl (decide_eq_false hb156)) rfl rfl ?_
                              refine q_not (wn1 rfl rfl rfl rfl (decide_eq_false hb156)) rfl rfl ?_
                              refine q_not (wn1 rfl rfl rfl rfl (decide_eq_false hb156)) rfl rfl ?_
                              refine q_not (wn1 rfl rfl rfl rfl (decide_eq_false hb156)) rfl rfl ?_
                              refine q_not (wn1 rfl rfl rfl rfl (decide_eq_false hb156)) rfl rfl ?_
                              refine q_not (wn1 rfl rfl rfl rfl (decide_eq_false hb156)) rfl rfl ?_
                              refine q_val (v := .bool false) (wt0 rfl) rfl rfl (fun wx H => x_pick_f rfl rfl (decide_eq_false hb156) rfl) ?_
                              refine q_nil (fun wq185 H186 => ?_)
                              refine g_then ?_
                              refine g_weak [(7, .pointer (some ⟨g, 0, none⟩)), (9, .map (some mf)), (10, .map (some ma)), (13, .int .i64 xe), (14, .int .i64 wv), (18, .pointer (some ⟨g140, 0, none⟩)), (20, .string ((tk x132).name)), (46, .slice pe ne ce), (47, .int .i64 ((ne : Int))), (48, .int .i64 ((z : Int))), (125, undef), (126, undef), (127, undef), (128, undef), (129, undef), (130, undef), (131, undef), (132, undef), (133, undef), (134, undef), (135, .bool false)] ⟨rfl, rfl, rfl, rfl, rfl, rfl, rfl, rfl, rfl, rfl, rfl, rfl, rfl, rfl, rfl, rfl, rfl, rfl, rfl, rfl, rfl, trivial⟩ ?_
                              refine g_cond_f rfl rfl ?_
                              refine g_skip ?_
                              refine g_then ?_
                              refine g_seq ?_
                              refine g_region ?_
                              refine l_of (s_val (v := .int .i64 wv) (wt0 rfl) rfl rfl (x_move rfl rfl) ?_)
                              refine l_of (s_val (v := .int .i64 wv) (wt0 rfl) rfl rfl (x_assign rfl rfl) ?_)
                              refine g_nil ?_
                              refine g_then ?_
                              refine g_seq ?_
                              refine g_seq ?_
                              refine g_region ?_
                              refine l_of (s_val (v := .int .i64 xe) (wt0 rfl) rfl rfl (x_move rfl rfl) ?_)
                              refine l_of (s_val (v := .int .i64 ((xe.tmod 3))) (wt0 rfl) rfl rfl (x_bin rfl rfl rfl (b_rem (by decide) rfl)) ?_)
                              refine l_of (s_val (v := .bool (decide (((xe.tmod 3) : Int) = 0))) (wt0 rfl) rfl rfl (x_bin rfl rfl rfl b_eql) ?_)
                              refine g_nil ?_
                              refine g_then ?_
                              by_cases hb187 : ((xe.tmod 3) : Int) = 0
                              · skip
                                refine g_cond_t rfl (decide_eq_true hb187) ?_
                                refine g_seq ?_
                                refine g_seq ?_
                                refine g_region ?_
                                refine l_of (s_val (v := .pointer (some ⟨g, 0, none⟩)) (wt0 rfl) rfl rfl (x_move rfl rfl) ?_)
                                refine l_of (s_val (v := .int .i64 wv) (wt0 rfl) rfl rfl (x_move rfl rfl) ?_)
                                refine l_of (s_call (wt0 rfl) (x_call' rfl rfl cl14) (fail_f hxa (by omega) (by omega) (by omega) _ (H186.takes [1, 4] (by decide))) ?_)
                                rintro ee190 wq188 hor191
                                rcases hor191 with ⟨hl9, rfl, H189⟩ | ⟨hl0, rfl, H189⟩
                                · skip
                                  exact absurd (tellS_ok (by omega) (by omega)) hl9
                                · skip
                                  replace H189 : S wq188 [Ob g (.cells #[.pointer none, .int .i64 0, .slice P nr C, (.map (some mg)), .int .i64 wv, .int .i64 til, .bool begun, .bool false, .bool false, .bool false] 64 (0, 0)), Fam 71 Tk.cells (adr rows) (upd tk x132 (⟨(tk x132).name, (tk x132).failed + 1, wv + waitS ((tk x132).failed + 1), (tk x132).ans, (tk x132).told || decide ((evS begun false false) = 2)⟩ : Tk)), Rw 9 1 p147 r.l.length c148 (stV (namesT tk r.l)), Rw 68 1 P nr C (rosV rows), RowsI 59 1 ptL rows, Ob g140 (.cells #[.int .i64 ((i130 : Int)), .int .i64 ((k131 : Int)), .int .i64 wv, .int .i64 ((evS begun false false))] 34 (0, 0)), Mp Value.string (fun x : Int => Value.int .i64 x) okT mf MF, Mp Value.string (fun x : Int => Value.int .i64 x) okT ma MA, Old w no] := H186.absorbI (new := [Ob g (.cells #[.pointer none, .int .i64 0, .slice P nr C, (.map (some mg)), .int .i64 wv, .int .i64 til, .bool begun, .bool false, .bool false, .bool false] 64 (0, 0)), Fam 71 Tk.cells (adr rows) (upd tk x132 (⟨(tk x132).name, (tk x132).failed + 1, wv + waitS ((tk x132).failed + 1), (tk x132).ans, (tk x132).told || decide ((evS begun false false) = 2)⟩ : Tk))]) [1, 4] H189
                                  refine b_ret rfl rfl ?_
                                  refine l_of (s_val (v := .bool (!decide ((0 : Int) = 0))) (wt0 rfl) rfl rfl (x_bin rfl rfl rfl b_neq) ?_)
                                  refine g_nil ?_
                                  refine g_then ?_
                                  refine g_cond_f rfl (nf rfl) ?_
                                  refine g_skip ?_
                                  refine g_then ?_
                                  refine g_weak [(7, .pointer (some ⟨g, 0, none⟩)), (9, .map (some mf)), (10, .map (some ma)), (11, .int .i64 wv), (20, .string ((tk x132).name)), (46, .slice pe ne ce), (47, .int .i64 ((ne : Int))), (48, .int .i64 ((z : Int))), (125, undef), (126, undef), (127, undef), (128, undef), (129, undef), (130, undef), (131, undef), (132, undef), (133, undef), (134, undef)] ⟨rfl, rfl, rfl, rfl, rfl, rfl, rfl, rfl, rfl, rfl, rfl, rfl, rfl, rfl, rfl, rfl, rfl, rfl, trivial⟩ ?_
                                  refine g_seq ?_
                                  refine g_region ?_
                                  refine l_of (s_val (v := .map (some mf)) (wt0 rfl) rfl rfl (x_move rfl rfl) ?_)
                                  refine l_of (s_val (v := .string ((tk x132).name)) (wt0 rfl) rfl rfl (x_move rfl rfl) ?_)
                                  refine l_of (s_val (v := .int .i64 (((MF (tk x132).name).getD 0))) (wt0 rfl) rfl rfl (ex_cast (x_lookup1 (x := (tk x132).name) (strTy Try.underlying30 Try.underlying9) H189 6 rfl rfl rfl rfl hokT ze3) (look_I _)) ?_)
                                  refine l_of (s_val (v := .int .i64 (((MF (tk x132).name).getD 0) + 1)) (wt0 rfl) rfl rfl (x_bin rfl rfl rfl (b_add (w64 (by omega)))) ?_)
                                  refine l_of (s_mapUpdate (x := (tk x132).name) (a := ((MF (tk x132).name).getD 0 + 1)) (strTy Try.underlying30 Try.underlying9) H189 6 (wt0 rfl) rfl rfl rfl rfl rfl rfl hokT ?_)
                                  intro wq192 H193
                                  replace H193 : S wq192 [Ob g (.cells #[.pointer none, .int .i64 0, .slice P nr C, (.map (some mg)), .int .i64 wv, .int .i64 til, .bool begun, .bool false, .bool false, .bool false] 64 (0, 0)), Fam 71 Tk.cells (adr rows) (upd tk x132 (⟨(tk x132).name, (tk x132).failed + 1, wv + waitS ((tk x132).failed + 1), (tk x132).ans, (tk x132).told || decide ((evS begun false false) = 2)⟩ : Tk)), Rw 9 1 p147 r.l.length c148 (stV (namesT tk r.l)), Rw 68 1 P nr C (rosV rows), RowsI 59 1 ptL rows, Ob g140 (.cells #[.int .i64 ((i130 : Int)), .int .i64 ((k131 : Int)), .int .i64 wv, .int .i64 ((evS begun false false))] 34 (0, 0)), Mp Value.string (fun x : Int => Value.int .i64 x) okT mf (upM MF (tk x132).name ((MF (tk x132).name).getD 0 + 1)), Mp Value.string (fun x : Int => Value.int .i64 x) okT ma MA, Old w no] := H193
                                  refine g_nil ?_
                                  refine g_then ?_
                                  refine g_seq ?_
                                  refine g_region ?_
                                  refine l_of (s_val (v := .map (some ma)) (wt0 rfl) rfl rfl (x_move rfl rfl) ?_)
                                  refine l_of (s_val (v := .string ((tk x132).name)) (wt0 rfl) rfl rfl (x_move rfl rfl) ?_)
                                  refine l_of (s_val (v := .int .i64 wv) (wt0 rfl) rfl rfl (x_move rfl rfl) ?_)
                                  refine l_of (s_mapUpdate (x := (tk x132).name) (a := wv) (strTy Try.underlying30 Try.underlying9) H193 7 (wt0 rfl) rfl rfl rfl rfl rfl rfl hokT ?_)
                                  intro wq194 H195
                                  replace H195 : S wq194 [Ob g (.cells #[.pointer none, .int .i64 0, .slice P nr C, (.map (some mg)), .int .i64 wv, .int .i64 til, .bool begun, .bool false, .bool false, .bool false] 64 (0, 0)), Fam 71 Tk.cells (adr rows) (upd tk x132 (⟨(tk x132).name, (tk x132).failed + 1, wv + waitS ((tk x132).failed + 1), (tk x132).ans, (tk x132).told || decide ((evS begun false false) = 2)⟩ : Tk)), Rw 9 1 p147 r.l.length c148 (stV (namesT tk r.l)), Rw 68 1 P nr C (rosV rows), RowsI 59 1 ptL rows, Ob g140 (.cells #[.int .i64 ((i130 : Int)), .int .i64 ((k131 : Int)), .int .i64 wv, .int .i64 ((evS begun false false))] 34 (0, 0)), Mp Value.string (fun x : Int => Value.int .i64 x) okT mf (upM MF (tk x132).name ((MF (tk x132).name).getD 0 + 1)), Mp Value.string (fun x : Int => Value.int .i64 x) okT ma (upM MA (tk x132).name wv), Old w no] := H195
                                  refine g_nil ?_
                                  refine g_then ?_
                                  refine g_exit ?_
                                  refine g_then_exit ?_
                                  refine g_in_hit ?_
                                  refine g_then ?_
                                  refine g_region ?_
                                  refine l_of (s_val (v := .int .i64 ((z : Int) + 1)) (wt0 rfl) rfl rfl (x_bin rfl rfl rfl (b_add (w64 (by omega)))) ?_)
                                  refine l_of (s_val (v := .int .i64 ((z : Int) + 1)) (wt0 rfl) rfl rfl (x_move rfl rfl) ?_)
                                  refine g_nil ?_
                                  refine g_then ?_
                                  refine g_round (i := (z, rows, tk, tn, til, now, begun, MF, MA)) ((z + 1), rows, (upd tk x132 (⟨(tk x132).name, (tk x132).failed + 1, wv + waitS ((tk x132).failed + 1), (tk x132).ans, (tk x132).told || decide ((evS begun false false) = 2)⟩ : Tk)), wv, til, wv, begun, (upM MF (tk x132).name ((MF (tk x132).name).getD 0 + 1)), (upM MA (tk x132).name wv)) ?_ ?_ ?_
                                  · exact ⟨rfl, rfl, rfl, rfl, rfl, rfl, rfl, trivial⟩
                                  · exact ⟨by omega, hnrz, (hI.fail hxa (by omega) (by omega) _), (H195.takes [0, 3, 4, 1, 6, 7, 8] (by decide))⟩
                                  · (try dsimp only); omega
                              · skip
                                refine g_cond_f rfl (decide_eq_false hb187) ?_
                                refine g_skip ?_
                                refine g_then ?_
                                refine g_seq ?_
                                refine g_seq ?_
                                refine g_region ?_
                                refine l_of (s_val (v := .pointer (some ⟨g, 0, none⟩)) (wt0 rfl) rfl rfl (x_move rfl rfl) ?_)
                                refine l_of (s_val (v := .int .i64 wv) (wt0 rfl) rfl rfl (x_move rfl rfl) ?_)
                                refine l_of (s_val (v := .int .i64 xe) (wt0 rfl) rfl rfl (x_move rfl rfl) ?_)
                                refine l_of (s_val (v := .int .i64 ((xe.tmod 100000))) (wt0 rfl) rfl rfl (x_bin rfl rfl rfl (b_rem (by decide) rfl)) ?_)
                                refine l_of (s_val (v := .int .i64 ((xe.tmod 100000) + 100000)) (wt0 rfl) rfl rfl (x_bin rfl rfl rfl (b_add (w64 (by omega)))) ?_)
                                refine l_of (s_val (v := .int .i64 (((xe.tmod 100000) + 100000) % 100000)) (wt0 rfl) rfl rfl (x_bin rfl rfl rfl (b_rem (by omega) (rem0 (by omega)))) ?_)
                                refine l_of (s_val (v := .int .i64 (1 + (((xe.tmod 100000) + 100000) % 100000))) (wt0 rfl) rfl rfl (x_bin rfl rfl rfl (b_add (w64 (by omega)))) ?_)
                                refine l_of (s_call (wt0 rfl) (x_call' rfl rfl cl15) (answer_s hnrz hnr2 hrlz hxa (by omega) _ (H186.takes [1, 2, 3, 4] (by decide))) ?_)
                                rintro ee198 wq196 hor199
                                rcases hor199 with ⟨hi9, rfl, H197⟩ | ⟨_, _, hl9, rfl, H197⟩ | ⟨_, _, hl0, he9, rfl, H197⟩ | ⟨_, _, hl0, he9, rfl, H197⟩
                                · skip
                                  omega
                                · skip
                                  exact absurd (tellS_ok (by omega) (by omega)) hl9
                                · skip
                                  exact absurd he9 hev
                                · skip
                                  replace H197 : S wq196 [Ob g (.cells #[.pointer none, .int .i64 0, .slice P nr C, (.map (some mg)), .int .i64 wv, .int .i64 ((wv + (1 + (((xe.tmod 100000) + 100000) % 100000)))), .bool ((begun || decide ((evS begun false false) = 1))), .bool false, .bool ((false && !decide ((evS begun false false) = 3))), .bool false] 64 (0, 0)), Rw 68 1 P nr C (rosV (rows.map (frontR x132))), RowsI 59 1 ptL (rows.map (frontR x132)), Fam 71 Tk.cells (adr (rows.map (frontR x132))) (upd tk x132 ⟨(tk x132).name, 0, 0, true, false⟩), Rw 9 1 p147 r.l.length c148 (stV (namesT tk r.l)), Ob g140 (.cells #[.int .i64 ((i130 : Int)), .int .i64 ((k131 : Int)), .int .i64 wv, .int .i64 ((evS begun false false))] 34 (0, 0)), Mp Value.string (fun x : Int => Value.int .i64 x) okT mf MF, Mp Value.string (fun x : Int => Value.int .i64 x) okT ma MA, Old w no] := H186.absorbI (new := [Ob g (.cells #[.pointer none, .int .i64 0, .slice P nr C, (.map (some mg)), .int .i64 wv, .int .i64 ((wv + (1 + (((xe.tmod 100000) + 100000) % 100000)))), .bool ((begun || decide ((evS begun false false) = 1))), .bool false, .bool ((false && !decide ((evS begun false false) = 3))), .bool false] 64 (0, 0)), Rw 68 1 P nr C (rosV (rows.map (frontR x132))), RowsI 59 1 ptL (rows.map (frontR x132)), Fam 71 Tk.cells (adr (rows.map (frontR x132))) (upd tk x132 ⟨(tk x132).name, 0, 0, true, false⟩)]) [1, 2, 3, 4] H197
                                  refine b_ret rfl rfl ?_
                                  refine l_of (s_val (v := .bool (!decide ((0 : Int) = 0))) (wt0 rfl) rfl rfl (x_bin rfl rfl rfl b_neq) ?_)
                                  refine g_nil ?_
                                  refine g_then ?_
                                  refine g_weak [(7, .pointer (some ⟨g, 0, none⟩)), (9, .map (some mf)), (10, .map (some ma)), (11, .int .i64 wv), (18, .pointer (some ⟨g140, 0, none⟩)), (20, .string ((tk x132).name)), (46, .slice pe ne ce), (47, .int .i64 ((ne : Int))), (48, .int .i64 ((z : Int))), (125, undef), (126, undef), (127, undef), (128, undef), (129, undef), (130, undef), (131, undef), (132, undef), (133, undef), (134, undef), (159, .bool (!decide ((0 : Int) = 0)))] ⟨rfl, rfl, rfl, rfl, rfl, rfl, rfl, rfl, rfl, rfl, rfl, rfl, rfl, rfl, rfl, rfl, rfl, rfl, rfl, rfl, trivial⟩ ?_
                                  refine g_cond_f rfl (nf rfl) ?_
                                  refine g_skip ?_
                                  refine g_then ?_
                                  refine g_seq ?_
                                  refine g_region ?_
                                  refine l_of (s_val (v := .map (some mf)) (wt0 rfl) rfl rfl (x_move rfl rfl) ?_)
                                  refine l_of (s_val (v := .string ((tk x132).name)) (wt0 rfl) rfl rfl (x_move rfl rfl) ?_)
                                  refine l_of (s_mapUpdate (x := (tk x132).name) (a := 0) (strTy Try.underlying30 Try.underlying9) H197 6 (wt0 rfl) rfl rfl rfl rfl rfl rfl hokT ?_)
                                  intro wq200 H201
                                  replace H201 : S wq200 [Ob g (.cells #[.pointer none, .int .i64 0, .slice P nr C, (.map (some mg)), .int .i64 wv, .int .i64 ((wv + (1 + (((xe.tmod 100000) + 100000) % 100000)))), .bool ((begun || decide ((evS begun false false) = 1))), .bool false, .bool ((false && !decide ((evS begun false false) = 3))), .bool false] 64 (0, 0)), Rw 68 1 P nr C (rosV (rows.map (frontR x132))), RowsI 59 1 ptL (rows.map (frontR x132)), Fam 71 Tk.cells (adr (rows.map (frontR x132))) (upd tk x132 ⟨(tk x132).name, 0, 0, true, false⟩), Rw 9 1 p147 r.l.length c148 (stV (namesT tk r.l)), Ob g140 (.cells #[.int .i64 ((i130 : Int)), .int .i64 ((k131 : Int)), .int .i64 wv, .int .i64 ((evS begun false false))] 34 (0, 0)), Mp Value.string (fun x : Int => Value.int .i64 x) okT mf (upM MF (tk x132).name 0), Mp Value.string (fun x : Int => Value.int .i64 x) okT ma MA, Old w no] := H201
                                  refine g_nil ?_
                                  refine g_then ?_
                                  refine g_seq ?_
                                  refine g_region ?_
                                  refine l_of (s_val (v := .pointer (some ⟨g, 0, none⟩)) (wt0 rfl) rfl rfl (x_move rfl rfl) ?_)
                                  refine l_of (s_val (v := .pointer (some ⟨g140, 0, none⟩)) (wt0 rfl) rfl rfl (x_fieldAddr rfl rfl fo34_0 rfl) ?_)
                                  refine l_of (s_val (v := .int .i64 ((i130 : Int))) (wt0 rfl) rfl rfl (x_load1 H201 5 rfl rfl Try.underlying3 rfl rfl rfl) ?_)
                                  have hrowf : (rows.map (frontR x132))[i130]? = some (frontR x132 r) := by rw [List.getElem?_map, hrow]; rfl
                                  have hfl : (frontR x132 r).l.length = r.l.length := frontL_len x132 r.l
                                  have hrlf : ∀ q ∈ rows.map (frontR x132), q.l.length ≤ 1000 := fun q hq => by obtain ⟨q2, hq2, rfl⟩ := List.mem_map.1 hq; exact Nat.le_trans (Nat.le_of_eq (frontL_len _ _)) (hrlz q2 hq2)
                                  refine l_of (s_call (wt0 rfl) (x_call' rfl rfl cl12) (order_s (by rw [List.length_map]; exact hnrz) hnr2 hrlf _ (H201.takes [0, 1, 2, 3] (by decide))) ?_)
                                  rintro ee209 wq207 hor210
                                  rcases hor210 with ⟨hq9, rfl, H208⟩ | ⟨j202, rr206, p204, c205, hq9, hrw203, rfl, H208⟩
                                  · skip
                                    omega
                                  · skip
                                    have hj9 : j202 = i130 := by omega
                                    rw [hj9, hrowf] at hrw203
                                    obtain rfl := Option.some.inj hrw203
                                    replace H208 : S wq207 [Rw 9 1 p204 (frontR x132 r).l.length c205 (stV (namesT (upd tk x132 ⟨(tk x132).name, 0, 0, true, false⟩) (frontR x132 r).l)), Ob g (.cells #[.pointer none, .int .i64 0, .slice P nr C, (.map (some mg)), .int .i64 wv, .int .i64 ((wv + (1 + (((xe.tmod 100000) + 100000) % 100000)))), .bool ((begun || decide ((evS begun false false) = 1))), .bool false, .bool ((false && !decide ((evS begun false false) = 3))), .bool false] 64 (0, 0)), Rw 68 1 P nr C (rosV (rows.map (frontR x132))), RowsI 59 1 ptL (rows.map (frontR x132)), Fam 71 Tk.cells (adr (rows.map (frontR x132))) (upd tk x132 ⟨(tk x132).name, 0, 0, true, false⟩), Rw 9 1 p147 r.l.length c148 (stV (namesT tk r.l)), Ob g140 (.cells #[.int .i64 ((i130 : Int)), .int .i64 ((k131 : Int)), .int .i64 wv, .int .i64 ((evS begun false false))] 34 (0, 0)), Mp Value.string (fun x : Int => Value.int .i64 x) okT mf (upM MF (tk x132).name 0), Mp Value.string (fun x : Int => Value.int .i64 x) okT ma MA, Old w no] := H201.absorbI (new := [Rw 9 1 p204 (frontR x132 r).l.length c205 (stV (namesT (upd tk x132 ⟨(tk x132).name, 0, 0, true, false⟩) (frontR x132 r).l)), Ob g (.cells #[.pointer none, .int .i64 0, .slice P nr C, (.map (some mg)), .int .i64 wv, .int .i64 ((wv + (1 + (((xe.tmod 100000) + 100000) % 100000)))), .bool ((begun || decide ((evS begun false false) = 1))), .bool false, .bool ((false && !decide ((evS begun false false) = 3))), .bool false] 64 (0, 0)), Rw 68 1 P nr C (rosV (rows.map (frontR x132))), RowsI 59 1 ptL (rows.map (frontR x132)), Fam 71 Tk.cells (adr (rows.map (frontR x132))) (upd tk x132 ⟨(tk x132).name, 0, 0, true, false⟩)]) [0, 1, 2, 3] H208
                                    refine b_ret rfl rfl ?_
                                    refine l_of (s_val (v := .tuple #[.slice p204 (frontR x132 r).l.length c205, .int .i64 0]) (wt0 rfl) rfl rfl (x_move rfl rfl) ?_)
                                    refine l_of (s_val (v := .slice p204 (frontR x132 r).l.length c205) (wt0 rfl) rfl rfl (x_extract rfl rfl rfl) ?_)
                                    refine l_of (s_val (v := .int .i64 0) (wt0 rfl) rfl rfl (x_extract rfl rfl rfl) ?_)
                                    refine l_of (s_val (v := .slice p204 (frontR x132 r).l.length c205) (wt0 rfl) rfl rfl (x_assign rfl rfl) ?_)
                                    refine l_of (s_val (v := .int .i64 0) (wt0 rfl) rfl rfl (x_assign rfl rfl) ?_)
                                    refine g_nil ?_
                                    refine g_then ?_
                                    refine g_seq ?_
                                    refine g_region ?_
                                    refine l_of (s_val (v := .int .i64 0) (wt0 rfl) rfl rfl (x_move rfl rfl) ?_)
                                    refine l_of (s_val (v := .bool (!decide ((0 : Int) = 0))) (wt0 rfl) rfl rfl (x_bin rfl rfl rfl b_neq) ?_)
                                    refine l_of (s_val (v := .bool (!decide ((0 : Int) = 0))) (wt0 rfl) rfl rfl (x_move rfl rfl) ?_)
                                    refine l_of (s_val (v := .slice p204 (frontR x132 r).l.length c205) (wt1 rfl rfl rfl rfl (nf rfl)) rfl rfl (x_move rfl rfl) ?_)
                                    refine l_of (s_val (v := .int .i64 (((frontR x132 r).l.length : Int))) (wt1 rfl rfl rfl rfl (nf rfl)) rfl rfl (x_lenl rfl rfl Try.underlying37) ?_)
                                    refine l_of (s_val (v := .bool (decide ((((frontR x132 r).l.length : Int) : Int) = 0))) (wt1 rfl rfl rfl rfl (nf rfl)) rfl rfl (x_bin rfl rfl rfl b_eql) ?_)
                                    refine l_of (s_val (v := .bool (decide ((((frontR x132 r).l.length : Int) : Int) = 0))) (wt0 rfl) rfl rfl (x_pick_f rfl rfl (nf rfl) rfl) ?_)
                                    refine l_of (s_val (v := .bool (decide ((((frontR x132 r).l.length : Int) : Int) = 0))) (wt0 rfl) rfl rfl (x_move rfl rfl) ?_)
                                    by_cases hb211 : (((frontR x132 r).l.length : Int) : Int) = 0
                                    · skip
                                      refine l_of (s_not (wn1 rfl rfl rfl rfl (decide_eq_true hb211)) rfl rfl ?_)
                                      refine l_of (s_not (wn1 rfl rfl rfl rfl (decide_eq_true hb211)) rfl rfl ?_)
                                      refine l_of (s_not (wn1 rfl rfl rfl rfl (decide_eq_true hb211)) rfl rfl ?_)
                                      refine l_of (s_not (wn1 rfl rfl rfl rfl (decide_eq_true hb211)) rfl rfl ?_)
                                      refine l_of (s_not (wn1 rfl rfl rfl rfl (decide_eq_true hb211)) rfl rfl ?_)
                                      refine l_of (s_val (v := .bool true) (wt0 rfl) rfl rfl (x_pick_t rfl rfl (decide_eq_true hb211) rfl) ?_)
                                      refine g_nil ?_
                                      refine g_then ?_
                                      refine g_weak [(7, .pointer (some ⟨g, 0, none⟩)), (9, .map (some mf)), (10, .map (some ma)), (11, .int .i64 wv), (46, .slice pe ne ce), (47, .int .i64 ((ne : Int))), (48, .int .i64 ((z : Int))), (125, undef), (126, undef), (127, undef), (128, undef), (129, undef), (130, undef), (131, undef), (132, undef), (133, undef), (134, undef), (182, .bool true)] ⟨rfl, rfl, rfl, rfl, rfl, rfl, rfl, rfl, rfl, rfl, rfl, rfl, rfl, rfl, rfl, rfl, rfl, rfl, trivial⟩ ?_
                                      refine g_cond_t rfl rfl ?_
                                      refine g_seq ?_
                                      refine g_region ?_
                                      refine l_of (s_val (v := .bool false) (wt0 rfl) rfl rfl (x_assign rfl rfl) ?_)
                                      refine g_nil ?_
                                      refine g_then ?_
                                      refine g_weak [(6, .bool false)] ⟨rfl, trivial⟩ ?_
                                      refine g_ret ?_
                                      refine g_in_ret ?_
                                      refine g_then_ret ?_
                                      refine g_then_ret ?_
                                      refine g_in_ret ?_
                                      refine g_then_ret ?_
                                      refine fin_ret [.tmp 6] [.bool false] rfl ⟨rfl, trivial⟩ ?_
                                      exfalso; omega
                                    · skip
                                      refine l_of (s_val (v := .slice p204 (frontR x132 r).l.length c205) (wt1 rfl rfl rfl rfl (decide_eq_false hb211)) rfl rfl (x_move rfl rfl) ?_)
                                      refine l_of (s_val (v := .pointer ((p204).map fun q => q.add (0 * 1))) (wt1 rfl rfl rfl rfl (decide_eq_false hb211)) rfl rfl (x_idxR 0 (H208.rwReads (k := 0) rfl) rfl rfl rfl Try.underlying37 sz9 (by omega)) ?_)
                                      refine l_of (s_val (v := .string ((tk x132).name)) (wt1 rfl rfl rfl rfl (decide_eq_false hb211)) rfl rfl (x_loadR1 0 (H208.rwReads (k := 0) rfl) (by omega) rfl rfl Try.underlying9 rfl (stV_at ((names_at (tk := (upd tk x132 ⟨(tk x132).name, 0, 0, true, false⟩)) (front_first (List.mem_of_getElem? hkx))).trans (by rw [upd_same])))) ?_)
                                      refine l_of (s_val (v := .string ((tk x132).name)) (wt1 rfl rfl rfl rfl (decide_eq_false hb211)) rfl rfl (x_move rfl rfl) ?_)
                                      refine l_of (s_val (v := .bool (!decide ((tk x132).name = (tk x132).name))) (wt1 rfl rfl rfl rfl (decide_eq_false hb211)) rfl rfl (x_bin rfl rfl rfl b_nes) ?_)
                                      refine l_of (s_val (v := .bool (!decide ((tk x132).name = (tk x132).name))) (wt0 rfl) rfl rfl (x_pick_f rfl rfl (decide_eq_false hb211) rfl) ?_)
                                      refine g_nil ?_
                                      refine g_then ?_
                                      refine g_weak [(7, .pointer (some ⟨g, 0, none⟩)), (9, .map (some mf)), (10, .map (some ma)), (11, .int .i64 wv), (46, .slice pe ne ce), (47, .int .i64 ((ne : Int))), (48, .int .i64 ((z : Int))), (125, undef), (126, undef), (127, undef), (128, undef), (129, undef), (130, undef), (131, undef), (132, undef), (133, undef), (134, undef), (182, .bool (!decide ((tk x132).name = (tk x132).name)))] ⟨rfl, rfl, rfl, rfl, rfl, rfl, rfl, rfl, rfl, rfl, rfl, rfl, rfl, rfl, rfl, rfl, rfl, rfl, trivial⟩ ?_
                                      refine g_cond_f rfl (nf rfl) ?_
                                      refine g_skip ?_
                                      refine g_in ?_
                                      refine g_then ?_
                                      refine g_region ?_
                                      refine l_of (s_val (v := .int .i64 ((z : Int) + 1)) (wt0 rfl) rfl rfl (x_bin rfl rfl rfl (b_add (w64 (by omega)))) ?_)
                                      refine l_of (s_val (v := .int .i64 ((z : Int) + 1)) (wt0 rfl) rfl rfl (x_move rfl rfl) ?_)
                                      refine g_nil ?_
                                      refine g_then ?_
                                      refine g_round (i := (z, rows, tk, tn, til, now, begun, MF, MA)) ((z + 1), (rows.map (frontR x132)), (upd tk x132 ⟨(tk x132).name, 0, 0, true, false⟩), wv, (wv + (1 + (((xe.tmod 100000) + 100000) % 100000))), wv, (begun || decide ((evS begun false false) = 1)), (upM MF (tk x132).name 0), MA) ?_ ?_ ?_
                                      · exact ⟨rfl, rfl, rfl, rfl, rfl, rfl, rfl, trivial⟩
                                      · exact ⟨by omega, (by rw [List.length_map]; exact hnrz), (hI.answer hxa (by omega) (by omega) (by omega) (by omega)), (H208.takes [1, 2, 3, 4, 7, 8, 9] (by decide))⟩
                                      · (try dsimp only); omega
          · skip
            refine g_cond_f rfl (decide_eq_false hb23) ?_
            refine g_exit ?_
            refine g_then_exit ?_
            refine g_then_exit ?_
            refine g_in_hit ?_
            refine g_then ?_
            refine g_seq ?_
            refine g_region ?_
            refine l_of (s_call (wt0 rfl) (x_call' rfl rfl cl8) (awake_s _) ?_)
            rintro _ wq212 ⟨rfl, H213⟩
            replace H213 : S wq212 [Ob g (.cells #[.pointer none, .int .i64 0, .slice P nr C, (.map (some mg)), .int .i64 tn, .int .i64 til, .bool begun, .bool false, .bool false, .bool false] 64 (0, 0)), Rw 68 1 P nr C (rosV rows), RowsI 59 1 ptL rows, Fam 71 Tk.cells (adr rows) tk, Mp Value.string (fun x : Int => Value.int .i64 x) okT mf MF, Mp Value.string (fun x : Int => Value.int .i64 x) okT ma MA, Old w no] := H22.absorb (new := []) H213
            refine b_ret rfl rfl ?_
            refine l_of (s_val (v := .bool true) (wt0 rfl) rfl rfl (x_assign rfl rfl) ?_)
            refine g_nil ?_
            refine g_then ?_
            refine g_ret ?_
            refine fin_ret [.tmp 6] [.bool true] rfl ⟨rfl, trivial⟩ ?_
            exact ⟨rfl, H213.mask [false, false, false, false, false, false, true]⟩
  · skip
    replace H2 : S wq1 [Old w no] := H0.absorb (new := []) H2
    refine b_ret rfl rfl ?_
    refine l_of (s_val (v := .bool true) (wt0 rfl) rfl rfl (x_not (b := false) rfl rfl) ?_)
    refine l_of (s_val (v := .bool true) (wt0 rfl) rfl rfl (x_move rfl rfl) ?_)
    refine l_of (s_not (wn1 rfl rfl rfl rfl rfl) rfl rfl ?_)
    refine l_of (s_not (wn1 rfl rfl rfl rfl rfl) rfl rfl ?_)
    refine l_of (s_not (wn1 rfl rfl rfl rfl rfl) rfl rfl ?_)
    refine l_of (s_val (v := .bool true) (wt0 rfl) rfl rfl (x_pick_t rfl rfl rfl rfl) ?_)
    refine l_of (s_val (v := .bool true) (wt0 rfl) rfl rfl (x_move rfl rfl) ?_)
    refine l_of (s_not (wn1 rfl rfl rfl rfl rfl) rfl rfl ?_)
    refine l_of (s_not (wn1 rfl rfl rfl rfl rfl) rfl rfl ?_)
    refine l_of (s_not (wn1 rfl rfl rfl rfl rfl) rfl rfl ?_)
    refine l_of (s_val (v := .bool true) (wt0 rfl) rfl rfl (x_pick_t rfl rfl rfl rfl) ?_)
    refine g_nil ?_
    refine g_then ?_
    refine g_weak [(0, .string seed), (1, .slice p n c), (2, .slice pe ne ce), (33, .bool true)] ⟨rfl, rfl, rfl, rfl, trivial⟩ ?_
    refine g_cond_t rfl rfl ?_
    refine g_seq ?_
    refine g_region ?_
    refine l_of (s_call (wt0 rfl) (x_call' rfl rfl cl8) (awake_s _) ?_)
    rintro _ wq214 ⟨rfl, H215⟩
    replace H215 : S wq214 [Old w no] := H2.absorb (new := []) H215
    refine b_ret rfl rfl ?_
    refine l_of (s_val (v := .bool true) (wt0 rfl) rfl rfl (x_assign rfl rfl) ?_)
    refine g_nil ?_
    refine g_then ?_
    refine g_ret ?_
    refine g_then_ret ?_
    refine fin_ret [.tmp 6] [.bool true] rfl ⟨rfl, trivial⟩ ?_
    exact ⟨rfl, H215.mask [true]⟩
end Go.Proofs.Ytibdlnjnomikjaa
