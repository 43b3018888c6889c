import Derived.Test.YthfglkkjkpdkpaaKd
import Derived.Test.YthfglkkjkpdkpaaGr
set_option linter.unusedSimpArgs false
set_option linter.unusedVariables false
namespace Go.Proofs.Ythfglkkjkpdkpaa
open Go.RowKit

theorem cl72 : callable Try.prog 72 = true := by kernel_rfl
theorem cl79 : callable Try.prog 79 = true := by kernel_rfl
theorem sz23 : szO Try.prog 23 = some 1 := by kernel_rfl
def encI (x : Int) : Array Value := #[.int .i64 x]
def encR (x : Rv) : Array Value := #[x.v]
theorem S.noI {w : World} {a : Item} {L : List Item} (h : S w (a :: L)) : S w (a :: Big [] :: L) := by
  have h1 : S w (Big [] :: a :: L) := h.addNil
  exact h1.perm (List.Perm.swap ..)
set_option maxRecDepth 20000 in
set_option maxHeartbeats 4000000 in
set_option maxRecDepth 20000 in
set_option maxHeartbeats 4000000 in
theorem appendSeqK_s {g : FuncId} {lb : Array Value} {base : Item} {Sp Q : List Int → Prop} {Phi : List Int → Int → Item → Prop} (hc : callable Try.prog g = true) (hit : ∀ n, IterW n Try.prog g lb encI base Phi (fun _ _ => True) (fun xs => Q xs) Sp (Big [])) (hlen : ∀ xs, Q xs → xs.length ≤ 100000) (hPhi : ∀ pre x I, Phi pre x I → pre.length < 100000) (w : World) (HS : S w [base]) : Calls Try.prog 79 #[.slice none 0 0, .func (.func g) #[] lb] w fun e w' => ∃ (L : List Int) (p : Option Addr) (c : Nat), Q L ∧ e = .returned (.slice p L.length c) ∧ S w' ([Rw 3 1 p L.length c (zV L), base] ++ [Old w (fps [base])]) := by
  have H00 := HS.beginI
  have H0 : S w ([base, Old w (fps [base])]) := H00
  replace H0 : S w [Rw 3 1 none 0 0 (zV []), base, Old w (fps [base])] := H0.nilRw 3 1
  refine enter_m 13 Try.func79 rfl rfl rfl ?_
  have hL : ¬ LetsOut (bodyPostM (WF none) 9 Try.prog Try.f79 fun e w' => ∃ (L : List Int) (p : Option Addr) (c : Nat), Q L ∧ e = .returned (.slice p L.length c) ∧ S w' ([Rw 3 1 p L.length c (zV L), base] ++ [Old w (fps [base])])) := by
    rintro ⟨_, _, h⟩
    simp only [bodyPostM, reduceCtorEq, false_and, and_false, exists_false, or_false, or_self, exists_const] at h
  refine g_weak [(0, .slice none 0 0), (1, .func (.func g) #[] lb)] ⟨rfl, rfl, trivial⟩ ?_
  refine R.g_seq ?_
  refine R.g_region ?_
  refine R.l_of rfl (fun h => hL h) (s_box H0 (wt0 rfl) rfl rfl rfl rfl ?_)
  intro g1 wq2 H3
  refine R.l_of rfl (fun h => hL h) (s_val (v := .slice none 0 0) (wt0 rfl) rfl rfl (x_assign rfl rfl) ?_)
  refine R.g_nil ?_
  refine g_then ?_
  refine R.g_seq ?_
  refine R.g_seq ?_
  refine R.g_region ?_
  refine R.l_of rfl (fun h => hL h) (s_val (v := .func (.func g) #[] lb) (wt0 rfl) rfl rfl (x_move rfl rfl) ?_)
  refine R.g_nil ?_
  refine g_then ?_
  refine R.g_block ?_
  have H4 := S.noI (H3.takes [2, 0, 1, 3] (by decide))
  refine g_rangeW (α := Int) (ι := Unit) (encs := encI) (base := base) (by omega) rfl hc (hit _) (fun _ => rfl) rfl (fun pre Lx => ∃ (p : Option Addr), ∃ (n : Nat), ∃ (c : Nat), (n = pre.length) ∧ Lx = [Ob g1 (.cells #[.slice p n c] 23 (0, 0)), Rw 3 1 p n c (zV pre), Old w (fps [base])]) (fun pre Lx => False) (fun p ia => [(2, .pointer (some ⟨g1, 0, none⟩)), (5, .int .i64 p)]) (fun p ia => []) (fun _ _ _ _ _ => trivial) ⟨none, 0, 0, rfl, rfl⟩ H4 ?_ ?_ ?_ ?_
  · rintro l1 p Ly W5 H6
    have hL : ¬ LetsOut (fun (_ : Exit) (_ : Act) (_ : World) => False) := fun ⟨_, _, h⟩ => h
    refine g_weak [(2, .pointer (some ⟨g1, 0, none⟩)), (7, .int .i64 p)] ⟨rfl, rfl, trivial⟩ ?_
    refine R.g_region ?_
    refine R.l_of rfl (fun h => hL h) (s_val (v := .int .i64 p) (wt0 rfl) rfl rfl (x_assign rfl rfl) ?_)
    refine R.g_nil ?_
    refine g_then ?_
    exact rw_assign () ⟨rfl, rfl, trivial⟩ H6
  · rintro l1 pr x ia II Kx _ W7 ⟨p, n, c, hJ, rfl⟩ hphi H8
    have H9 := S.unbig (H8.takes [3, 0, 1, 2, 4, 5, 6] (by decide))
    replace H9 : S W7 [base, II, Kx, Ob g1 (.cells #[.slice p n c] 23 (0, 0)), Rw 3 1 p n c (zV pr), Old w (fps [base])] := H9
    refine g_weak [(2, .pointer (some ⟨g1, 0, none⟩)), (5, .int .i64 x)] ⟨rfl, rfl, trivial⟩ ?_
    have hpl := hPhi _ _ _ hphi
    refine R.g_block ?_
    refine R.g_region ?_
    refine R.l_of rfl (fun ⟨_, _, h⟩ => h) (s_val (v := .slice p n c) (wt0 rfl) rfl rfl (x_load1 H9 3 rfl rfl Try.underlying23 rfl rfl rfl) ?_)
    refine R.l_of rfl (fun ⟨_, _, h⟩ => h) (s_val (v := .int .i64 x) (wt0 rfl) rfl rfl (x_move rfl rfl) ?_)
    refine R.l_of rfl (fun ⟨_, _, h⟩ => h) (s_buildSlice H9 (wt0 rfl) rfl rfl rfl (vs := [.int .i64 x]) rfl Try.underlying23 sz3 ze3 rfl rfl (cells := #[.int .i64 x]) (by kernel_rfl) ?_)
    intro g10 wq11 H12
    refine R.l_of rfl (fun ⟨_, _, h⟩ => h) (s_appendR (n := n) (m := 1) (sc := c) (xs := (zV pr)) (news := [.int .i64 x]) (p := p) (ad := ⟨g10, 0, none⟩) H12 5 (wt0 rfl) rfl rfl rfl rfl rfl rfl Try.underlying23 inf3 rfl (by decide) (by decide) rfl (by decide) (news_ob H12 (j0 := 0) rfl) rfl (by omega) ?_)
    intro p13 c14 wq15 (H16 : S wq15 [Ob g10 (.cells #[.int .i64 x] 3 (0, 0)), base, II, Kx, Ob g1 (.cells #[.slice p n c] 23 (0, 0)), Rw 3 1 p13 (n + 1) c14 ((zV pr) ++ [.int .i64 x]), Old w (fps [base])])
    refine R.l_of rfl (fun ⟨_, _, h⟩ => h) (s_store H16 4 (wt0 rfl) rfl rfl rfl rfl rfl sz23 rfl rfl (cs' := #[.slice p13 (n + 1) c14]) rfl ?_)
    intro wq17 H18
    refine R.g_nil ?_
    refine g_in ?_
    rw [← zV_snoc] at H18
    exact rs_next ⟨p13, (n + 1), c14, by rw [List.length_append, List.length_singleton, hJ], rfl⟩ (H18.takes [1, 2, 3, 4, 5, 6] (by decide))
  · rintro D xs _ W19 hQx ⟨p, n, c, hJ, rfl⟩ H20
    replace H20 : S W19 [Ob D (.deferred (some [])), base, Ob g1 (.cells #[.slice p n c] 23 (0, 0)), Rw 3 1 p n c (zV xs), Old w (fps [base])] := H20
    subst hJ
    refine g_in ?_
    refine g_then ?_
    refine R.g_seq ?_
    refine R.g_region ?_
    refine R.l_of rfl (fun h => hL h) (s_val (v := .slice p xs.length c) (wt0 rfl) rfl rfl (x_load1 H20 2 rfl rfl Try.underlying23 rfl rfl rfl) ?_)
    refine R.l_of rfl (fun h => hL h) (s_val (v := .slice p xs.length c) (wt0 rfl) rfl rfl (x_assign rfl rfl) ?_)
    refine R.g_nil ?_
    refine g_then ?_
    refine R.g_ret ?_
    refine fin_mark H20 0 rfl [.tmp 4] [.slice p xs.length c] rfl (fun wq21 H22 => ⟨⟨rfl, trivial⟩, ?_⟩)
    replace H22 : S wq21 [Ob D (.deferred none), base, Ob g1 (.cells #[.slice p xs.length c] 23 (0, 0)), Rw 3 1 p xs.length c (zV xs), Old w (fps [base])] := H22
    exact ⟨xs, p, c, hQx, rfl, (H22.takes [3, 1, 4] (by decide))⟩
  · rintro D pr _ W _ h; exact h.elim
set_option maxRecDepth 20000 in
set_option maxHeartbeats 4000000 in
set_option maxRecDepth 20000 in
set_option maxHeartbeats 4000000 in
theorem collectK_s {g : FuncId} {lb : Array Value} {base : Item} {Sp Q : List Int → Prop} {Phi : List Int → Int → Item → Prop} (hc : callable Try.prog g = true) (hit : ∀ n, IterW n Try.prog g lb encI base Phi (fun _ _ => True) (fun xs => Q xs) Sp (Big [])) (hlen : ∀ xs, Q xs → xs.length ≤ 100000) (hPhi : ∀ pre x I, Phi pre x I → pre.length < 100000) (w : World) (HS : S w [base]) : Calls Try.prog 72 #[.func (.func g) #[] lb] w fun e w' => ∃ (L : List Int) (p : Option Addr) (c : Nat), Q L ∧ e = .returned (.slice p L.length c) ∧ S w' ([Rw 3 1 p L.length c (zV L), base] ++ [Old w (fps [base])]) := by
  have H00 := HS.beginI
  have H0 : S w ([base, Old w (fps [base])]) := H00
  refine enter 5 Try.func72 rfl rfl rfl ?_
  refine g_weak [(0, .func (.func g) #[] lb)] ⟨rfl, trivial⟩ ?_
  refine g_seq ?_
  refine g_region ?_
  refine l_of (s_val (v := .slice none 0 0) (wt0 rfl) rfl rfl (x_assign rfl rfl) ?_)
  refine g_nil ?_
  refine g_then ?_
  refine g_seq ?_
  refine g_region ?_
  refine l_of (s_val (v := .func (.func g) #[] lb) (wt0 rfl) rfl rfl (x_move rfl rfl) ?_)
  refine l_of (s_call (wt0 rfl) (x_call' rfl rfl cl79) (appendSeqK_s hc hit hlen hPhi _ (H0.takes [0] (by decide))) ?_)
  rintro _ wq1 ⟨L, p, c, hQ, rfl, H2⟩
  replace H2 : S wq1 [Rw 3 1 p L.length c (zV L), base, Old w (fps [base])] := H0.absorbI (new := [Rw 3 1 p L.length c (zV L), base]) [0] H2
  refine b_ret rfl rfl ?_
  refine l_of (s_val (v := .slice p L.length c) (wt0 rfl) rfl rfl (x_assign rfl rfl) ?_)
  refine g_nil ?_
  refine g_then ?_
  refine g_ret ?_
  refine fin_ret [.tmp 2] [.slice p L.length c] rfl ⟨rfl, trivial⟩ ?_
  exact ⟨L, p, c, hQ, rfl, (H2.takes [0, 1, 2] (by decide))⟩
set_option maxRecDepth 20000 in
set_option maxHeartbeats 4000000 in
set_option maxRecDepth 20000 in
set_option maxHeartbeats 4000000 in
theorem sortedK_s {g : FuncId} {lb : Array Value} {base : Item} {Sp Q : List Int → Prop} {Phi : List Int → Int → Item → Prop} (hc : callable Try.prog g = true) (hit : ∀ n, IterW n Try.prog g lb encI base Phi (fun _ _ => True) (fun xs => Q xs) Sp (Big [])) (hlen : ∀ xs, Q xs → xs.length ≤ 100000) (hPhi : ∀ pre x I, Phi pre x I → pre.length < 100000) (w : World) (HS : S w [base]) : Calls Try.prog 51 #[.func (.func g) #[] lb] w fun e w' => ∃ (L : List Int) (p : Option Addr) (c : Nat), Q L ∧ e = .returned (.slice p (sortI L).length c) ∧ S w' ([Rw 3 1 p (sortI L).length c (zV (sortI L)), base] ++ [Old w (fps [base])]) := by
  have H00 := HS.beginI
  have H0 : S w ([base, Old w (fps [base])]) := H00
  refine enter 9 Try.func51 rfl rfl rfl ?_
  refine g_weak [(0, .func (.func g) #[] lb)] ⟨rfl, trivial⟩ ?_
  refine g_seq ?_
  refine g_region ?_
  refine l_of (s_val (v := .slice none 0 0) (wt0 rfl) rfl rfl (x_assign rfl rfl) ?_)
  refine g_nil ?_
  refine g_then ?_
  refine g_seq ?_
  refine g_region ?_
  refine l_of (s_val (v := .func (.func g) #[] lb) (wt0 rfl) rfl rfl (x_move rfl rfl) ?_)
  refine l_of (s_call (wt0 rfl) (x_call' rfl rfl cl72) (collectK_s hc hit hlen hPhi _ (H0.takes [0] (by decide))) ?_)
  rintro _ wq1 ⟨L, p, c, hQ, rfl, H2⟩
  replace H2 : S wq1 [Rw 3 1 p L.length c (zV L), base, Old w (fps [base])] := H0.absorbI (new := [Rw 3 1 p L.length c (zV L), base]) [0] H2
  have hLl := hlen L hQ
  refine b_ret rfl rfl ?_
  refine l_of (s_val (v := .slice p L.length c) (wt0 rfl) rfl rfl (x_assign rfl rfl) ?_)
  refine g_nil ?_
  refine g_then ?_
  refine g_seq ?_
  refine g_region ?_
  refine l_of (s_val (v := .slice p L.length c) (wt0 rfl) rfl rfl (x_move rfl rfl) ?_)
  refine l_of (s_call (wt0 rfl) (x_call' rfl rfl cl65) (sortInts_s L p L.length c rfl (by omega) _ (H2.takes [0] (by decide))) ?_)
  rintro _ wq3 ⟨rfl, H4⟩
  replace H4 : S wq3 [Rw 3 1 p L.length c (zV (sortI L)), base, Old w (fps [base])] := H2.absorbI (new := [Rw 3 1 p L.length c (zV (sortI L))]) [0] H4
  refine b_ret rfl rfl ?_
  refine g_nil ?_
  refine g_then ?_
  refine g_seq ?_
  refine g_region ?_
  refine l_of (s_val (v := .slice p L.length c) (wt0 rfl) rfl rfl (x_move rfl rfl) ?_)
  refine l_of (s_val (v := .slice p L.length c) (wt0 rfl) rfl rfl (x_assign rfl rfl) ?_)
  refine g_nil ?_
  refine g_then ?_
  refine g_ret ?_
  refine fin_ret [.tmp 2] [.slice p L.length c] rfl ⟨rfl, trivial⟩ ?_
  have hsl := sortI_len L
  exact ⟨L, p, c, hQ, by rw [hsl]; rfl, by rw [hsl]; exact (H4.takes [0, 1, 2] (by decide))⟩
theorem sorted_s {g : FuncId} {lb : Array Value} {base : Item} {Sp Q : List Int → Prop} {Phi : List Int → Int → Item → Prop} (hc : callable Try.prog g = true) (hit : ∀ n, IterW n Try.prog g lb encI base Phi (fun _ _ => True) (fun xs => Q xs) Sp (Big [])) (hlen : ∀ xs, Q xs → xs.length ≤ 100000) (hPhi : ∀ pre x I, Phi pre x I → pre.length < 100000) (w : World) (HS : S w [base]) : Calls Try.prog 51 #[.func (.func g) #[] lb] w fun e w' => ∃ (L : List Int) (p : Option Addr) (c : Nat), Q L ∧ e = .returned (.slice p (sortI L).length c) ∧ S w' ([Rw 3 1 p (sortI L).length c (fl intL (sortI L)), base] ++ [Old w (fps [base])]) :=
  (sortedK_s hc hit hlen hPhi w HS).mono fun e w' ⟨L, p, c, h1, h2, h3⟩ => ⟨L, p, c, h1, h2, by rw [← zV_fl]; exact h3⟩
set_option maxRecDepth 20000 in
set_option maxHeartbeats 4000000 in
set_option maxRecDepth 20000 in
set_option maxHeartbeats 4000000 in
theorem values_it {n0 b : Nat} {l : List Int} {p : Option Addr} {n c : Nat} {Y : Item} (hn9 : n ≤ 9223372036854775807) (hYr : ∀ w', S w' [Y] → Reads w' p n c 1 (fl intL l)) :
    IterW n0 Try.prog 73 #[.pointer (some ⟨b, 0, none⟩)] encI (Big [Ob b (.cells #[.slice p n c] 23 (0, 0)), Y]) (fun pre x _ => l[pre.length]? = some x) (fun _ _ => True) (fun xs => xs = l) (fun _ => True) (Big []) := by
  intro l1 J Jx W C0 hOk hY h0 HS
  have H0 : S W [Ob b (.cells #[.slice p n c] 23 (0, 0)), Y, C0] := (HS.takes [0, 2] (by decide)).unbig
  have hnl := (hYr _ (H0.takes [1] (by decide))).lenL intE
  refine enter_ci 16 Try.func73 rfl rfl rfl ?_
  have hL : ¬ LetsOut (bodyPost Try.prog Try.f73 fun e W' => (∃ v, e = .returned v) ∧ ((∃ xs CC, xs = l ∧ J xs CC ∧ S W' [Big [Ob b (.cells #[.slice p n c] 23 (0, 0)), Y], CC]) ∨ (∃ pre CC, True ∧ Jx pre CC ∧ S W' [Big [Ob b (.cells #[.slice p n c] 23 (0, 0)), Y], CC]))) := by
    rintro ⟨_, _, ⟨_, h⟩, _⟩
    cases h
  refine g_weak [(0, .func (.yield l1) #[] #[]), (1, .pointer (some ⟨b, 0, none⟩))] ⟨rfl, rfl, trivial⟩ ?_
  refine R.g_seq ?_
  refine R.g_region ?_
  refine R.l_of rfl (fun h => hL h) (s_val (v := .slice p n c) (wt0 rfl) rfl rfl (x_load1 H0 0 rfl rfl Try.underlying23 rfl rfl rfl) ?_)
  refine R.l_of rfl (fun h => hL h) (s_val (v := .int .i64 ((n : Int))) (wt0 rfl) rfl rfl (x_lenl rfl rfl Try.underlying23) ?_)
  refine R.l_of rfl (fun h => hL h) (s_val (v := .int .i64 0) (wt0 rfl) rfl rfl (x_move rfl rfl) ?_)
  refine R.g_nil ?_
  refine g_then ?_
  refine R.g_block ?_
  refine R.g_loop (ι := Nat × Item) (fun (i, C) => [(0, .func (.yield l1) #[] #[]), (5, .slice p n c), (6, .int .i64 ((n : Int))), (7, .int .i64 ((i : Int)))]) (fun (i, C) wx => (i ≤ n) ∧ (J (l.take i) C) ∧ S wx [Ob b (.cells #[.slice p n c] 23 (0, 0)), Y, C]) (fun (i, C) => n - i) (0, C0) ⟨rfl, rfl, rfl, rfl, trivial⟩ ⟨Nat.zero_le _, (by rw [List.take_zero]; exact h0), (H0.takes [0, 1, 2] (by decide))⟩ ?_
  rintro ⟨i, C⟩ wq1 ⟨hi, hJ, H2⟩
  replace H2 : S wq1 [Ob b (.cells #[.slice p n c] 23 (0, 0)), Y, C] := H2
  refine g_weak [(0, .func (.yield l1) #[] #[]), (5, .slice p n c), (6, .int .i64 ((n : Int))), (7, .int .i64 ((i : Int)))] ⟨rfl, rfl, rfl, rfl, trivial⟩ ?_
  refine R.g_seq ?_
  refine R.g_region ?_
  refine R.l_of rfl (fun h => hL h) (s_val (v := .bool (decide (((i : Int) : Int) < (n : Int)))) (wt0 rfl) rfl rfl (x_bin rfl rfl rfl b_lss) ?_)
  refine R.g_nil ?_
  refine g_then ?_
  refine R.g_seq ?_
  by_cases hb3 : ((i : Int) : Int) < (n : Int)
  · skip
    refine R.g_cond_t rfl (decide_eq_true hb3) ?_
    refine R.g_skip ?_
    refine g_then ?_
    refine R.g_seq ?_
    refine R.g_block ?_
    refine R.g_seq ?_
    refine R.g_region ?_
    refine R.l_of rfl (fun h => hL h) (s_val (v := .pointer ((p).map fun q => q.add (i * 1))) (wt0 rfl) rfl rfl (x_idxR i ((hYr _ (H2.takes [1] (by decide)))) rfl rfl rfl Try.underlying23 sz3 (by omega)) ?_)
    have hlq := ((hYr _ (H2.takes [1] (by decide)))).lenL intE
    obtain ⟨x4, hx4⟩ := ex_at (l := l) (j := i) (by omega)
    clear hlq
    refine R.l_of rfl (fun h => hL h) (s_val (v := .int .i64 x4) (wt0 rfl) rfl rfl (x_loadR1 i ((hYr _ (H2.takes [1] (by decide)))) (by omega) rfl rfl Try.underlying3 rfl (intE.flAt1 hx4 rfl)) ?_)
    refine R.l_of rfl (fun h => hL h) (s_val (v := .int .i64 x4) (wt0 rfl) rfl rfl (x_assign rfl rfl) ?_)
    refine R.g_nil ?_
    refine g_then ?_
    refine R.g_seq ?_
    refine R.g_region ?_
    refine R.l_of rfl (fun h => hL h) (s_val (v := .func (.yield l1) #[] #[]) (wt0 rfl) rfl rfl (x_move rfl rfl) ?_)
    refine R.l_of rfl (fun h => hL h) (s_val (v := .int .i64 x4) (wt0 rfl) rfl rfl (x_move rfl rfl) ?_)
    have H5 : S wq1 [Big [Ob b (.cells #[.slice p n c] 23 (0, 0)), Y], Big [], C] := S.noI (S.big (L := [_, _]) (H2.takes [0, 1, 2] (by decide)))
    refine l_yield (wt0 rfl) rfl rfl rfl rfl rfl (hY (l.take i) x4 wq1 _ C hJ (by show l[(l.take i).length]? = _; rw [List.length_take, Nat.min_eq_left (by omega)]; exact hx4) H5) ?_
    rintro _ wq6 (⟨rfl, C9, hJ9, hS2⟩ | ⟨rfl, C9, hJx, hS2⟩)
    · skip
      refine ⟨_, rfl, ?_⟩
      have H7 : S wq6 [Ob b (.cells #[.slice p n c] 23 (0, 0)), Y, C9] := S.unbig (hS2.takes [0, 2] (by decide))
      refine R.l_of rfl (fun h => hL h) (s_val (v := .bool false) (wt0 rfl) rfl rfl (x_not (b := true) rfl rfl) ?_)
      refine R.g_nil ?_
      refine g_then ?_
      refine R.g_cond_f rfl rfl ?_
      refine R.g_skip ?_
      refine g_in ?_
      refine g_then ?_
      refine R.g_region ?_
      refine R.l_of rfl (fun h => hL h) (s_val (v := .int .i64 (((i + 1 : Nat) : Int))) (wt0 rfl) rfl rfl (x_bin rfl rfl rfl (b_add (by rw [w64 (by omega)]; omega))) ?_)
      refine R.l_of rfl (fun h => hL h) (s_val (v := .int .i64 (((i + 1 : Nat) : Int))) (wt0 rfl) rfl rfl (x_move rfl rfl) ?_)
      refine R.g_nil ?_
      refine g_then ?_
      refine g_round (i := (i, C)) ((i + 1), C9) ?_ ?_ ?_
      · exact ⟨rfl, rfl, rfl, rfl, trivial⟩
      · exact ⟨by omega, (by rw [take_snocL hx4]; exact hJ9), (H7.takes [0, 1, 2] (by decide))⟩
      · (try dsimp only); omega
    · skip
      refine ⟨_, rfl, ?_⟩
      have H8 : S wq6 [Ob b (.cells #[.slice p n c] 23 (0, 0)), Y, C9] := S.unbig (hS2.takes [0, 2] (by decide))
      refine R.l_of rfl (fun h => hL h) (s_val (v := .bool true) (wt0 rfl) rfl rfl (x_not (b := false) rfl rfl) ?_)
      refine R.g_nil ?_
      refine g_then ?_
      refine R.g_cond_t rfl rfl ?_
      refine R.g_ret ?_
      refine g_in_ret ?_
      refine g_then_ret ?_
      refine g_then_ret ?_
      refine g_in_ret ?_
      refine fin_ret [] [] rfl trivial ?_
      exact ⟨⟨_, rfl⟩, .inr ⟨_, _, trivial, hJx, (S.big (L := [_, _]) (H8.takes [0, 1, 2] (by decide)))⟩⟩
  · skip
    refine R.g_cond_f rfl (decide_eq_false hb3) ?_
    refine R.g_exit ?_
    refine g_then_exit ?_
    refine g_then_exit ?_
    refine g_in_hit ?_
    refine fin_end [] [] rfl trivial ?_
    rw [List.take_of_length_le (by omega)] at hJ
    exact ⟨⟨_, rfl⟩, .inl ⟨_, _, rfl, hJ, (S.big (L := [_, _]) (H2.takes [0, 1, 2] (by decide)))⟩⟩
end Go.Proofs.Ythfglkkjkpdkpaa
