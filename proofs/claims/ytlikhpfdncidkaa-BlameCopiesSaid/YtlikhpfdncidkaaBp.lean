import Derived.Test.YtlikhpfdncidkaaFk
import Derived.Test.YtlikhpfdncidkaaBo
set_option linter.unusedSimpArgs false
set_option linter.unusedVariables false
namespace Go.Proofs.Ytlikhpfdncidkaa
open Go.RowKit

theorem cl37 : callable Try.prog 37 = true := by kernel_rfl
theorem cl64 : callable Try.prog 64 = true := by kernel_rfl
theorem cl65 : callable Try.prog 65 = true := by kernel_rfl
theorem sz24 : szO Try.prog 24 = some 1 := by kernel_rfl
theorem sz4 : szO Try.prog 4 = some 1 := by kernel_rfl
theorem ze4 : zeO Try.prog 4 = some (.bool false) := by kernel_rfl
theorem pre_lt {L pre post : List Int} {x : Int} (h : L = pre ++ x :: post) : pre.length < L.length := by rw [h, List.length_append, List.length_cons]; omega
set_option maxRecDepth 20000 in
set_option maxHeartbeats 4000000 in
set_option maxRecDepth 20000 in
set_option maxHeartbeats 4000000 in
theorem appendSeq_s {g : FuncId} {lb : Array Value} {base : Item} {Sp : List Int → Prop} {L : List Int} (hc : callable Try.prog g = true) (hit : ∀ n, IterW n Try.prog g lb encI base (fun pre x _ => ∃ post, L = pre ++ x :: post) (fun _ _ => True) (fun xs => xs = L) Sp (Big [])) (hlen : L.length ≤ 100000) (w : World) (HS : S w [base]) : Calls Try.prog 64 #[.slice none 0 0, .func (.func g) #[] lb] w fun e w' => ∃ p c, e = .returned (.slice p L.length c) ∧ S w' ([Rw 3 1 p L.length c (zV L), base] ++ [Old w (fps [base])]) := by
 have H0 := HS.beginI
 replace H0 : S w [Rw 3 1 none 0 0 (zV []), base, Old w (fps [base])] := H0.nilRw 3 1
 refine enter_m 13 Try.func64 rfl rfl rfl ?_
 have hL : ¬ LetsOut (bodyPostM (WF none) 9 Try.prog Try.f64 fun e w' => ∃ p c, e = .returned (.slice p L.length c) ∧ S w' ([Rw 3 1 p L.length c (zV L), base] ++ [Old w (fps [base])])) := by
  rintro ⟨_, _, h⟩
  simp only [bodyPostM, reduceCtorEq, false_and, and_false, exists_false, or_false, or_self, exists_const] at h
 refine g_weak [(0, .slice none 0 0), (1, .func (.func g) #[] lb)] ⟨rfl, rfl, trivial⟩ ?_
 refine R.g_seq ?_
 refine R.g_region ?_
 refine R.l_of rfl (fun h => hL h) (s_box H0 (wt0 rfl) rfl rfl rfl rfl ?_)
 intro g1 wq2 H3
 refine R.l_of rfl (fun h => hL h) (s_val (v := .slice none 0 0) (wt0 rfl) rfl rfl (x_assign rfl rfl) ?_)
 refine R.g_nil ?_
 refine g_then ?_
 refine R.g_seq ?_
 refine R.g_seq ?_
 refine R.g_region ?_
 refine R.l_of rfl (fun h => hL h) (s_val (v := .func (.func g) #[] lb) (wt0 rfl) rfl rfl (x_move rfl rfl) ?_)
 refine R.g_nil ?_
 refine g_then ?_
 refine R.g_block ?_
 have H4 := S.noI (H3.takes [2, 0, 1, 3] (by decide))
 refine g_rangeW (α := Int) (ι := Unit) (encs := encI) (base := base) (by omega) rfl hc (hit _) (fun _ => rfl) rfl (fun pre Lx => ∃ (p : Option Addr), ∃ (n : Nat), ∃ (c : Nat), (n = pre.length) ∧ Lx = [Ob g1 (.cells #[.slice p n c] 24 (0, 0)), Rw 3 1 p n c (zV pre), Old w (fps [base])]) (fun pre Lx => False) (fun p ia => [(2, .pointer (some ⟨g1, 0, none⟩)), (5, .int .i64 p)]) (fun p ia => []) (fun _ _ _ _ _ => trivial) ⟨none, 0, 0, rfl, rfl⟩ H4 ?_ ?_ ?_ ?_
 ·
  rintro l1 p Ly W5 H6
  have hL : ¬ LetsOut (fun (_ : Exit) (_ : Act) (_ : World) => False) := fun ⟨_, _, h⟩ => h
  refine g_weak [(2, .pointer (some ⟨g1, 0, none⟩)), (7, .int .i64 p)] ⟨rfl, rfl, trivial⟩ ?_
  refine R.g_region ?_
  refine R.l_of rfl (fun h => hL h) (s_val (v := .int .i64 p) (wt0 rfl) rfl rfl (x_assign rfl rfl) ?_)
  refine R.g_nil ?_
  refine g_then ?_
  exact rw_assign () ⟨rfl, rfl, trivial⟩ H6
 ·
  rintro l1 pr x ia II Kx _ W7 ⟨p, n, c, hJ, rfl⟩ hphi H8
  have H9 := S.unbig (H8.takes [3, 0, 1, 2, 4, 5, 6] (by decide))
  refine g_weak [(2, .pointer (some ⟨g1, 0, none⟩)), (5, .int .i64 x)] ⟨rfl, rfl, trivial⟩ ?_
  obtain ⟨post, hpost⟩ := hphi
  have hpl := pre_lt hpost
  refine R.g_block ?_
  refine R.g_region ?_
  refine R.l_of rfl (fun ⟨_, _, h⟩ => h) (s_val (v := .slice p n c) (wt0 rfl) rfl rfl (x_load1 H9 3 rfl rfl Try.underlying24 rfl rfl rfl) ?_)
  refine R.l_of rfl (fun ⟨_, _, h⟩ => h) (s_val (v := .int .i64 x) (wt0 rfl) rfl rfl (x_move rfl rfl) ?_)
  refine R.l_of rfl (fun ⟨_, _, h⟩ => h) (s_buildSlice H9 (wt0 rfl) rfl rfl rfl (vs := [.int .i64 x]) rfl Try.underlying24 sz3 ze3 rfl rfl (cells := #[.int .i64 x]) (by kernel_rfl) ?_)
  intro g10 wq11 H12
  refine R.l_of rfl (fun ⟨_, _, h⟩ => h) (s_appendR (n := n) (m := 1) (sc := c) (xs := (zV pr)) (news := [.int .i64 x]) (p := p) (ad := ⟨g10, 0, none⟩) H12 5 (wt0 rfl) rfl rfl rfl rfl rfl rfl Try.underlying24 inf3 rfl (by decide) (by decide) rfl (by decide) (news_ob H12 (j0 := 0) rfl) rfl (by omega) ?_)
  intro p13 c14 wq15 (H16 : S wq15 [Ob g10 (.cells #[.int .i64 x] 3 (0, 0)), base, II, Kx, Ob g1 (.cells #[.slice p n c] 24 (0, 0)), Rw 3 1 p13 (n + 1) c14 ((zV pr) ++ [.int .i64 x]), Old w (fps [base])])
  refine R.l_of rfl (fun ⟨_, _, h⟩ => h) (s_store H16 4 (wt0 rfl) rfl rfl rfl rfl rfl sz24 rfl rfl (cs' := #[.slice p13 (n + 1) c14]) rfl ?_)
  intro wq17 H18
  refine R.g_nil ?_
  refine g_in ?_
  rw [← zV_snoc] at H18
  exact rs_next ⟨p13, (n + 1), c14, by rw [List.length_append, List.length_singleton, hJ], rfl⟩ (H18.takes [1, 2, 3, 4, 5, 6] (by decide))
 ·
  rintro D xs _ W19 rfl ⟨p, n, c, hJ, rfl⟩ H20
  subst hJ
  refine g_in ?_
  refine g_then ?_
  refine R.g_seq ?_
  refine R.g_region ?_
  refine R.l_of rfl (fun h => hL h) (s_val (v := .slice p xs.length c) (wt0 rfl) rfl rfl (x_load1 H20 2 rfl rfl Try.underlying24 rfl rfl rfl) ?_)
  refine R.l_of rfl (fun h => hL h) (s_val (v := .slice p xs.length c) (wt0 rfl) rfl rfl (x_assign rfl rfl) ?_)
  refine R.g_nil ?_
  refine g_then ?_
  refine R.g_ret ?_
  refine fin_mark H20 0 rfl [.tmp 4] [.slice p xs.length c] rfl (fun wq21 H22 => ⟨⟨rfl, trivial⟩, ?_⟩)
  exact ⟨p, c, rfl, (H22.takes [3, 1, 4] (by decide))⟩
 · rintro D pr _ W _ h; exact h.elim
set_option maxRecDepth 20000 in
set_option maxHeartbeats 4000000 in
set_option maxRecDepth 20000 in
set_option maxHeartbeats 4000000 in
theorem collect_s {g : FuncId} {lb : Array Value} {base : Item} {Sp : List Int → Prop} {L : List Int} (hc : callable Try.prog g = true) (hit : ∀ n, IterW n Try.prog g lb encI base (fun pre x _ => ∃ post, L = pre ++ x :: post) (fun _ _ => True) (fun xs => xs = L) Sp (Big [])) (hlen : L.length ≤ 100000) (w : World) (HS : S w [base]) : Calls Try.prog 36 #[.func (.func g) #[] lb] w fun e w' => ∃ p c, e = .returned (.slice p L.length c) ∧ S w' ([Rw 3 1 p L.length c (zV L), base] ++ [Old w (fps [base])]) := by
 have H0 := HS.beginI
 refine enter 5 Try.func36 rfl rfl rfl ?_
 refine g_weak [(0, .func (.func g) #[] lb)] ⟨rfl, trivial⟩ ?_
 refine g_seq ?_
 refine g_region ?_
 refine l_of (s_val (v := .slice none 0 0) (wt0 rfl) rfl rfl (x_assign rfl rfl) ?_)
 refine g_nil ?_
 refine g_then ?_
 refine g_seq ?_
 refine g_region ?_
 refine l_of (s_val (v := .func (.func g) #[] lb) (wt0 rfl) rfl rfl (x_move rfl rfl) ?_)
 refine l_of (s_call (wt0 rfl) (x_call' rfl rfl cl64) (appendSeq_s hc hit hlen _ (H0.takes [0] (by decide))) ?_)
 rintro _ wq3 ⟨p1, c2, rfl, H4⟩
 replace H4 : S wq3 [Rw 3 1 p1 L.length c2 (zV L), base, Old w (fps [base])] := H0.absorbI (new := [Rw 3 1 p1 L.length c2 (zV L), base]) [0] H4
 refine b_ret rfl rfl ?_
 refine l_of (s_val (v := .slice p1 L.length c2) (wt0 rfl) rfl rfl (x_assign rfl rfl) ?_)
 refine g_nil ?_
 refine g_then ?_
 refine g_ret ?_
 refine fin_ret [.tmp 2] [.slice p1 L.length c2] rfl ⟨rfl, trivial⟩ ?_
 exact ⟨p1, c2, rfl, (H4.takes [0, 1, 2] (by decide))⟩
theorem tok_of {mo : Option Nat} {ms : List Nat} {ct : Nat → Tr} (hm : ∀ m, mo = some m → m ∈ ms) (ht : ∀ m ∈ ms, Tok (ct m)) : Tok (tryOf ct mo) := by
  cases mo with
  | none => exact tok_none
  | some m => exact ht m (hm m rfl)
theorem collect_t {b : Nat} {mo : Option Nat} {ms : List Nat} {ct : Nat → Tr} (hm : ∀ m, mo = some m → m ∈ ms) (ht : ∀ m ∈ ms, Tok (ct m)) (w : World) (HS : S w [Ob b (.cells #[.map mo] 70 (0, 0)), FamM spK snV okP ms ct]) :
    Calls Try.prog 36 #[.func (.func 65) #[] #[.pointer (some ⟨b, 0, none⟩)]] w fun e w' => ∃ p c, e = .returned (.slice p (whoL (tryOf ct mo)).length c) ∧ S w' ([Rw 3 1 p (whoL (tryOf ct mo)).length c (zV (whoL (tryOf ct mo))), FamM spK snV okP ms ct] ++ [Old w (fps [Ob b (.cells #[.map mo] 70 (0, 0)), FamM spK snV okP ms ct])]) := by
  have h1 := S.big (L := [_, _]) (B := []) HS
  refine (collect_s cl65 (fun n => all_it hm ht) (by have := (tok_of hm ht).whoLen; omega) w h1).mono ?_
  rintro e w' ⟨p, c, rfl, H⟩
  rw [fps_big] at H
  exact ⟨p, c, rfl, (S.unbig (H.takes [1, 0, 2] (by decide))).takes [2, 1, 3] (by decide)⟩
set_option maxRecDepth 20000 in
set_option maxHeartbeats 4000000 in
set_option maxRecDepth 20000 in
set_option maxHeartbeats 4000000 in
theorem has_s {mo : Option Nat} {ms : List Nat} {ct : Nat → Tr} (hm : ∀ m, mo = some m → m ∈ ms) (ht : ∀ m ∈ ms, Tok (ct m)) {a : Int} (w : World) (HS : S w [FamM spK snV okP ms ct]) : Calls Try.prog 31 #[.map mo, .int .i64 a] w fun e w' => e = .returned (.bool (decide (a ∈ (whoL (tryOf ct mo))))) ∧ S w' ([FamM spK snV okP ms ct] ++ [Old w (fps [FamM spK snV okP ms ct])]) := by
 have H0 := HS.beginI
 refine enter_m 12 Try.func31 rfl rfl rfl ?_
 have hL : ¬ LetsOut (bodyPostM (WF none) 9 Try.prog Try.f31 fun e w' => e = .returned (.bool (decide (a ∈ (whoL (tryOf ct mo))))) ∧ S w' ([FamM spK snV okP ms ct] ++ [Old w (fps [FamM spK snV okP ms ct])])) := by
  rintro ⟨_, _, h⟩
  simp only [bodyPostM, reduceCtorEq, false_and, and_false, exists_false, or_false, or_self, exists_const] at h
 refine g_weak [(0, .map mo), (1, .int .i64 a)] ⟨rfl, rfl, trivial⟩ ?_
 refine R.g_seq ?_
 refine R.g_region ?_
 refine R.l_of rfl (fun h => hL h) (s_box H0 (wt0 rfl) rfl rfl rfl rfl ?_)
 intro g1 wq2 H3
 refine R.l_of rfl (fun h => hL h) (s_alloc H3 (wt0 rfl) rfl rfl rfl ze4 ?_)
 intro g4 wq5 H6
 refine R.g_nil ?_
 refine g_then ?_
 refine R.g_seq ?_
 refine R.g_seq ?_
 refine R.g_region ?_
 refine R.l_of rfl (fun h => hL h) (s_val (v := .map mo) (wt0 rfl) rfl rfl (x_move rfl rfl) ?_)
 refine R.l_of rfl (fun h => hL h) (s_call (wt0 rfl) (x_call' rfl rfl cl37) (all_s _ _) ?_)
 rintro _ wq8 ⟨b7, rfl, H9⟩
 replace H9 : S wq8 [Ob b7 (.cells #[.map mo] 70 (0, 0)), Ob g4 (.cells #[.bool false] 4 (0, 0)), Ob g1 (.cells #[.int .i64 a] 3 (0, 0)), FamM spK snV okP ms ct, Old w (fps [FamM spK snV okP ms ct])] := H6.absorb (new := [Ob b7 (.cells #[.map mo] 70 (0, 0))]) H9
 refine b_ret rfl rfl ?_
 refine R.g_nil ?_
 refine g_then ?_
 refine R.g_block ?_
 have H10 := S.big (L := [_, _]) (H9.takes [0, 3, 1, 2, 4] (by decide))
 have H11 := S.noI (H10.takes [0, 1, 2, 3] (by decide))
 refine g_rangeW (α := Int) (ι := Unit) (encs := encI) (base := Big [Ob b7 (.cells #[.map mo] 70 (0, 0)), FamM spK snV okP ms ct]) (by omega) rfl cl65 (all_it hm ht) (fun _ => rfl) rfl (fun pre Lx => (∀ y ∈ pre, ¬ y = a) ∧ Lx = [Ob g4 (.cells #[.bool false] 4 (0, 0)), Ob g1 (.cells #[.int .i64 a] 3 (0, 0)), Old w (fps [FamM spK snV okP ms ct])]) (fun pre Lx => a ∈ (whoL (tryOf ct mo)) ∧ Lx = [Ob g4 (.cells #[.bool true] 4 (0, 0)), Ob g1 (.cells #[.int .i64 a] 3 (0, 0)), Old w (fps [FamM spK snV okP ms ct])]) (fun p ia => [(3, .pointer (some ⟨g1, 0, none⟩)), (4, .pointer (some ⟨g4, 0, none⟩)), (5, .int .i64 p)]) (fun p ia => []) (fun _ _ _ _ _ => trivial) ⟨(fun _ h => by cases h), rfl⟩ H11 ?_ ?_ ?_ ?_
 ·
  rintro l1 p Ly W12 H13
  have hL : ¬ LetsOut (fun (_ : Exit) (_ : Act) (_ : World) => False) := fun ⟨_, _, h⟩ => h
  refine g_weak [(3, .pointer (some ⟨g1, 0, none⟩)), (4, .pointer (some ⟨g4, 0, none⟩)), (8, .int .i64 p)] ⟨rfl, rfl, rfl, trivial⟩ ?_
  refine R.g_region ?_
  refine R.l_of rfl (fun h => hL h) (s_val (v := .int .i64 p) (wt0 rfl) rfl rfl (x_assign rfl rfl) ?_)
  refine R.g_nil ?_
  refine g_then ?_
  exact rw_assign () ⟨rfl, rfl, rfl, trivial⟩ H13
 ·
  rintro l1 pr x ia II Kx _ W14 ⟨hJ, rfl⟩ hphi H15
  have H16 := S.unbig (H15.takes [3, 0, 1, 2, 4, 5, 6] (by decide))
  refine g_weak [(3, .pointer (some ⟨g1, 0, none⟩)), (4, .pointer (some ⟨g4, 0, none⟩)), (5, .int .i64 x)] ⟨rfl, rfl, rfl, trivial⟩ ?_
  refine R.g_block ?_
  refine R.g_seq ?_
  refine R.g_region ?_
  refine R.l_of rfl (fun ⟨_, _, h⟩ => h) (s_val (v := .int .i64 x) (wt0 rfl) rfl rfl (x_move rfl rfl) ?_)
  refine R.l_of rfl (fun ⟨_, _, h⟩ => h) (s_val (v := .int .i64 a) (wt0 rfl) rfl rfl (x_load1 H16 4 rfl rfl Try.underlying3 rfl rfl rfl) ?_)
  refine R.l_of rfl (fun ⟨_, _, h⟩ => h) (s_val (v := .bool (decide ((x : Int) = a))) (wt0 rfl) rfl rfl (x_bin rfl rfl rfl b_eql) ?_)
  refine R.g_nil ?_
  refine g_then ?_
  by_cases hb17 : (x : Int) = a
  ·
   refine R.g_cond_t rfl (decide_eq_true hb17) ?_
   refine R.g_seq ?_
   refine R.g_region ?_
   refine R.l_of rfl (fun ⟨_, _, h⟩ => h) (s_store H16 3 (wt0 rfl) rfl rfl rfl rfl rfl sz4 rfl rfl (cs' := #[.bool true]) rfl ?_)
   intro wq18 H19
   refine R.g_nil ?_
   refine g_then ?_
   refine R.g_ret ?_
   refine g_in_ret ?_
   exact rs_stop ⟨by obtain ⟨post, hpost⟩ := hphi; rw [← hb17, hpost]; simp, rfl⟩ (H19.takes [0, 1, 2, 3, 4, 5] (by decide))
  ·
   refine R.g_cond_f rfl (decide_eq_false hb17) ?_
   refine R.g_skip ?_
   refine g_in ?_
   exact rs_next ⟨forall_snoc hJ hb17, rfl⟩ (H16.takes [0, 1, 2, 3, 4, 5] (by decide))
 ·
  rintro D xs _ W20 rfl ⟨hJ, rfl⟩ H21
  have H22 : S W20 [Ob b7 (.cells #[.map mo] 70 (0, 0)), FamM spK snV okP ms ct, Ob D (.deferred (some [])), Ob g4 (.cells #[.bool false] 4 (0, 0)), Ob g1 (.cells #[.int .i64 a] 3 (0, 0)), Old w (fps [FamM spK snV okP ms ct])] := S.unbig (H21.takes [1, 0, 2, 3, 4] (by decide))
  refine g_in ?_
  refine g_then ?_
  refine R.g_seq ?_
  refine R.g_region ?_
  refine R.l_of rfl (fun h => hL h) (s_store H22 3 (wt0 rfl) rfl rfl rfl rfl rfl sz4 rfl rfl (cs' := #[.bool false]) rfl ?_)
  intro wq23 H24
  refine R.g_nil ?_
  refine g_then ?_
  refine R.g_ret ?_
  refine fin_mark H24 2 rfl [.cell 4 4] [.bool false] rfl (fun wq25 H26 => ⟨⟨⟨_, rfl, run_load1 Try.underlying4 rfl (H26.cell (k := 3) rfl rfl)⟩, trivial⟩, ?_⟩)
  exact ⟨by rw [decide_eq_false (fun h => hJ _ h rfl)]; rfl, (H26.takes [1, 5] (by decide))⟩
 ·
  rintro D pr _ W27 _ ⟨hmem, rfl⟩ H28
  refine g_in_ret ?_
  refine g_then_ret ?_
  refine fin_mark H28 0 rfl [.cell 4 4] [.bool true] rfl (fun wq29 H30 => ⟨⟨⟨_, rfl, run_load1 Try.underlying4 rfl (H30.cell (k := 2) rfl rfl)⟩, trivial⟩, ?_⟩)
  exact ⟨by rw [decide_eq_true hmem]; rfl, (S.unbig (H30.takes [1, 4] (by decide))).takes [1, 2] (by decide)⟩
end Go.Proofs.Ytlikhpfdncidkaa
