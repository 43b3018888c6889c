import Derived.Test.YtlikhpfdncidkaaFk
import Derived.Test.YtlikhpfdncidkaaCg
import Derived.Test.YtlikhpfdncidkaaGk
set_option linter.unusedSimpArgs false
set_option linter.unusedVariables false
namespace Go.Proofs.Ytlikhpfdncidkaa
open Go.RowKit

theorem cl56 : callable Try.prog 56 = true := by kernel_rfl
theorem cl57 : callable Try.prog 57 = true := by kernel_rfl
theorem cl73 : callable Try.prog 73 = true := by kernel_rfl
set_option maxRecDepth 20000 in
set_option maxHeartbeats 4000000 in
set_option maxRecDepth 20000 in
set_option maxHeartbeats 4000000 in
theorem appendSeqK_s {g : FuncId} {lb : Array Value} {base : Item} {Sp Q : List Int → Prop} (hc : callable Try.prog g = true) (hit : ∀ n, IterW n Try.prog g lb encI base (fun pre x _ => pre.length < 100000) (fun _ _ => True) (fun xs => Q xs) Sp (Big [])) (hlen : ∀ xs, Q xs → xs.length ≤ 100000) (w : World) (HS : S w [base]) : Calls Try.prog 64 #[.slice none 0 0, .func (.func g) #[] lb] w fun e w' => ∃ (L : List Int) (p : Option Addr) (c : Nat), Q L ∧ e = .returned (.slice p L.length c) ∧ S w' ([Rw 3 1 p L.length c (zV L), base] ++ [Old w (fps [base])]) := by
 have H0 := HS.beginI
 replace H0 : S w [Rw 3 1 none 0 0 (zV []), base, Old w (fps [base])] := H0.nilRw 3 1
 refine enter_m 13 Try.func64 rfl rfl rfl ?_
 have hL : ¬ LetsOut (bodyPostM (WF none) 9 Try.prog Try.f64 fun e w' => ∃ (L : List Int) (p : Option Addr) (c : Nat), Q L ∧ e = .returned (.slice p L.length c) ∧ S w' ([Rw 3 1 p L.length c (zV L), base] ++ [Old w (fps [base])])) := by
  rintro ⟨_, _, h⟩
  simp only [bodyPostM, reduceCtorEq, false_and, and_false, exists_false, or_false, or_self, exists_const] at h
 refine g_weak [(0, .slice none 0 0), (1, .func (.func g) #[] lb)] ⟨rfl, rfl, trivial⟩ ?_
 refine R.g_seq ?_
 refine R.g_region ?_
 refine R.l_of rfl (fun h => hL h) (s_box H0 (wt0 rfl) rfl rfl rfl rfl ?_)
 intro g1 wq2 H3
 refine R.l_of rfl (fun h => hL h) (s_val (v := .slice none 0 0) (wt0 rfl) rfl rfl (x_assign rfl rfl) ?_)
 refine R.g_nil ?_
 refine g_then ?_
 refine R.g_seq ?_
 refine R.g_seq ?_
 refine R.g_region ?_
 refine R.l_of rfl (fun h => hL h) (s_val (v := .func (.func g) #[] lb) (wt0 rfl) rfl rfl (x_move rfl rfl) ?_)
 refine R.g_nil ?_
 refine g_then ?_
 refine R.g_block ?_
 have H4 := S.noI (H3.takes [2, 0, 1, 3] (by decide))
 refine g_rangeW (α := Int) (ι := Unit) (encs := encI) (base := base) (by omega) rfl hc (hit _) (fun _ => rfl) rfl (fun pre Lx => ∃ (p : Option Addr), ∃ (n : Nat), ∃ (c : Nat), (n = pre.length) ∧ Lx = [Ob g1 (.cells #[.slice p n c] 24 (0, 0)), Rw 3 1 p n c (zV pre), Old w (fps [base])]) (fun pre Lx => False) (fun p ia => [(2, .pointer (some ⟨g1, 0, none⟩)), (5, .int .i64 p)]) (fun p ia => []) (fun _ _ _ _ _ => trivial) ⟨none, 0, 0, rfl, rfl⟩ H4 ?_ ?_ ?_ ?_
 ·
  rintro l1 p Ly W5 H6
  have hL : ¬ LetsOut (fun (_ : Exit) (_ : Act) (_ : World) => False) := fun ⟨_, _, h⟩ => h
  refine g_weak [(2, .pointer (some ⟨g1, 0, none⟩)), (7, .int .i64 p)] ⟨rfl, rfl, trivial⟩ ?_
  refine R.g_region ?_
  refine R.l_of rfl (fun h => hL h) (s_val (v := .int .i64 p) (wt0 rfl) rfl rfl (x_assign rfl rfl) ?_)
  refine R.g_nil ?_
  refine g_then ?_
  exact rw_assign () ⟨rfl, rfl, trivial⟩ H6
 ·
  rintro l1 pr x ia II Kx _ W7 ⟨p, n, c, hJ, rfl⟩ hphi H8
  have H9 := S.unbig (H8.takes [3, 0, 1, 2, 4, 5, 6] (by decide))
  refine g_weak [(2, .pointer (some ⟨g1, 0, none⟩)), (5, .int .i64 x)] ⟨rfl, rfl, trivial⟩ ?_
  have hpl := hphi
  refine R.g_block ?_
  refine R.g_region ?_
  refine R.l_of rfl (fun ⟨_, _, h⟩ => h) (s_val (v := .slice p n c) (wt0 rfl) rfl rfl (x_load1 H9 3 rfl rfl Try.underlying24 rfl rfl rfl) ?_)
  refine R.l_of rfl (fun ⟨_, _, h⟩ => h) (s_val (v := .int .i64 x) (wt0 rfl) rfl rfl (x_move rfl rfl) ?_)
  refine R.l_of rfl (fun ⟨_, _, h⟩ => h) (s_buildSlice H9 (wt0 rfl) rfl rfl rfl (vs := [.int .i64 x]) rfl Try.underlying24 sz3 ze3 rfl rfl (cells := #[.int .i64 x]) (by kernel_rfl) ?_)
  intro g10 wq11 H12
  refine R.l_of rfl (fun ⟨_, _, h⟩ => h) (s_appendR (n := n) (m := 1) (sc := c) (xs := (zV pr)) (news := [.int .i64 x]) (p := p) (ad := ⟨g10, 0, none⟩) H12 5 (wt0 rfl) rfl rfl rfl rfl rfl rfl Try.underlying24 inf3 rfl (by decide) (by decide) rfl (by decide) (news_ob H12 (j0 := 0) rfl) rfl (by omega) ?_)
  intro p13 c14 wq15 (H16 : S wq15 [Ob g10 (.cells #[.int .i64 x] 3 (0, 0)), base, II, Kx, Ob g1 (.cells #[.slice p n c] 24 (0, 0)), Rw 3 1 p13 (n + 1) c14 ((zV pr) ++ [.int .i64 x]), Old w (fps [base])])
  refine R.l_of rfl (fun ⟨_, _, h⟩ => h) (s_store H16 4 (wt0 rfl) rfl rfl rfl rfl rfl sz24 rfl rfl (cs' := #[.slice p13 (n + 1) c14]) rfl ?_)
  intro wq17 H18
  refine R.g_nil ?_
  refine g_in ?_
  rw [← zV_snoc] at H18
  exact rs_next ⟨p13, (n + 1), c14, by rw [List.length_append, List.length_singleton, hJ], rfl⟩ (H18.takes [1, 2, 3, 4, 5, 6] (by decide))
 ·
  rintro D xs _ W19 hQx ⟨p, n, c, hJ, rfl⟩ H20
  subst hJ
  refine g_in ?_
  refine g_then ?_
  refine R.g_seq ?_
  refine R.g_region ?_
  refine R.l_of rfl (fun h => hL h) (s_val (v := .slice p xs.length c) (wt0 rfl) rfl rfl (x_load1 H20 2 rfl rfl Try.underlying24 rfl rfl rfl) ?_)
  refine R.l_of rfl (fun h => hL h) (s_val (v := .slice p xs.length c) (wt0 rfl) rfl rfl (x_assign rfl rfl) ?_)
  refine R.g_nil ?_
  refine g_then ?_
  refine R.g_ret ?_
  refine fin_mark H20 0 rfl [.tmp 4] [.slice p xs.length c] rfl (fun wq21 H22 => ⟨⟨rfl, trivial⟩, ?_⟩)
  exact ⟨xs, p, c, hQx, rfl, (H22.takes [3, 1, 4] (by decide))⟩
 · rintro D pr _ W _ h; exact h.elim
set_option maxRecDepth 20000 in
set_option maxHeartbeats 4000000 in
set_option maxRecDepth 20000 in
set_option maxHeartbeats 4000000 in
theorem collectK_s {g : FuncId} {lb : Array Value} {base : Item} {Sp Q : List Int → Prop} (hc : callable Try.prog g = true) (hit : ∀ n, IterW n Try.prog g lb encI base (fun pre x _ => pre.length < 100000) (fun _ _ => True) (fun xs => Q xs) Sp (Big [])) (hlen : ∀ xs, Q xs → xs.length ≤ 100000) (w : World) (HS : S w [base]) : Calls Try.prog 36 #[.func (.func g) #[] lb] w fun e w' => ∃ (L : List Int) (p : Option Addr) (c : Nat), Q L ∧ e = .returned (.slice p L.length c) ∧ S w' ([Rw 3 1 p L.length c (zV L), base] ++ [Old w (fps [base])]) := by
 have H0 := HS.beginI
 refine enter 5 Try.func36 rfl rfl rfl ?_
 refine g_weak [(0, .func (.func g) #[] lb)] ⟨rfl, trivial⟩ ?_
 refine g_seq ?_
 refine g_region ?_
 refine l_of (s_val (v := .slice none 0 0) (wt0 rfl) rfl rfl (x_assign rfl rfl) ?_)
 refine g_nil ?_
 refine g_then ?_
 refine g_seq ?_
 refine g_region ?_
 refine l_of (s_val (v := .func (.func g) #[] lb) (wt0 rfl) rfl rfl (x_move rfl rfl) ?_)
 refine l_of (s_call (wt0 rfl) (x_call' rfl rfl cl64) (appendSeqK_s hc hit hlen _ (H0.takes [0] (by decide))) ?_)
 rintro _ wq1 ⟨L, p, c, hQ, rfl, H2⟩
 replace H2 : S wq1 [Rw 3 1 p L.length c (zV L), base, Old w (fps [base])] := H0.absorbI (new := [Rw 3 1 p L.length c (zV L), base]) [0] H2
 refine b_ret rfl rfl ?_
 refine l_of (s_val (v := .slice p L.length c) (wt0 rfl) rfl rfl (x_assign rfl rfl) ?_)
 refine g_nil ?_
 refine g_then ?_
 refine g_ret ?_
 refine fin_ret [.tmp 2] [.slice p L.length c] rfl ⟨rfl, trivial⟩ ?_
 exact ⟨L, p, c, hQ, rfl, (H2.takes [0, 1, 2] (by decide))⟩
set_option maxRecDepth 20000 in
set_option maxHeartbeats 4000000 in
set_option maxRecDepth 20000 in
set_option maxHeartbeats 4000000 in
theorem sortedK_s {g : FuncId} {lb : Array Value} {base : Item} {Sp Q : List Int → Prop} (hc : callable Try.prog g = true) (hit : ∀ n, IterW n Try.prog g lb encI base (fun pre x _ => pre.length < 100000) (fun _ _ => True) (fun xs => Q xs) Sp (Big [])) (hlen : ∀ xs, Q xs → xs.length ≤ 100000) (w : World) (HS : S w [base]) : Calls Try.prog 56 #[.func (.func g) #[] lb] w fun e w' => ∃ (L : List Int) (p : Option Addr) (c : Nat), Q L ∧ e = .returned (.slice p (sortI L).length c) ∧ S w' ([Rw 3 1 p (sortI L).length c (zV (sortI L)), base] ++ [Old w (fps [base])]) := by
 have H0 := HS.beginI
 refine enter 9 Try.func56 rfl rfl rfl ?_
 refine g_weak [(0, .func (.func g) #[] lb)] ⟨rfl, trivial⟩ ?_
 refine g_seq ?_
 refine g_region ?_
 refine l_of (s_val (v := .slice none 0 0) (wt0 rfl) rfl rfl (x_assign rfl rfl) ?_)
 refine g_nil ?_
 refine g_then ?_
 refine g_seq ?_
 refine g_region ?_
 refine l_of (s_val (v := .func (.func g) #[] lb) (wt0 rfl) rfl rfl (x_move rfl rfl) ?_)
 refine l_of (s_call (wt0 rfl) (x_call' rfl rfl cl36) (collectK_s hc hit hlen _ (H0.takes [0] (by decide))) ?_)
 rintro _ wq1 ⟨L, p, c, hQ, rfl, H2⟩
 replace H2 : S wq1 [Rw 3 1 p L.length c (zV L), base, Old w (fps [base])] := H0.absorbI (new := [Rw 3 1 p L.length c (zV L), base]) [0] H2
 have hLl := hlen L hQ
 refine b_ret rfl rfl ?_
 refine l_of (s_val (v := .slice p L.length c) (wt0 rfl) rfl rfl (x_assign rfl rfl) ?_)
 refine g_nil ?_
 refine g_then ?_
 refine g_seq ?_
 refine g_region ?_
 refine l_of (s_val (v := .slice p L.length c) (wt0 rfl) rfl rfl (x_move rfl rfl) ?_)
 refine l_of (s_call (wt0 rfl) (x_call' rfl rfl cl62) (sortInts_s L p L.length c rfl (by omega) _ (H2.takes [0] (by decide))) ?_)
 rintro _ wq3 ⟨rfl, H4⟩
 replace H4 : S wq3 [Rw 3 1 p L.length c (zV (sortI L)), base, Old w (fps [base])] := H2.absorbI (new := [Rw 3 1 p L.length c (zV (sortI L))]) [0] H4
 refine b_ret rfl rfl ?_
 refine g_nil ?_
 refine g_then ?_
 refine g_seq ?_
 refine g_region ?_
 refine l_of (s_val (v := .slice p L.length c) (wt0 rfl) rfl rfl (x_move rfl rfl) ?_)
 refine l_of (s_val (v := .slice p L.length c) (wt0 rfl) rfl rfl (x_assign rfl rfl) ?_)
 refine g_nil ?_
 refine g_then ?_
 refine g_ret ?_
 refine fin_ret [.tmp 2] [.slice p L.length c] rfl ⟨rfl, trivial⟩ ?_
 have hsl := sortI_len L
 exact ⟨L, p, c, hQ, by rw [hsl]; rfl, by rw [hsl]; exact (H4.takes [0, 1, 2] (by decide))⟩
set_option maxRecDepth 20000 in
set_option maxHeartbeats 4000000 in
set_option maxRecDepth 20000 in
set_option maxHeartbeats 4000000 in
theorem keys_s (g : Nat) (w : World) : Calls Try.prog 57 #[.map (some g)] w fun e w' => ∃ b, e = .returned (.func (.func 73) #[] #[.pointer (some ⟨b, 0, none⟩)]) ∧ S w' ([Ob b (.cells #[.map (some g)] 29 (0, 0))] ++ [Old w no]) := by
 have H0 := S.old w
 refine enter 4 Try.func57 rfl rfl rfl ?_
 refine g_weak [(0, .map (some g))] ⟨rfl, trivial⟩ ?_
 refine g_seq ?_
 refine g_region ?_
 refine l_of (s_box H0 (wt0 rfl) rfl rfl rfl rfl ?_)
 intro g1 wq2 H3
 refine l_of (s_val (v := .nilFunc) (wt0 rfl) rfl rfl (x_assign rfl rfl) ?_)
 refine g_nil ?_
 refine g_then ?_
 refine g_seq ?_
 refine g_region ?_
 refine l_of (s_val (v := .func (.func 73) #[] #[.pointer (some ⟨g1, 0, none⟩)]) (wt0 rfl) rfl rfl (x_makeFunc rfl rfl rfl) ?_)
 refine l_of (s_val (v := .func (.func 73) #[] #[.pointer (some ⟨g1, 0, none⟩)]) (wt0 rfl) rfl rfl (x_assign rfl rfl) ?_)
 refine g_nil ?_
 refine g_then ?_
 refine g_ret ?_
 refine fin_ret [.tmp 2] [.func (.func 73) #[] #[.pointer (some ⟨g1, 0, none⟩)]] rfl ⟨rfl, trivial⟩ ?_
 exact ⟨g1, rfl, H3.takes [0, 1] (by decide)⟩
theorem keys_next {kv rem rem2 : List (Int × Bool)} {l : List Int} {p : Int × Bool} (hkn : (kv.map Prod.fst).Nodup) (hp : p ∈ rem) (hs : ∀ q ∈ rem, q ∈ kv) (hm : ∀ q, q ∈ rem2 ↔ q ∈ rem ∧ q ≠ p) (h : ∀ x, x ∈ l ↔ ∃ q ∈ kv, q ∉ rem ∧ q.1 = x) : (∀ x, x ∈ l ++ [p.1] ↔ ∃ q ∈ kv, q ∉ rem2 ∧ q.1 = x) ∧ p.1 ∉ l := by
  have key : ∀ q ∈ kv, q.1 = p.1 → q = p := fun q hq e => by
    obtain ⟨i, hi⟩ := List.getElem?_of_mem hq
    obtain ⟨j, hj⟩ := List.getElem?_of_mem (hs p hp)
    have := nodup_at (f := Prod.fst) hkn hi hj e
    subst this; rw [hi] at hj; exact Option.some.inj hj
  refine ⟨fun x => ?_, fun hx => ?_⟩
  · rw [List.mem_append, List.mem_singleton, h]
    constructor
    · rintro (⟨q, h1, h2, h3⟩ | rfl)
      · exact ⟨q, h1, fun h4 => h2 ((hm q).1 h4).1, h3⟩
      · exact ⟨p, hs p hp, fun h4 => ((hm p).1 h4).2 rfl, rfl⟩
    · rintro ⟨q, h1, h2, h3⟩
      by_cases e : q = p
      · subst e; exact .inr h3.symm
      · exact .inl ⟨q, h1, fun h4 => h2 ((hm q).2 ⟨h4, e⟩), h3⟩
  · obtain ⟨q, h1, h2, h3⟩ := (h _).1 hx
    exact h2 (key q h1 h3 ▸ hp)
set_option maxRecDepth 20000 in
set_option maxHeartbeats 4000000 in
set_option maxRecDepth 20000 in
set_option maxHeartbeats 4000000 in
theorem keys_it {n0 b g : Nat} {M : Int → Option Bool} {es : Array MapEntry} {cc : Nat} {kv : List (Int × Bool)} (hkv : KV (Value.int .i64) Value.bool okI M es cc kv) :
  IterW n0 Try.prog 73 #[.pointer (some ⟨b, 0, none⟩)] encI (Big [Ob b (.cells #[.map (some g)] 29 (0, 0)), Ob g (.map es cc)]) (fun pre x _ => pre.length < kv.length) (fun _ _ => True) (fun xs => xs.Nodup ∧ ∀ x, x ∈ xs ↔ ∃ q ∈ kv, q.1 = x) (fun _ => True) (Big []) := by
 intro l J Jx W C0 hOk hY h0 HS
 have H0 : S W [Ob b (.cells #[.map (some g)] 29 (0, 0)), Ob g (.map es cc), C0] := (HS.takes [0, 2] (by decide)).unbig
 refine enter_ci 14 Try.func73 rfl rfl rfl ?_
 have hL : ¬ LetsOut (bodyPost Try.prog Try.f73 fun e W' => (∃ v, e = .returned v) ∧ ((∃ xs CC, (fun xs => xs.Nodup ∧ ∀ x, x ∈ xs ↔ ∃ q ∈ kv, q.1 = x) xs ∧ J xs CC ∧ S W' [Big [Ob b (.cells #[.map (some g)] 29 (0, 0)), Ob g (.map es cc)], CC]) ∨ (∃ pre CC, True ∧ Jx pre CC ∧ S W' [Big [Ob b (.cells #[.map (some g)] 29 (0, 0)), Ob g (.map es cc)], CC]))) := by
  rintro ⟨_, _, ⟨_, h⟩, _⟩
  cases h
 refine g_weak [(0, .func (.yield l) #[] #[]), (1, .pointer (some ⟨b, 0, none⟩))] ⟨rfl, rfl, trivial⟩ ?_
 refine R.g_seq ?_
 refine R.g_region ?_
 refine R.l_of rfl (fun h => hL h) (s_val (v := .map (some g)) (wt0 rfl) rfl rfl (x_load1 H0 0 rfl rfl Try.underlying29 rfl rfl rfl) ?_)
 refine R.l_of rfl (fun h => hL h) (s_rangeE (intTy Try.underlying29 Try.underlying3) hkv H0 1 (wt0 rfl) rfl rfl rfl rfl rfl ?_)
 intro rr wq1 H2
 refine R.g_nil ?_
 refine g_then ?_
 refine R.g_block ?_
 refine R.g_loop (ι := List (Int × Bool) × Option (Int × Bool) × List Int × Item) (fun (rem, cur, pre, C) => [(0, .func (.yield l) #[] #[]), (5, .pointer (some ⟨rr, 0, none⟩))]) (fun (rem, cur, pre, C) wx => (∀ q ∈ rem, q ∈ kv) ∧ (∀ x, x ∈ pre ↔ ∃ q ∈ kv, q ∉ rem ∧ q.1 = x) ∧ (pre.Nodup) ∧ (pre.length + rem.length ≤ kv.length) ∧ (J pre C) ∧ S wx [Mi (Value.int .i64) Value.bool es cc kv g rr rem cur, Ob b (.cells #[.map (some g)] 29 (0, 0)), Ob g (.map es cc), C]) (fun (rem, cur, pre, C) => rem.length) (kv, none, [], C0) ⟨rfl, rfl, trivial⟩ ⟨(fun _ h => h), (fun x => ⟨fun h => (by cases h), fun ⟨q, h1, h2, _⟩ => absurd h1 h2⟩), .nil, (by simp), h0, (H2.takes [0, 1, 2, 3] (by decide))⟩ ?_
 rintro ⟨rem, cur, pre, C⟩ wq3 ⟨hs, hm0, hnd, hpl, hJ, H4⟩
 refine g_weak [(0, .func (.yield l) #[] #[]), (5, .pointer (some ⟨rr, 0, none⟩))] ⟨rfl, rfl, trivial⟩ ?_
 refine R.g_seq ?_
 refine R.g_region ?_
 refine R.l_of rfl (fun h => hL h) (s_nextE hkv H4 2 0 (wt0 rfl) rfl rfl rfl rfl rfl rfl (fun hnil => ?_) (fun p rem2 w9 hp hok hN hmem hlen Hx => ?_))
 ·
  subst hnil
  refine R.l_of rfl (fun h => hL h) (s_val (v := .bool false) (wt0 rfl) rfl rfl (x_extract rfl rfl rfl) ?_)
  refine R.g_nil ?_
  refine g_then ?_
  refine R.g_seq ?_
  refine R.g_cond_f rfl rfl ?_
  refine R.g_exit ?_
  refine g_then_exit ?_
  refine g_then_exit ?_
  refine g_in_hit ?_
  refine fin_end [] [] rfl trivial ?_
  exact ⟨⟨_, rfl⟩, .inl ⟨_, _, ⟨hnd, fun x => (hm0 x).trans ⟨fun ⟨q, h1, _, h3⟩ => ⟨q, h1, h3⟩, fun ⟨q, h1, h3⟩ => ⟨q, h1, by simp, h3⟩⟩⟩, hJ, (S.big (L := [_, _]) (H4.takes [1, 2, 3] (by decide)))⟩⟩
 ·
  have H5 : S w9 [Mi (Value.int .i64) Value.bool es cc kv g rr rem2 (some p), Ob b (.cells #[.map (some g)] 29 (0, 0)), Ob g (.map es cc), C] := Hx
  refine R.l_of rfl (fun h => hL h) (s_val (v := .bool true) (wt0 rfl) rfl rfl (x_extract rfl rfl rfl) ?_)
  refine R.g_nil ?_
  refine g_then ?_
  refine R.g_seq ?_
  refine R.g_cond_t rfl rfl ?_
  refine R.g_skip ?_
  refine g_then ?_
  refine R.g_block ?_
  refine R.g_seq ?_
  refine R.g_region ?_
  refine R.l_of rfl (fun h => hL h) (s_val (v := .tuple #[.int .i64 (p.1), .bool p.2]) (wt0 rfl) rfl rfl (x_entryE hkv H5 2 0 rfl rfl rfl rfl) ?_)
  refine R.l_of rfl (fun h => hL h) (s_val (v := .int .i64 (p.1)) (wt0 rfl) rfl rfl (x_extract rfl rfl rfl) ?_)
  refine R.l_of rfl (fun h => hL h) (s_val (v := .int .i64 (p.1)) (wt0 rfl) rfl rfl (x_assign rfl rfl) ?_)
  refine R.g_nil ?_
  refine g_then ?_
  refine R.g_seq ?_
  refine R.g_region ?_
  refine R.l_of rfl (fun h => hL h) (s_val (v := .func (.yield l) #[] #[]) (wt0 rfl) rfl rfl (x_move rfl rfl) ?_)
  refine R.l_of rfl (fun h => hL h) (s_val (v := .int .i64 (p.1)) (wt0 rfl) rfl rfl (x_move rfl rfl) ?_)
  have hkn := keys_next hkv.nodup hp hs hmem hm0
  have H6 : S w9 [Big [Ob b (.cells #[.map (some g)] 29 (0, 0)), Ob g (.map es cc)], Mi (Value.int .i64) Value.bool es cc kv g rr rem2 (some p), C] := S.big (L := [_, _]) (H5.takes [1, 2, 0, 3] (by decide))
  refine l_yield (wt0 rfl) rfl rfl rfl rfl rfl (hY pre p.1 w9 _ C hJ (by have := List.length_pos_of_mem hp; omega) H6) ?_
  rintro _ wq7 (⟨rfl, C9, hJ9, hS2⟩ | ⟨rfl, C9, hJx, hS2⟩)
  ·
   refine ⟨_, rfl, ?_⟩
   have H8 : S wq7 [Ob b (.cells #[.map (some g)] 29 (0, 0)), Ob g (.map es cc), Mi (Value.int .i64) Value.bool es cc kv g rr rem2 (some p), C9] := S.unbig hS2
   refine R.l_of rfl (fun h => hL h) (s_val (v := .bool false) (wt0 rfl) rfl rfl (x_not (b := true) rfl rfl) ?_)
   refine R.g_nil ?_
   refine g_then ?_
   refine R.g_cond_f rfl rfl ?_
   refine R.g_skip ?_
   refine g_in ?_
   refine g_then ?_
   refine g_round (i := (rem, cur, pre, C)) (rem2, (some p), (pre ++ [p.1]), C9) ?_ ?_ ?_
   · exact ⟨rfl, rfl, trivial⟩
   · exact ⟨(fun q hq => hs q ((hmem q).1 hq).1), hkn.1, (List.nodup_append.2 ⟨hnd, by simp, fun a ha b hb => by rw [List.mem_singleton] at hb; subst hb; exact fun e => hkn.2 (e ▸ ha)⟩), (by rw [List.length_append, List.length_singleton]; omega), hJ9, (H8.takes [2, 0, 1, 3] (by decide))⟩
   · exact hlen
  ·
   refine ⟨_, rfl, ?_⟩
   have H9 : S wq7 [Ob b (.cells #[.map (some g)] 29 (0, 0)), Ob g (.map es cc), Mi (Value.int .i64) Value.bool es cc kv g rr rem2 (some p), C9] := S.unbig hS2
   refine R.l_of rfl (fun h => hL h) (s_val (v := .bool true) (wt0 rfl) rfl rfl (x_not (b := false) rfl rfl) ?_)
   refine R.g_nil ?_
   refine g_then ?_
   refine R.g_cond_t rfl rfl ?_
   refine R.g_ret ?_
   refine g_in_ret ?_
   refine g_then_ret ?_
   refine g_in_ret ?_
   refine fin_ret [] [] rfl trivial ?_
   exact ⟨⟨_, rfl⟩, .inr ⟨_, _, trivial, hJx, (S.big (L := [_, _]) (H9.takes [0, 1, 3] (by decide)))⟩⟩
/-- Who is banned, ascending. -/
def bansL (A : BS) : List Int := ((List.range 1000).map fun (n : Nat) => ((n + 1 : Nat) : Int)).filter A.bn
theorem range_asc (n : Nat) : (((List.range n).map fun (n : Nat) => ((n + 1 : Nat) : Int))).Pairwise (· < ·) := by
  rw [List.pairwise_map]
  exact List.pairwise_lt_range.imp fun h => by omega
theorem bansL_lt (A : BS) : (bansL A).Pairwise (· < ·) := (range_asc 1000).sublist List.filter_sublist
theorem bansL_mem {A : BS} {x : Int} : x ∈ bansL A ↔ (1 ≤ x ∧ x ≤ 1000) ∧ A.bn x = true := by
  unfold bansL
  rw [List.mem_filter, List.mem_map]
  constructor
  · rintro ⟨⟨n, hn, rfl⟩, h⟩
    rw [List.mem_range] at hn
    exact ⟨by omega, h⟩
  · rintro ⟨h1, h2⟩
    exact ⟨⟨(x - 1).toNat, List.mem_range.2 (by omega), by omega⟩, h2⟩
theorem sortI_of {l m : List Int} (hn : l.Nodup) (hm : m.Pairwise (· < ·)) (h : ∀ x, x ∈ l ↔ x ∈ m) : sortI l = m := by
  refine asc_eq ?_ hm fun x => by rw [(sortI_perm l).mem_iff, h]
  have h1 := sortI_le l
  have h2 : (sortI l).Nodup := (sortI_perm l).nodup_iff.2 hn
  exact (h1.and h2).imp fun ⟨a, b⟩ => by omega
theorem keys_bans {A : BS} {bn : Int → Option Bool} {es : Array MapEntry} {cc : Nat} {kv : List (Int × Bool)} (hkv : KV (Value.int .i64) Value.bool okI bn es cc kv) (hV : BV bn) (hA : ∀ x, A.bn x = (bn x).getD false) {xs : List Int} (h : xs.Nodup ∧ ∀ x, x ∈ xs ↔ ∃ q ∈ kv, q.1 = x) : sortI xs = bansL A := sortI_of h.1 (bansL_lt A) fun x => by
  rw [h.2, bansL_mem, hA]
  constructor
  · rintro ⟨q, hq, rfl⟩
    obtain ⟨_, h2⟩ := (hkv.is q).1 hq
    obtain ⟨h3, h4⟩ := hV _ _ h2
    exact ⟨h4, by rw [h2, h3]; rfl⟩
  · rintro ⟨h1, h2⟩
    cases hb : bn x with
    | none => rw [hb] at h2; cases h2
    | some v => exact ⟨(x, v), (hkv.is (x, v)).2 ⟨okI_in h1, hb⟩, rfl⟩
theorem keys_few {bn : Int → Option Bool} {es : Array MapEntry} {cc : Nat} {kv : List (Int × Bool)} (hkv : KV (Value.int .i64) Value.bool okI bn es cc kv) (hV : BV bn) : kv.length ≤ 1001 := by
  have h2 := len_sub hkv.nodup (m := (List.range 1001).map Int.ofNat) fun x hx => by
    obtain ⟨q, hq, rfl⟩ := List.mem_map.1 hx
    obtain ⟨_, h2⟩ := (hkv.is q).1 hq
    have := (hV _ _ h2).2
    exact nats_mem ⟨by omega, by omega⟩
  simpa using h2
theorem hit_le {n g k : Nat} {P : Program} {lb : Array Value} {base I0 : Item} {S' Sp : List Int → Prop} (h : IterW n P g lb encI base (fun pre x _ => pre.length < k) (fun _ _ => True) S' Sp I0) (hk : k ≤ 100000) : IterW n P g lb encI base (fun pre x _ => pre.length < 100000) (fun _ _ => True) S' Sp I0 :=
  fun l J Jx W C a b c d => h l J Jx W C a (fun pre x W1 I C h1 h2 h3 => b pre x W1 I C h1 (by omega) h3) c d
set_option maxRecDepth 20000 in
set_option maxHeartbeats 4000000 in
set_option maxRecDepth 20000 in
set_option maxHeartbeats 4000000 in
theorem bans_s {b m1 m2 m3 m4 : Nat} {bn : Int → Option Bool} {A : BS} (hV : BV bn) (hA : ∀ x, A.bn x = (bn x).getD false)  (w : World) (HS : S w [Ob b (.cells #[.map (some m1), .map (some m2), .map (some m3), .map (some m4)] 66 (0, 0)), Mp (Value.int .i64) Value.bool okI m2 bn]) : Calls Try.prog 24 #[.pointer (some ⟨b, 0, none⟩)] w fun e w' => ∃ p' c', e = .returned (.slice p' (bansL A).length c') ∧ S w' ([Rw 3 1 p' (bansL A).length c' (zV (bansL A)), Ob b (.cells #[.map (some m1), .map (some m2), .map (some m3), .map (some m4)] 66 (0, 0)), Mp (Value.int .i64) Value.bool okI m2 bn] ++ [Old w (fps [Ob b (.cells #[.map (some m1), .map (some m2), .map (some m3), .map (some m4)] 66 (0, 0)), Mp (Value.int .i64) Value.bool okI m2 bn])]) := by
 have H0 := HS.beginI
 refine enter 12 Try.func24 rfl rfl rfl ?_
 refine g_weak [(0, .pointer (some ⟨b, 0, none⟩))] ⟨rfl, trivial⟩ ?_
 refine g_seq ?_
 refine g_region ?_
 refine l_of (s_val (v := .slice none 0 0) (wt0 rfl) rfl rfl (x_assign rfl rfl) ?_)
 refine g_nil ?_
 refine g_then ?_
 refine g_seq ?_
 refine g_seq ?_
 refine g_region ?_
 refine l_of (s_val (v := .pointer (some ⟨b, 0, none⟩)) (wt0 rfl) rfl rfl (x_move rfl rfl) ?_)
 refine l_of (s_val (v := .bool false) (wt0 rfl) rfl rfl (x_bin rfl rfl rfl (b_eqN (r := false) Try.underlying28 rfl)) ?_)
 refine g_nil ?_
 refine g_then ?_
 refine g_cond_f rfl rfl ?_
 refine g_skip ?_
 refine g_then ?_
 refine g_seq ?_
 refine g_region ?_
 refine l_of (s_val (v := .pointer (some ⟨b, 0, none⟩)) (wt0 rfl) rfl rfl (x_move rfl rfl) ?_)
 refine l_of (s_val (v := .pointer (some ⟨b, 0, none⟩)) (wt0 rfl) rfl rfl (x_nilCheck rfl rfl) ?_)
 refine l_of (s_val (v := .pointer (some ⟨b, 0, none⟩)) (wt0 rfl) rfl rfl (x_fieldAddr rfl rfl fo66_0 rfl) ?_)
 refine l_of (s_val (v := .pointer (some ⟨b, 1, none⟩)) (wt0 rfl) rfl rfl (x_fieldAddr rfl rfl fo62_1 rfl) ?_)
 refine l_of (s_val (v := .map (some m2)) (wt0 rfl) rfl rfl (x_load1 H0 0 rfl rfl Try.underlying29 rfl rfl rfl) ?_)
 refine l_of (s_call (wt0 rfl) (x_call' rfl rfl cl57) (keys_s m2 _) ?_)
 rintro _ wq2 ⟨b1, rfl, H3⟩
 replace H3 : S wq2 [Ob b1 (.cells #[.map (some m2)] 29 (0, 0)), Ob b (.cells #[.map (some m1), .map (some m2), .map (some m3), .map (some m4)] 66 (0, 0)), Mp (Value.int .i64) Value.bool okI m2 bn, Old w (fps [Ob b (.cells #[.map (some m1), .map (some m2), .map (some m3), .map (some m4)] 66 (0, 0)), Mp (Value.int .i64) Value.bool okI m2 bn])] := H0.absorb (new := [Ob b1 (.cells #[.map (some m2)] 29 (0, 0))]) H3
 refine b_ret rfl rfl ?_
 obtain ⟨es, cc, kv, hkv, H4⟩ := H3.mpOpen (k0 := 2) rfl
 have hkf := keys_few hkv hV
 have H5 := S.big (L := [_, _]) (H4.takes [0, 2, 1, 3] (by decide))
 refine l_of (s_call (wt0 rfl) (x_call' rfl rfl cl56) (sortedK_s (Q := (fun xs => xs.Nodup ∧ ∀ x, x ∈ xs ↔ ∃ q ∈ kv, q.1 = x)) cl73 (fun n => hit_le (keys_it hkv) (by omega)) (fun xs h => by have := len_sub h.1 (m := kv.map Prod.fst) (fun x hx => by obtain ⟨q, hq, e⟩ := (h.2 x).1 hx; exact List.mem_map.2 ⟨q, hq, e⟩); rw [List.length_map] at this; omega) _ (H5.takes [0] (by decide))) ?_)
 rintro _ wq6 ⟨L, p, c, hQ, rfl, H7⟩
 replace H7 : S wq6 [Rw 3 1 p (sortI L).length c (zV (sortI L)), Big [Ob b1 (.cells #[.map (some m2)] 29 (0, 0)), Ob m2 (.map es cc)], Ob b (.cells #[.map (some m1), .map (some m2), .map (some m3), .map (some m4)] 66 (0, 0)), Old w (fps [Ob b (.cells #[.map (some m1), .map (some m2), .map (some m3), .map (some m4)] 66 (0, 0)), Mp (Value.int .i64) Value.bool okI m2 bn])] := H5.absorbI (new := [Rw 3 1 p (sortI L).length c (zV (sortI L)), Big [Ob b1 (.cells #[.map (some m2)] 29 (0, 0)), Ob m2 (.map es cc)]]) [0] H7
 refine b_ret rfl rfl ?_
 refine l_of (s_val (v := .slice p (sortI L).length c) (wt0 rfl) rfl rfl (x_assign rfl rfl) ?_)
 refine g_nil ?_
 refine g_then ?_
 refine g_ret ?_
 refine fin_ret [.tmp 2] [.slice p (sortI L).length c] rfl ⟨rfl, trivial⟩ ?_
 have H8 := S.mpClose hkv (S.unbig (H7.takes [1, 0, 2, 3] (by decide))) (k0 := 1) rfl
 have hkb := keys_bans (A := A) hkv hV hA hQ
 exact ⟨p, c, by rw [hkb]; rfl, by rw [← hkb]; exact H8.takes [2, 3, 1, 4] (by decide)⟩
end Go.Proofs.Ytlikhpfdncidkaa
