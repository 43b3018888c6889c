import Derived.Test.YtlikhpfdncidkaaFk
import Derived.Test.YtlikhpfdncidkaaBn
set_option linter.unusedSimpArgs false
set_option linter.unusedVariables false
namespace Go.Proofs.Ytlikhpfdncidkaa
open Go.RowKit

theorem cl62 : callable Try.prog 62 = true := by kernel_rfl
theorem cl63 : callable Try.prog 63 = true := by kernel_rfl
theorem fo77_0 : foO Try.prog 77 0 = some 0 := by kernel_rfl
theorem inf3 : infO Try.prog 3 = some (some (.int .i64 0), 1, 8) := by kernel_rfl
theorem sz77 : szO Try.prog 77 = some 2 := by kernel_rfl
theorem ze3 : zeO Try.prog 3 = some (.int .i64 0) := by kernel_rfl
theorem ze77 : zeO Try.prog 77 = some (.agg #[.int .i64 0, .string (⟨#[]⟩)]) := by kernel_rfl
def encI (x : Int) : Array Value := #[.int .i64 x]
theorem S.noI {w : World} {a : Item} {L : List Item} (h : S w (a :: L)) : S w (a :: Big [] :: L) := by
  have h2 : S w (Big [] :: a :: L) := h.cons (S.nil w) (fun g hg => by obtain ⟨_, h, _⟩ := hg; cases h) (fun _ _ g hg => by obtain ⟨_, h, _⟩ := hg; cases h)
  exact h2.perm (List.Perm.swap ..)
theorem split_at {l : List Int} {i : Nat} {x : Int} (h : l[i]? = some x) : ∃ post, l = l.take i ++ x :: post := by
  obtain ⟨h1, h2⟩ := List.getElem?_eq_some_iff.1 h
  exact ⟨l.drop (i + 1), by rw [← h2, ← List.drop_eq_getElem_cons h1, List.take_append_drop]⟩
theorem peers_next {rem0 rem rem2 : List (Sp × Sn)} {l : List Int} {p : Sp × Sn} (hp : p ∈ rem) (h0 : ∀ q ∈ rem, q ∈ rem0) (hm : ∀ q, q ∈ rem2 ↔ q ∈ rem ∧ q ≠ p) (h : ∀ x, x ∈ l ↔ ∃ q ∈ rem0, q ∉ rem ∧ q.2.1 = x) : ∀ x, x ∈ l ++ [p.2.1] ↔ ∃ q ∈ rem0, q ∉ rem2 ∧ q.2.1 = x := fun x => by
  rw [List.mem_append, List.mem_singleton, h]
  constructor
  · rintro (⟨q, h1, h2, h3⟩ | rfl)
    · exact ⟨q, h1, fun h4 => h2 ((hm q).1 h4).1, h3⟩
    · exact ⟨p, h0 p hp, fun h4 => ((hm p).1 h4).2 rfl, rfl⟩
  · rintro ⟨q, h1, h2, h3⟩
    by_cases e : q = p
    · subst e; exact .inr h3.symm
    · exact .inl ⟨q, h1, fun h4 => h2 ((hm q).2 ⟨h4, e⟩), h3⟩
theorem peers_all {t : Tr} {rem0 : List (Sp × Sn)} {l : List Int} (hr : ∀ p, p ∈ rem0 ↔ okP p.1 ∧ t p.1 = some p.2) (h : ∀ x, x ∈ l ↔ ∃ q ∈ rem0, q ∉ ([] : List (Sp × Sn)) ∧ q.2.1 = x) : whoL t = ascI l := whoL_eq ⟨ascI_lt l, fun x => by
  rw [ascI_mem, h]
  constructor
  · rintro ⟨q, h1, _, h3⟩
    obtain ⟨a, b⟩ := (hr q).1 h1
    exact ⟨q.1, q.2.2, a, by rw [b, ← h3]⟩
  · rintro ⟨s, d, a, b⟩
    exact ⟨(s, (x, d)), (hr (s, (x, d))).2 ⟨a, b⟩, by simp, rfl⟩⟩
set_option maxRecDepth 20000 in
set_option maxHeartbeats 4000000 in
set_option maxRecDepth 20000 in
set_option maxHeartbeats 4000000 in
theorem all_it1 {n0 b m : Nat} {ms : List Nat} {ct : Nat → Tr} (hm : m ∈ ms) (ht : Tok (ct m)) :
  IterW n0 Try.prog 65 #[.pointer (some ⟨b, 0, none⟩)] encI (Big [Ob b (.cells #[.map (some m)] 70 (0, 0)), FamM spK snV okP ms ct]) (fun pre x _ => ∃ post, whoL (ct m) = pre ++ x :: post) (fun _ _ => True) (fun xs => xs = whoL (ct m)) (fun _ => True) (Big []) := by
 intro l J Jx W C0 hOk hY h0 HS
 have H0 : S W [Ob b (.cells #[.map (some m)] 70 (0, 0)), FamM spK snV okP ms ct, C0] := (HS.takes [0, 2] (by decide)).unbig
 refine enter_ci 33 Try.func65 rfl rfl rfl ?_
 have hL : ¬ LetsOut (bodyPost Try.prog Try.f65 fun e W' => (∃ v, e = .returned v) ∧ ((∃ xs CC, xs = whoL (ct m) ∧ J xs CC ∧ S W' [Big [Ob b (.cells #[.map (some m)] 70 (0, 0)), FamM spK snV okP ms ct], CC]) ∨ (∃ pre CC, True ∧ Jx pre CC ∧ S W' [Big [Ob b (.cells #[.map (some m)] 70 (0, 0)), FamM spK snV okP ms ct], CC]))) := by
  rintro ⟨_, _, ⟨_, h⟩, _⟩
  cases h
 refine g_weak [(0, .func (.yield l) #[] #[]), (1, .pointer (some ⟨b, 0, none⟩))] ⟨rfl, rfl, trivial⟩ ?_
 refine R.g_seq ?_
 refine R.g_region ?_
 have H1 : S W [Rw 3 1 none 0 0 (zV []), Ob b (.cells #[.map (some m)] 70 (0, 0)), FamM spK snV okP ms ct, C0] := H0.nilRw 3 1
 refine R.l_of rfl (fun h => hL h) (s_val (v := .slice none 0 0) (wt0 rfl) rfl rfl (x_assign rfl rfl) ?_)
 refine R.g_nil ?_
 refine g_then ?_
 refine R.g_seq ?_
 refine R.g_seq ?_
 refine R.g_region ?_
 refine R.l_of rfl (fun h => hL h) (s_val (v := .map (some m)) (wt0 rfl) rfl rfl (x_load1 H1 1 rfl rfl Try.underlying70 rfl rfl rfl) ?_)
 have hmn := H1.famMnodup (k := 2) rfl
 have H2 := S.famMout (H1.takes [2, 0, 1, 3] (by decide)) hm
 refine R.l_of rfl (fun h => hL h) (s_rangeN tryT H2 0 (wt0 rfl) rfl rfl rfl rfl rfl ?_)
 intro rr rem0 wq3 hrn hrem H4
 refine R.g_nil ?_
 refine g_then ?_
 refine R.g_block ?_
 refine R.g_loop (ι := List (Sp × Sn) × Option (Sp × Sn) × List Int × Option Addr × Nat × Nat) (fun (rem, cur, l0, p0, n, c0) => [(0, .func (.yield l) #[] #[]), (3, .slice p0 n c0), (9, .pointer (some ⟨rr, 0, none⟩))]) (fun (rem, cur, l0, p0, n, c0) wx => (n = l0.length) ∧ (∀ q ∈ rem, q ∈ rem0) ∧ (∀ x, x ∈ l0 ↔ ∃ q ∈ rem0, q ∉ rem ∧ q.2.1 = x) ∧ (l0.length + rem.length ≤ 1025) ∧ S wx [MpR spK snV okP m rr (ct m) (rem) (cur), FamM spK snV okP (ms.erase m) ct, Ob b (.cells #[.map (some m)] 70 (0, 0)), C0, Rw 3 1 p0 n c0 (zV l0)]) (fun (rem, cur, l0, p0, n, c0) => rem.length) (rem0, none, [], none, 0, 0) ⟨rfl, rfl, rfl, trivial⟩ ⟨rfl, (fun _ h => h), (fun x => ⟨fun h => (by cases h), fun ⟨q, h1, h2, _⟩ => absurd h1 h2⟩), (by have := ht.len hrn (fun p hp => (hrem p).1 hp); simpa using this), (H4.takes [0, 1, 3, 4, 2] (by decide))⟩ ?_
 rintro ⟨rem, cur, l0, p0, n, c0⟩ wq5 ⟨hn, hr0, hl0, hll, H6⟩
 refine g_weak [(0, .func (.yield l) #[] #[]), (3, .slice p0 n c0), (9, .pointer (some ⟨rr, 0, none⟩))] ⟨rfl, rfl, rfl, trivial⟩ ?_
 refine R.g_seq ?_
 refine R.g_region ?_
 refine R.l_of rfl (fun h => hL h) (s_next H6 0 (wt0 rfl) rfl rfl rfl rfl rfl (fun hnil => ?_) (fun p rem2 w9 hp hok hN hmem hlen Hx => ?_))
 ·
  subst hnil
  refine R.l_of rfl (fun h => hL h) (s_val (v := .bool false) (wt0 rfl) rfl rfl (x_extract rfl rfl rfl) ?_)
  refine R.g_nil ?_
  refine g_then ?_
  refine R.g_seq ?_
  refine R.g_cond_f rfl rfl ?_
  refine R.g_exit ?_
  refine g_then_exit ?_
  refine g_then_exit ?_
  refine g_in_hit ?_
  refine g_then ?_
  refine R.g_seq ?_
  refine R.g_region ?_
  refine R.l_of rfl (fun h => hL h) (s_val (v := .slice p0 n c0) (wt0 rfl) rfl rfl (x_move rfl rfl) ?_)
  refine R.l_of rfl (fun h => hL h) (s_call (wt0 rfl) (x_call' rfl rfl cl62) (sortInts_s l0 p0 n c0 hn.symm (by omega) _ (H6.takes [4] (by decide))) ?_)
  rintro _ wq7 ⟨rfl, H8⟩
  replace H8 : S wq7 [Rw 3 1 p0 n c0 (zV (sortI l0)), MpR spK snV okP m rr (ct m) ([]) (cur), FamM spK snV okP (ms.erase m) ct, Ob b (.cells #[.map (some m)] 70 (0, 0)), C0] := H6.absorbI (new := [Rw 3 1 p0 n c0 (zV (sortI l0))]) [4] H8
  refine b_ret rfl rfl ?_
  refine R.g_nil ?_
  refine g_then ?_
  refine R.g_seq ?_
  refine R.g_region ?_
  refine R.l_of rfl (fun h => hL h) (s_val (v := .slice p0 n c0) (wt0 rfl) rfl rfl (x_move rfl rfl) ?_)
  have hwho : whoL (ct m) = Lib.compact (sortI l0) := peers_all hrem hl0
  refine R.l_of rfl (fun h => hL h) (s_call (wt0 rfl) (x_call' rfl rfl cl63) (hwho ▸ compactInts_s (sortI l0) p0 n c0 (by rw [sortI_len]; exact hn.symm) (by omega) _ (H8.takes [0] (by decide))) ?_)
  rintro _ wq9 ⟨rfl, H10⟩
  replace H10 : S wq9 [Rw 3 1 p0 (whoL (ct m)).length c0 (zV (whoL (ct m))), MpR spK snV okP m rr (ct m) ([]) (cur), FamM spK snV okP (ms.erase m) ct, Ob b (.cells #[.map (some m)] 70 (0, 0)), C0] := H8.absorbI (new := [Rw 3 1 p0 (whoL (ct m)).length c0 (zV (whoL (ct m)))]) [0] H10
  refine b_ret rfl rfl ?_
  refine R.l_of rfl (fun h => hL h) (s_val (v := .int .i64 (((whoL (ct m)).length : Int))) (wt0 rfl) rfl rfl (x_lenl rfl rfl Try.underlying24) ?_)
  refine R.l_of rfl (fun h => hL h) (s_val (v := .int .i64 0) (wt0 rfl) rfl rfl (x_move rfl rfl) ?_)
  refine R.g_nil ?_
  refine g_then ?_
  refine R.g_block ?_
  have H11 := (H10.unR (k0 := 1) rfl)
  have H12 := S.famMin (H11.takes [1, 2, 3, 4, 0] (by decide)) hm hmn
  rw [upd_self] at H12
  have H13 : S wq9 [Big [Ob b (.cells #[.map (some m)] 70 (0, 0)), FamM spK snV okP ms ct], Big [Rw 3 1 p0 (whoL (ct m)).length c0 (zV (whoL (ct m)))], C0] := (S.big (L := [_, _]) (S.big (L := [_]) ((H12.takes [1, 0, 3, 2] (by decide)).takes [2, 0, 1, 3] (by decide)) |>.takes [1, 2, 0, 3] (by decide)))
  have hwl := ht.whoLen
  refine R.g_loop (ι := Nat × Item) (fun (i, C1) => [(0, .func (.yield l) #[] #[]), (22, .slice p0 (whoL (ct m)).length c0), (23, .int .i64 (((whoL (ct m)).length : Int))), (24, .int .i64 ((i : Int)))]) (fun (i, C1) wx => (i ≤ (whoL (ct m)).length) ∧ (J ((whoL (ct m)).take i) C1) ∧ S wx [Big [Ob b (.cells #[.map (some m)] 70 (0, 0)), FamM spK snV okP ms ct], Big [Rw 3 1 p0 (whoL (ct m)).length c0 (zV (whoL (ct m)))], C1]) (fun (i, C1) => (whoL (ct m)).length - i) (0, C0) ⟨rfl, rfl, rfl, rfl, trivial⟩ ⟨Nat.zero_le _, h0, H13⟩ ?_
  rintro ⟨i, C1⟩ wq14 ⟨hi, hJ, H15⟩
  refine g_weak [(0, .func (.yield l) #[] #[]), (22, .slice p0 (whoL (ct m)).length c0), (23, .int .i64 (((whoL (ct m)).length : Int))), (24, .int .i64 ((i : Int)))] ⟨rfl, rfl, rfl, rfl, trivial⟩ ?_
  refine R.g_seq ?_
  refine R.g_region ?_
  refine R.l_of rfl (fun h => hL h) (s_val (v := .bool (decide (((i : Int) : Int) < ((whoL (ct m)).length : Int)))) (wt0 rfl) rfl rfl (x_bin rfl rfl rfl b_lss) ?_)
  refine R.g_nil ?_
  refine g_then ?_
  refine R.g_seq ?_
  by_cases hb16 : ((i : Int) : Int) < ((whoL (ct m)).length : Int)
  ·
   obtain ⟨x, hx⟩ : ∃ x, (whoL (ct m))[i]? = some x := ⟨_, List.getElem?_eq_getElem (by omega)⟩
   refine R.g_cond_t rfl (decide_eq_true hb16) ?_
   refine R.g_skip ?_
   refine g_then ?_
   refine R.g_seq ?_
   refine R.g_block ?_
   refine R.g_seq ?_
   refine R.g_region ?_
   refine R.l_of rfl (fun h => hL h) (s_val (v := .pointer ((p0).map fun q => q.add (i * 1))) (wt0 rfl) rfl rfl (x_idxR i (((H15.bigAt (k := 1) rfl).rwReads (k := 0) rfl)) rfl rfl rfl Try.underlying24 sz3 (by omega)) ?_)
   refine R.l_of rfl (fun h => hL h) (s_val (v := .int .i64 x) (wt0 rfl) rfl rfl (x_loadR1 i (((H15.bigAt (k := 1) rfl).rwReads (k := 0) rfl)) (by omega) rfl rfl Try.underlying3 rfl (zV_at hx)) ?_)
   refine R.l_of rfl (fun h => hL h) (s_val (v := .int .i64 x) (wt0 rfl) rfl rfl (x_assign rfl rfl) ?_)
   refine R.g_nil ?_
   refine g_then ?_
   refine R.g_seq ?_
   refine R.g_region ?_
   refine R.l_of rfl (fun h => hL h) (s_val (v := .func (.yield l) #[] #[]) (wt0 rfl) rfl rfl (x_move rfl rfl) ?_)
   refine R.l_of rfl (fun h => hL h) (s_val (v := .int .i64 x) (wt0 rfl) rfl rfl (x_move rfl rfl) ?_)
   refine l_yield (wt0 rfl) rfl rfl rfl rfl rfl (hY ((whoL (ct m)).take i) x wq14 _ C1 hJ (split_at hx) H15) ?_
   rintro _ wq17 (⟨rfl, C3, hJ3, hS2⟩ | ⟨rfl, C3, hJx, hS2⟩)
   ·
    refine ⟨_, rfl, ?_⟩
    have H18 : S wq17 [Big [Ob b (.cells #[.map (some m)] 70 (0, 0)), FamM spK snV okP ms ct], Big [Rw 3 1 p0 (whoL (ct m)).length c0 (zV (whoL (ct m)))], C3] := hS2
    rw [← take_snoc hx] at hJ3
    refine R.l_of rfl (fun h => hL h) (s_val (v := .bool false) (wt0 rfl) rfl rfl (x_not (b := true) rfl rfl) ?_)
    refine R.g_nil ?_
    refine g_then ?_
    refine R.g_cond_f rfl rfl ?_
    refine R.g_skip ?_
    refine g_in ?_
    refine g_then ?_
    refine R.g_region ?_
    refine R.l_of rfl (fun h => hL h) (s_val (v := .int .i64 (((i + 1 : Nat) : Int))) (wt0 rfl) rfl rfl (x_bin rfl rfl rfl (b_add (by rw [w64 (by omega)]; omega))) ?_)
    refine R.l_of rfl (fun h => hL h) (s_val (v := .int .i64 (((i + 1 : Nat) : Int))) (wt0 rfl) rfl rfl (x_move rfl rfl) ?_)
    refine R.g_nil ?_
    refine g_then ?_
    refine g_round (i := (i, C1)) (i + 1, C3) ?_ ?_ ?_
    · exact ⟨rfl, rfl, rfl, rfl, trivial⟩
    · exact ⟨by omega, hJ3, H18⟩
    · (try dsimp only); omega
   ·
    refine ⟨_, rfl, ?_⟩
    have H19 : S wq17 [Big [Ob b (.cells #[.map (some m)] 70 (0, 0)), FamM spK snV okP ms ct], Big [Rw 3 1 p0 (whoL (ct m)).length c0 (zV (whoL (ct m)))], C3] := hS2
    refine R.l_of rfl (fun h => hL h) (s_val (v := .bool true) (wt0 rfl) rfl rfl (x_not (b := false) rfl rfl) ?_)
    refine R.g_nil ?_
    refine g_then ?_
    refine R.g_cond_t rfl rfl ?_
    refine R.g_ret ?_
    refine g_in_ret ?_
    refine g_then_ret ?_
    refine g_then_ret ?_
    refine g_in_ret ?_
    refine fin_ret [] [] rfl trivial ?_
    exact ⟨⟨_, rfl⟩, .inr ⟨_, _, trivial, hJx, (H19.takes [0, 2] (by decide))⟩⟩
  ·
   refine R.g_cond_f rfl (decide_eq_false hb16) ?_
   refine R.g_exit ?_
   refine g_then_exit ?_
   refine g_then_exit ?_
   refine g_in_hit ?_
   refine fin_end [] [] rfl trivial ?_
   have hin : i = (whoL (ct m)).length := by omega
   subst hin
   rw [List.take_length] at hJ
   exact ⟨⟨_, rfl⟩, .inl ⟨_, _, rfl, hJ, (H15.takes [0, 2] (by decide))⟩⟩
 ·
  have H20 : S w9 [MpR spK snV okP m rr (ct m) (rem2) (some p), FamM spK snV okP (ms.erase m) ct, Ob b (.cells #[.map (some m)] 70 (0, 0)), C0, Rw 3 1 p0 n c0 (zV l0)] := Hx
  refine R.l_of rfl (fun h => hL h) (s_val (v := .bool true) (wt0 rfl) rfl rfl (x_extract rfl rfl rfl) ?_)
  refine R.g_nil ?_
  refine g_then ?_
  refine R.g_seq ?_
  refine R.g_cond_t rfl rfl ?_
  refine R.g_skip ?_
  refine g_then ?_
  refine R.g_block ?_
  refine R.g_seq ?_
  refine R.g_region ?_
  refine R.l_of rfl (fun h => hL h) (s_val (v := .tuple #[.agg #[.int .i64 (p.1.1), .int .i64 (p.1.2)], .agg #[.int .i64 (p.2.1), .string (p.2.2)]]) (wt0 rfl) rfl rfl (x_entry (k := 0) (t := 0) (e0 := 0) H20 0 rfl rfl rfl) ?_)
  refine R.l_of rfl (fun h => hL h) (s_val (v := .agg #[.int .i64 (p.2.1), .string (p.2.2)]) (wt0 rfl) rfl rfl (x_extract rfl rfl rfl) ?_)
  refine R.l_of rfl (fun h => hL h) (s_alloc H20 (wt0 rfl) rfl rfl rfl ze77 ?_)
  intro g21 wq22 H23
  refine R.l_of rfl (fun h => hL h) (s_store H23 0 (wt0 rfl) rfl rfl rfl rfl rfl sz77 rfl rfl (cs' := #[.int .i64 (p.2.1), .string (p.2.2)]) rfl ?_)
  intro wq24 H25
  refine R.g_nil ?_
  refine g_then ?_
  refine R.g_region ?_
  refine R.l_of rfl (fun h => hL h) (s_val (v := .slice p0 n c0) (wt0 rfl) rfl rfl (x_move rfl rfl) ?_)
  refine R.l_of rfl (fun h => hL h) (s_val (v := .pointer (some ⟨g21, 0, none⟩)) (wt0 rfl) rfl rfl (x_fieldAddr rfl rfl fo77_0 rfl) ?_)
  refine R.l_of rfl (fun h => hL h) (s_val (v := .int .i64 (p.2.1)) (wt0 rfl) rfl rfl (x_load1 H25 0 rfl rfl Try.underlying3 rfl rfl rfl) ?_)
  refine R.l_of rfl (fun h => hL h) (s_buildSlice H25 (wt0 rfl) rfl rfl rfl (vs := [.int .i64 (p.2.1)]) rfl Try.underlying24 sz3 ze3 rfl rfl (cells := #[.int .i64 (p.2.1)]) (by kernel_rfl) ?_)
  intro g26 wq27 H28
  refine R.l_of rfl (fun h => hL h) (s_appendR (n := n) (m := 1) (sc := c0) (xs := (zV l0)) (news := [.int .i64 (p.2.1)]) (p := p0) (ad := ⟨g26, 0, none⟩) H28 6 (wt0 rfl) rfl rfl rfl rfl rfl rfl Try.underlying24 inf3 rfl (by decide) (by decide) rfl (by decide) (news_ob H28 (j0 := 0) rfl) rfl (by omega) ?_)
  intro p29 c30 wq31 (H32 : S wq31 [Ob g26 (.cells #[.int .i64 (p.2.1)] 3 (0, 0)), Ob g21 (.cells #[.int .i64 (p.2.1), .string (p.2.2)] 77 (0, 0)), MpR spK snV okP m rr (ct m) (rem2) (some p), FamM spK snV okP (ms.erase m) ct, Ob b (.cells #[.map (some m)] 70 (0, 0)), C0, Rw 3 1 p29 (n + 1) c30 ((zV l0) ++ [.int .i64 (p.2.1)])])
  refine R.l_of rfl (fun h => hL h) (s_val (v := .slice p29 (n + 1) c30) (wt0 rfl) rfl rfl (x_assign rfl rfl) ?_)
  refine R.g_nil ?_
  refine g_in ?_
  refine g_then ?_
  rw [← zV_snoc] at H32
  refine g_round (i := (rem, cur, l0, p0, n, c0)) (rem2, (some p), (l0 ++ [p.2.1]), p29, (n + 1), c30) ?_ ?_ ?_
  · exact ⟨rfl, rfl, rfl, trivial⟩
  · exact ⟨(by rw [List.length_append, List.length_singleton, hn]), (fun q hq => hr0 q ((hmem q).1 hq).1), (peers_next hp hr0 hmem hl0), (by rw [List.length_append, List.length_singleton]; omega), (H32.takes [2, 3, 4, 5, 6] (by decide))⟩
  · exact hlen
set_option maxRecDepth 20000 in
set_option maxHeartbeats 4000000 in
set_option maxRecDepth 20000 in
set_option maxHeartbeats 4000000 in
theorem all_it0 {n0 b : Nat} {ms : List Nat} {ct : Nat → Tr}  :
  IterW n0 Try.prog 65 #[.pointer (some ⟨b, 0, none⟩)] encI (Big [Ob b (.cells #[.map none] 70 (0, 0)), FamM spK snV okP ms ct]) (fun pre x _ => ∃ post, whoL noT = pre ++ x :: post) (fun _ _ => True) (fun xs => xs = whoL noT) (fun _ => True) (Big []) := by
 intro l J Jx W C0 hOk hY h0 HS
 have H0 : S W [Ob b (.cells #[.map none] 70 (0, 0)), FamM spK snV okP ms ct, C0] := (HS.takes [0, 2] (by decide)).unbig
 refine enter_ci 33 Try.func65 rfl rfl rfl ?_
 have hL : ¬ LetsOut (bodyPost Try.prog Try.f65 fun e W' => (∃ v, e = .returned v) ∧ ((∃ xs CC, xs = whoL noT ∧ J xs CC ∧ S W' [Big [Ob b (.cells #[.map none] 70 (0, 0)), FamM spK snV okP ms ct], CC]) ∨ (∃ pre CC, True ∧ Jx pre CC ∧ S W' [Big [Ob b (.cells #[.map none] 70 (0, 0)), FamM spK snV okP ms ct], CC]))) := by
  rintro ⟨_, _, ⟨_, h⟩, _⟩
  cases h
 refine g_weak [(0, .func (.yield l) #[] #[]), (1, .pointer (some ⟨b, 0, none⟩))] ⟨rfl, rfl, trivial⟩ ?_
 refine R.g_seq ?_
 refine R.g_region ?_
 have H1 : S W [Rw 3 1 none 0 0 (zV []), Ob b (.cells #[.map none] 70 (0, 0)), FamM spK snV okP ms ct, C0] := H0.nilRw 3 1
 refine R.l_of rfl (fun h => hL h) (s_val (v := .slice none 0 0) (wt0 rfl) rfl rfl (x_assign rfl rfl) ?_)
 refine R.g_nil ?_
 refine g_then ?_
 refine R.g_seq ?_
 refine R.g_seq ?_
 refine R.g_region ?_
 refine R.l_of rfl (fun h => hL h) (s_val (v := .map none) (wt0 rfl) rfl rfl (x_load1 H1 1 rfl rfl Try.underlying70 rfl rfl rfl) ?_)
 refine R.l_of rfl (fun h => hL h) (s_rangeNil H1 (wt0 rfl) rfl rfl rfl rfl Try.underlying70 ?_)
 intro rr wq2 H3
 refine R.g_nil ?_
 refine g_then ?_
 refine R.g_block ?_
 refine R.g_loop (ι := Unit) (fun _ => [(0, .func (.yield l) #[] #[]), (3, .slice none 0 0), (9, .pointer (some ⟨rr, 0, none⟩))]) (fun _ wx => (True) ∧ S wx [Ob rr (.mapIter none 0 #[] 0), FamM spK snV okP ms ct, Ob b (.cells #[.map none] 70 (0, 0)), C0, Rw 3 1 none 0 0 (zV [])]) (fun _ => 0) () ⟨rfl, rfl, rfl, trivial⟩ ⟨trivial, (H3.takes [0, 3, 2, 4, 1] (by decide))⟩ ?_
 rintro _ wq4 ⟨hT, H5⟩
 refine g_weak [(0, .func (.yield l) #[] #[]), (3, .slice none 0 0), (9, .pointer (some ⟨rr, 0, none⟩))] ⟨rfl, rfl, rfl, trivial⟩ ?_
 refine R.g_seq ?_
 refine R.g_region ?_
 refine R.l_of rfl (fun h => hL h) (s_val (v := .tuple #[.bool false]) (wt0 rfl) rfl rfl (x_nextNil H5 0 rfl rfl rfl) ?_)
 refine R.l_of rfl (fun h => hL h) (s_val (v := .bool false) (wt0 rfl) rfl rfl (x_extract rfl rfl rfl) ?_)
 refine R.g_nil ?_
 refine g_then ?_
 refine R.g_seq ?_
 refine R.g_cond_f rfl rfl ?_
 refine R.g_exit ?_
 refine g_then_exit ?_
 refine g_then_exit ?_
 refine g_in_hit ?_
 refine g_then ?_
 refine R.g_seq ?_
 refine R.g_region ?_
 refine R.l_of rfl (fun h => hL h) (s_val (v := .slice none 0 0) (wt0 rfl) rfl rfl (x_move rfl rfl) ?_)
 refine R.l_of rfl (fun h => hL h) (s_call (wt0 rfl) (x_call' rfl rfl cl62) (sortInts_s [] none 0 0 rfl (by omega) _ (H5.takes [4] (by decide))) ?_)
 rintro _ wq6 ⟨rfl, H7⟩
 replace H7 : S wq6 [Rw 3 1 none 0 0 (zV (sortI [])), Ob rr (.mapIter none 0 #[] 0), FamM spK snV okP ms ct, Ob b (.cells #[.map none] 70 (0, 0)), C0] := H5.absorbI (new := [Rw 3 1 none 0 0 (zV (sortI []))]) [4] H7
 refine b_ret rfl rfl ?_
 refine R.g_nil ?_
 refine g_then ?_
 refine R.g_seq ?_
 refine R.g_region ?_
 refine R.l_of rfl (fun h => hL h) (s_val (v := .slice none 0 0) (wt0 rfl) rfl rfl (x_move rfl rfl) ?_)
 have hwho : whoL noT = Lib.compact (sortI []) := by rw [whoL_none, show sortI [] = [] from by simp [sortI]]; rfl
 refine R.l_of rfl (fun h => hL h) (s_call (wt0 rfl) (x_call' rfl rfl cl63) (hwho ▸ compactInts_s (sortI []) none 0 0 (by rw [sortI_len]; rfl) (by omega) _ (H7.takes [0] (by decide))) ?_)
 rintro _ wq8 ⟨rfl, H9⟩
 replace H9 : S wq8 [Rw 3 1 none (whoL noT).length 0 (zV (whoL noT)), Ob rr (.mapIter none 0 #[] 0), FamM spK snV okP ms ct, Ob b (.cells #[.map none] 70 (0, 0)), C0] := H7.absorbI (new := [Rw 3 1 none (whoL noT).length 0 (zV (whoL noT))]) [0] H9
 refine b_ret rfl rfl ?_
 refine R.l_of rfl (fun h => hL h) (s_val (v := .int .i64 (((whoL noT).length : Int))) (wt0 rfl) rfl rfl (x_lenl rfl rfl Try.underlying24) ?_)
 refine R.l_of rfl (fun h => hL h) (s_val (v := .int .i64 0) (wt0 rfl) rfl rfl (x_move rfl rfl) ?_)
 refine R.g_nil ?_
 refine g_then ?_
 refine R.g_block ?_
 have H12 : S wq8 [Big [Ob b (.cells #[.map none] 70 (0, 0)), FamM spK snV okP ms ct], Big [Rw 3 1 none (whoL noT).length 0 (zV (whoL noT))], C0] := (S.big (L := [_, _]) (S.big (L := [_]) ((H9.takes [3, 2, 0, 4] (by decide)).takes [2, 0, 1, 3] (by decide)) |>.takes [1, 2, 0, 3] (by decide)))
 have hwl : (whoL noT).length ≤ 1001 := by rw [whoL_none]; exact Nat.zero_le _
 refine R.g_loop (ι := Nat × Item) (fun (i, C1) => [(0, .func (.yield l) #[] #[]), (22, .slice none (whoL noT).length 0), (23, .int .i64 (((whoL noT).length : Int))), (24, .int .i64 ((i : Int)))]) (fun (i, C1) wx => (i ≤ (whoL noT).length) ∧ (J ((whoL noT).take i) C1) ∧ S wx [Big [Ob b (.cells #[.map none] 70 (0, 0)), FamM spK snV okP ms ct], Big [Rw 3 1 none (whoL noT).length 0 (zV (whoL noT))], C1]) (fun (i, C1) => (whoL noT).length - i) (0, C0) ⟨rfl, rfl, rfl, rfl, trivial⟩ ⟨Nat.zero_le _, h0, H12⟩ ?_
 rintro ⟨i, C1⟩ wq13 ⟨hi, hJ, H14⟩
 refine g_weak [(0, .func (.yield l) #[] #[]), (22, .slice none (whoL noT).length 0), (23, .int .i64 (((whoL noT).length : Int))), (24, .int .i64 ((i : Int)))] ⟨rfl, rfl, rfl, rfl, trivial⟩ ?_
 refine R.g_seq ?_
 refine R.g_region ?_
 refine R.l_of rfl (fun h => hL h) (s_val (v := .bool (decide (((i : Int) : Int) < ((whoL noT).length : Int)))) (wt0 rfl) rfl rfl (x_bin rfl rfl rfl b_lss) ?_)
 refine R.g_nil ?_
 refine g_then ?_
 refine R.g_seq ?_
 by_cases hb15 : ((i : Int) : Int) < ((whoL noT).length : Int)
 ·
  obtain ⟨x, hx⟩ : ∃ x, (whoL noT)[i]? = some x := ⟨_, List.getElem?_eq_getElem (by omega)⟩
  refine R.g_cond_t rfl (decide_eq_true hb15) ?_
  refine R.g_skip ?_
  refine g_then ?_
  refine R.g_seq ?_
  refine R.g_block ?_
  refine R.g_seq ?_
  refine R.g_region ?_
  refine R.l_of rfl (fun h => hL h) (s_val (v := .pointer ((none : Option Addr).map fun q => q.add (i * 1))) (wt0 rfl) rfl rfl (x_idxR i (((H14.bigAt (k := 1) rfl).rwReads (k := 0) rfl)) rfl rfl rfl Try.underlying24 sz3 (by omega)) ?_)
  refine R.l_of rfl (fun h => hL h) (s_val (v := .int .i64 x) (wt0 rfl) rfl rfl (x_loadR1 i (((H14.bigAt (k := 1) rfl).rwReads (k := 0) rfl)) (by omega) rfl rfl Try.underlying3 rfl (zV_at hx)) ?_)
  refine R.l_of rfl (fun h => hL h) (s_val (v := .int .i64 x) (wt0 rfl) rfl rfl (x_assign rfl rfl) ?_)
  refine R.g_nil ?_
  refine g_then ?_
  refine R.g_seq ?_
  refine R.g_region ?_
  refine R.l_of rfl (fun h => hL h) (s_val (v := .func (.yield l) #[] #[]) (wt0 rfl) rfl rfl (x_move rfl rfl) ?_)
  refine R.l_of rfl (fun h => hL h) (s_val (v := .int .i64 x) (wt0 rfl) rfl rfl (x_move rfl rfl) ?_)
  refine l_yield (wt0 rfl) rfl rfl rfl rfl rfl (hY ((whoL noT).take i) x wq13 _ C1 hJ (split_at hx) H14) ?_
  rintro _ wq16 (⟨rfl, C3, hJ3, hS2⟩ | ⟨rfl, C3, hJx, hS2⟩)
  ·
   refine ⟨_, rfl, ?_⟩
   have H17 : S wq16 [Big [Ob b (.cells #[.map none] 70 (0, 0)), FamM spK snV okP ms ct], Big [Rw 3 1 none (whoL noT).length 0 (zV (whoL noT))], C3] := hS2
   rw [← take_snoc hx] at hJ3
   refine R.l_of rfl (fun h => hL h) (s_val (v := .bool false) (wt0 rfl) rfl rfl (x_not (b := true) rfl rfl) ?_)
   refine R.g_nil ?_
   refine g_then ?_
   refine R.g_cond_f rfl rfl ?_
   refine R.g_skip ?_
   refine g_in ?_
   refine g_then ?_
   refine R.g_region ?_
   refine R.l_of rfl (fun h => hL h) (s_val (v := .int .i64 (((i + 1 : Nat) : Int))) (wt0 rfl) rfl rfl (x_bin rfl rfl rfl (b_add (by rw [w64 (by omega)]; omega))) ?_)
   refine R.l_of rfl (fun h => hL h) (s_val (v := .int .i64 (((i + 1 : Nat) : Int))) (wt0 rfl) rfl rfl (x_move rfl rfl) ?_)
   refine R.g_nil ?_
   refine g_then ?_
   refine g_round (i := (i, C1)) (i + 1, C3) ?_ ?_ ?_
   · exact ⟨rfl, rfl, rfl, rfl, trivial⟩
   · exact ⟨by omega, hJ3, H17⟩
   · (try dsimp only); omega
  ·
   refine ⟨_, rfl, ?_⟩
   have H18 : S wq16 [Big [Ob b (.cells #[.map none] 70 (0, 0)), FamM spK snV okP ms ct], Big [Rw 3 1 none (whoL noT).length 0 (zV (whoL noT))], C3] := hS2
   refine R.l_of rfl (fun h => hL h) (s_val (v := .bool true) (wt0 rfl) rfl rfl (x_not (b := false) rfl rfl) ?_)
   refine R.g_nil ?_
   refine g_then ?_
   refine R.g_cond_t rfl rfl ?_
   refine R.g_ret ?_
   refine g_in_ret ?_
   refine g_then_ret ?_
   refine g_then_ret ?_
   refine g_in_ret ?_
   refine fin_ret [] [] rfl trivial ?_
   exact ⟨⟨_, rfl⟩, .inr ⟨_, _, trivial, hJx, (H18.takes [0, 2] (by decide))⟩⟩
 ·
  refine R.g_cond_f rfl (decide_eq_false hb15) ?_
  refine R.g_exit ?_
  refine g_then_exit ?_
  refine g_then_exit ?_
  refine g_in_hit ?_
  refine fin_end [] [] rfl trivial ?_
  have hin : i = (whoL noT).length := by omega
  subst hin
  rw [List.take_length] at hJ
  exact ⟨⟨_, rfl⟩, .inl ⟨_, _, rfl, hJ, (H14.takes [0, 2] (by decide))⟩⟩
theorem all_it {n0 b : Nat} {mo : Option Nat} {ms : List Nat} {ct : Nat → Tr} (hm : ∀ m, mo = some m → m ∈ ms) (ht : ∀ m ∈ ms, Tok (ct m)) :
    IterW n0 Try.prog 65 #[.pointer (some ⟨b, 0, none⟩)] encI (Big [Ob b (.cells #[.map mo] 70 (0, 0)), FamM spK snV okP ms ct]) (fun pre x _ => ∃ post, whoL (tryOf ct mo) = pre ++ x :: post) (fun _ _ => True) (fun xs => xs = whoL (tryOf ct mo)) (fun _ => True) (Big []) := by
  cases mo with
  | none => exact all_it0
  | some m => exact all_it1 (hm m rfl) (ht m (hm m rfl))
set_option maxRecDepth 20000 in
set_option maxHeartbeats 4000000 in
set_option maxRecDepth 20000 in
set_option maxHeartbeats 4000000 in
theorem all_s (mo : Option Nat) (w : World) : Calls Try.prog 37 #[.map mo] w fun e w' => ∃ b, e = .returned (.func (.func 65) #[] #[.pointer (some ⟨b, 0, none⟩)]) ∧ S w' ([Ob b (.cells #[.map mo] 70 (0, 0))] ++ [Old w no]) := by
 have H0 := S.old w
 refine enter 4 Try.func37 rfl rfl rfl ?_
 refine g_weak [(0, .map mo)] ⟨rfl, trivial⟩ ?_
 refine g_seq ?_
 refine g_region ?_
 refine l_of (s_box H0 (wt0 rfl) rfl rfl rfl rfl ?_)
 intro g1 wq2 H3
 refine l_of (s_val (v := .nilFunc) (wt0 rfl) rfl rfl (x_assign rfl rfl) ?_)
 refine g_nil ?_
 refine g_then ?_
 refine g_seq ?_
 refine g_region ?_
 refine l_of (s_val (v := .func (.func 65) #[] #[.pointer (some ⟨g1, 0, none⟩)]) (wt0 rfl) rfl rfl (x_makeFunc rfl rfl rfl) ?_)
 refine l_of (s_val (v := .func (.func 65) #[] #[.pointer (some ⟨g1, 0, none⟩)]) (wt0 rfl) rfl rfl (x_assign rfl rfl) ?_)
 refine g_nil ?_
 refine g_then ?_
 refine g_ret ?_
 refine fin_ret [.tmp 2] [.func (.func 65) #[] #[.pointer (some ⟨g1, 0, none⟩)]] rfl ⟨rfl, trivial⟩ ?_
 exact ⟨_, rfl, H3⟩
end Go.Proofs.Ytlikhpfdncidkaa
