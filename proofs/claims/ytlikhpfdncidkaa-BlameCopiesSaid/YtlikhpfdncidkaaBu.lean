import Derived.Test.YtlikhpfdncidkaaFk
import Derived.Test.YtlikhpfdncidkaaBt
set_option linter.unusedSimpArgs false
set_option linter.unusedVariables false
namespace Go.Proofs.Ytlikhpfdncidkaa
open Go.RowKit

theorem cl97 : callable Try.prog 97 = true := by kernel_rfl
theorem inf70 : infO Try.prog 70 = some (some (.map none), 1, 8) := by kernel_rfl
theorem filter_snoc {α : Type} {p : α → Bool} {l : List α} {i : Nat} {x : α} (h : l[i]? = some x) : (l.take (i + 1)).filter p = (l.take i).filter p ++ (if p x = true then [x] else []) := by
  rw [take_snoc h, List.filter_append]
  by_cases hp : p x = true
  · rw [if_pos hp]; simp [hp]
  · rw [if_neg hp]; simp [hp]
theorem ban_next {M bn : Int → Option Bool} {l : List Int} {i : Nat} {x : Int} (hx : l[i]? = some x) (h : ∀ y, (M y).getD false = ((bn y).getD false || decide (y ∈ l.take i))) : ∀ y, (upM M x true y).getD false = ((bn y).getD false || decide (y ∈ l.take (i + 1))) := fun y => by
  rw [take_snoc hx]
  unfold upM
  by_cases e : y = x
  · subst e; simp
  · rw [if_neg e, h]; simp [e]
theorem banV_next {M bn : Int → Option Bool} {l : List Int} {i : Nat} {x : Int} (hx : (ascI l)[i]? = some x) (h : ∀ y v, M y = some v → bn y = some v ∨ (v = true ∧ y ∈ l)) : ∀ y v, upM M x true y = some v → bn y = some v ∨ (v = true ∧ y ∈ l) := fun y v hy => by
  unfold upM at hy
  split at hy
  · rename_i e; cases hy; subst e; exact .inr ⟨rfl, ascI_mem.1 (List.mem_of_getElem? hx)⟩
  · exact h y v hy
theorem ban_skip {M bn : Int → Option Bool} {l : List Int} {i : Nat} {x : Int} (hx : l[i]? = some x) (h : ∀ y, (M y).getD false = ((bn y).getD false || decide (y ∈ l.take i))) (hm : (M x).getD false = true) : ∀ y, (M y).getD false = ((bn y).getD false || decide (y ∈ l.take (i + 1))) := fun y => by
  rw [take_snoc hx]
  by_cases e : y = x
  · subst e; rw [hm]; simp
  · rw [h]; simp [e]
theorem not_before {l : List Int} (hl : l.Pairwise (· < ·)) {i : Nat} {x : Int} (hx : l[i]? = some x) : ¬ x ∈ l.take i := fun hm => by
  obtain ⟨j, hj⟩ := List.getElem?_of_mem hm
  rw [List.getElem?_take] at hj
  split at hj
  · rename_i hji
    obtain ⟨hi1, hi2⟩ := List.getElem?_eq_some_iff.1 hx
    obtain ⟨hj1, hj2⟩ := List.getElem?_eq_some_iff.1 hj
    have := List.pairwise_iff_getElem.1 hl j i hj1 hi1 hji
    omega
  · cases hj
theorem ban_was {M bn : Int → Option Bool} {l : List Int} (hl : l.Pairwise (· < ·)) {i : Nat} {x : Int} (hx : l[i]? = some x) (h : ∀ y, (M y).getD false = ((bn y).getD false || decide (y ∈ l.take i))) : (bn x).getD false = (M x).getD false := by
  rw [h, decide_eq_false (not_before hl hx), Bool.or_false]
/-- The map of those that are banned, when some are banned more. -/
structure BanTo (bn bn' : Int → Option Bool) (l : List Int) : Prop where
  get : ∀ y, (bn' y).getD false = ((bn y).getD false || decide (y ∈ l))
  inn : ∀ y v, bn' y = some v → bn y = some v ∨ (v = true ∧ y ∈ l)
set_option maxRecDepth 20000 in
set_option maxHeartbeats 4000000 in
theorem ban_s {b m1 m2 m3 m4 : Nat} {bn : Int → Option Bool} {p : Option Addr} {n c : Nat} {l : List Int} (hn : n = l.length) (hn2 : n ≤ 100000) (hl : ∀ x ∈ l, okI x)  (w : World) (HS : S w [Ob b (.cells #[.map (some m1), .map (some m2), .map (some m3), .map (some m4)] 66 (0, 0)), Mp (Value.int .i64) Value.bool okI m2 bn, Rw 3 1 p n c (zV l)]) : Calls Try.prog 35 #[.pointer (some ⟨b, 0, none⟩), .slice p n c] w fun e w' => ∃ bn' p2 c2, BanTo bn bn' l ∧ e = .returned (.slice p2 (newL bn l).length c2) ∧ S w' ([Rw 3 1 p2 (newL bn l).length c2 (zV (newL bn l)), Ob b (.cells #[.map (some m1), .map (some m2), .map (some m3), .map (some m4)] 66 (0, 0)), Mp (Value.int .i64) Value.bool okI m2 bn'] ++ [Old w (fps [Ob b (.cells #[.map (some m1), .map (some m2), .map (some m3), .map (some m4)] 66 (0, 0)), Mp (Value.int .i64) Value.bool okI m2 bn, Rw 3 1 p n c (zV l)])]) := by
 have H0 := HS.beginI
 have hal : (ascI l).length ≤ l.length := ascI_le l
 refine enter 37 Try.func35 rfl rfl rfl ?_
 refine g_weak [(0, .pointer (some ⟨b, 0, none⟩)), (1, .slice p n c)] ⟨rfl, rfl, trivial⟩ ?_
 refine w_s ?_
 refine w_a ?_
 refine w_e ?_
 refine w_s ?_
 have H1 : S w [Rw 3 1 none 0 0 (zV []), Ob b (.cells #[.map (some m1), .map (some m2), .map (some m3), .map (some m4)] 66 (0, 0)), Mp (Value.int .i64) Value.bool okI m2 bn, Rw 3 1 p n c (zV l), Old w (fps [Ob b (.cells #[.map (some m1), .map (some m2), .map (some m3), .map (some m4)] 66 (0, 0)), Mp (Value.int .i64) Value.bool okI m2 bn, Rw 3 1 p n c (zV l)])] := H0.nilRw 3 1
 refine w_a ?_
 refine w_e ?_
 refine w_s ?_
 refine w_m ?_
 refine l_of (s_call (wt0 rfl) (x_call' rfl rfl cl62) (sortInts_s l p n c hn.symm (by omega) _ (H1.takes [3] (by decide))) ?_)
 rintro _ wq2 ⟨rfl, H3⟩
 replace H3 : S wq2 [Rw 3 1 p n c (zV (sortI l)), Rw 3 1 none 0 0 (zV []), Ob b (.cells #[.map (some m1), .map (some m2), .map (some m3), .map (some m4)] 66 (0, 0)), Mp (Value.int .i64) Value.bool okI m2 bn, Old w (fps [Ob b (.cells #[.map (some m1), .map (some m2), .map (some m3), .map (some m4)] 66 (0, 0)), Mp (Value.int .i64) Value.bool okI m2 bn, Rw 3 1 p n c (zV l)])] := by have h := H1.absorbI [3] H3; exact h
 refine b_ret rfl rfl ?_
 refine w_e ?_
 refine g_seq ?_
 refine w_s ?_
 refine w_m ?_
 refine l_of (s_call (wt0 rfl) (x_call' rfl rfl cl63) (compactInts_s (sortI l) p n c (by rw [sortI_len]; exact hn.symm) (by omega) _ (H3.takes [0] (by decide))) ?_)
 rintro _ wq4 ⟨rfl, H5⟩
 replace H5 : S wq4 [Rw 3 1 p (ascI l).length c (zV (ascI l)), Rw 3 1 none 0 0 (zV []), Ob b (.cells #[.map (some m1), .map (some m2), .map (some m3), .map (some m4)] 66 (0, 0)), Mp (Value.int .i64) Value.bool okI m2 bn, Old w (fps [Ob b (.cells #[.map (some m1), .map (some m2), .map (some m3), .map (some m4)] 66 (0, 0)), Mp (Value.int .i64) Value.bool okI m2 bn, Rw 3 1 p n c (zV l)])] := by have h := H3.absorbI [0] H5; exact h
 refine b_ret rfl rfl ?_
 refine w_v (v := .int .i64 (((ascI l).length : Int))) (x_lenl rfl rfl Try.underlying24) ?_
 refine w_m ?_
 refine w_e ?_
 refine g_block ?_
 refine g_loop (ι := Nat × (Int → Option Bool) × List Int × Option Addr × Nat × Nat) (fun (i, M, out, p2, n2, c2) => [(0, .pointer (some ⟨b, 0, none⟩)), (5, .slice p2 n2 c2), (11, .slice p (ascI l).length c), (12, .int .i64 (((ascI l).length : Int))), (13, .int .i64 ((i : Int)))]) (fun (i, M, out, p2, n2, c2) wx => (i ≤ (ascI l).length) ∧ (n2 = out.length) ∧ (∀ y, (M y).getD false = ((bn y).getD false || decide (y ∈ (ascI l).take i))) ∧ (∀ y v, M y = some v → bn y = some v ∨ (v = true ∧ y ∈ l)) ∧ (out = ((ascI l).take i).filter (fun p => !((bn p).getD false))) ∧ (out.length ≤ i) ∧ S wx [Rw 3 1 p2 n2 c2 (zV out), Ob b (.cells #[.map (some m1), .map (some m2), .map (some m3), .map (some m4)] 66 (0, 0)), Mp (Value.int .i64) Value.bool okI m2 M, Rw 3 1 p (ascI l).length c (zV (ascI l)), Old w (fps [Ob b (.cells #[.map (some m1), .map (some m2), .map (some m3), .map (some m4)] 66 (0, 0)), Mp (Value.int .i64) Value.bool okI m2 bn, Rw 3 1 p n c (zV l)])]) (fun (i, M, out, p2, n2, c2) => (ascI l).length - i) (0, bn, [], none, 0, 0) ⟨rfl, rfl, rfl, rfl, rfl, trivial⟩ ⟨Nat.zero_le _, rfl, (fun y => by simp), (fun y v h => .inl h), rfl, Nat.le_refl _, (H5.takes [1, 2, 3, 0, 4] (by decide))⟩ ?_
 rintro ⟨i, M, out, p2, n2, c2⟩ wq6 ⟨hi, hn2, hM, hV, ho, hol, H7⟩
 refine g_weak [(0, .pointer (some ⟨b, 0, none⟩)), (5, .slice p2 n2 c2), (11, .slice p (ascI l).length c), (12, .int .i64 (((ascI l).length : Int))), (13, .int .i64 ((i : Int)))] ⟨rfl, rfl, rfl, rfl, rfl, trivial⟩ ?_
 refine w_s ?_
 refine w_b ?_
 refine w_e ?_
 refine g_seq ?_
 by_cases hb8 : ((i : Int) : Int) < ((ascI l).length : Int)
 ·
  obtain ⟨x, hx⟩ : ∃ x, (ascI l)[i]? = some x := ⟨_, List.getElem?_eq_getElem (by omega)⟩
  have hok_x : okI x := hl x (ascI_mem.1 (List.mem_of_getElem? hx))
  refine g_cond_t rfl (decide_eq_true hb8) ?_
  refine g_skip ?_
  refine g_then ?_
  refine g_seq ?_
  refine g_block ?_
  refine w_s ?_
  refine w_v (v := .pointer ((p).map fun q => q.add (i * 1))) (x_idxR i (H7.rwReads (k := 3) rfl) rfl rfl rfl Try.underlying24 sz3 (by omega)) ?_
  refine w_v (v := .int .i64 x) (x_loadR1 i (H7.rwReads (k := 3) rfl) (by omega) rfl rfl Try.underlying3 rfl (zV_at hx)) ?_
  refine w_a ?_
  refine w_e ?_
  refine w_s ?_
  refine w_r4 ?_
  refine w_1 H7 1 ?_
  refine w_m ?_
  refine w_v (v := .bool (((M x).getD false))) (ex_cast (x_lookup1 (x := x) (intTy Try.underlying29 Try.underlying3) H7 2 rfl rfl rfl rfl (hok_x) ze4) (look_B _)) ?_
  refine w_v (v := .bool (!(((M x).getD false)))) (x_not (b := ((M x).getD false)) rfl rfl) ?_
  refine w_e ?_
  rcases Bool.eq_false_or_eq_true (((M x).getD false)) with hb9 | hb9
  ·
   refine g_cond_f rfl (neg_of hb9) ?_
   refine g_skip ?_
   refine g_in ?_
   refine g_then ?_
   refine g_weak [(0, .pointer (some ⟨b, 0, none⟩)), (5, .slice p2 n2 c2), (11, .slice p (ascI l).length c), (12, .int .i64 (((ascI l).length : Int))), (13, .int .i64 ((i : Int)))] ⟨rfl, rfl, rfl, rfl, rfl, trivial⟩ ?_
   refine g_region ?_
   refine w_b (v := .int .i64 (((i + 1 : Nat) : Int))) (hb := (b_add (by rw [w64 (by omega)]; omega))) ?_
   refine w_m ?_
   refine w_e ?_
   refine g_round (i := (i, M, out, p2, n2, c2)) ((i + 1), M, out, p2, n2, c2) ?_ ?_ ?_
   · exact ⟨rfl, rfl, rfl, rfl, rfl, trivial⟩
   · exact ⟨by omega, hn2, (ban_skip hx hM hb9), hV, (by rw [filter_snoc hx, if_neg (by rw [(ban_was (ascI_lt l) hx hM), hb9]; decide), List.append_nil]; exact ho), by omega, (H7.takes [0, 1, 2, 3, 4] (by decide))⟩
   · (try dsimp only); omega
  ·
   refine g_cond_t rfl (neg_of hb9) ?_
   refine w_s ?_
   refine w_r4 ?_
   refine w_1 H7 1 ?_
   refine w_m ?_
   refine l_of (s_mapUpdate (x := x) (a := true) (intTy Try.underlying29 Try.underlying3) H7 2 (wt0 rfl) rfl rfl rfl rfl rfl rfl (hok_x) ?_)
   intro wq10 H11
   refine w_e ?_
   refine g_weak [(0, .pointer (some ⟨b, 0, none⟩)), (5, .slice p2 n2 c2), (7, .int .i64 x), (11, .slice p (ascI l).length c), (12, .int .i64 (((ascI l).length : Int))), (13, .int .i64 ((i : Int)))] ⟨rfl, rfl, rfl, rfl, rfl, rfl, trivial⟩ ?_
   refine g_region ?_
   refine w_r2 ?_
   refine l_of (s_buildSlice H11 (wt0 rfl) rfl rfl rfl (vs := [.int .i64 x]) rfl Try.underlying24 sz3 ze3 rfl rfl (cells := #[.int .i64 x]) (by kernel_rfl) ?_)
   intro g12 wq13 H14
   refine l_of (s_appendR (n := n2) (m := 1) (sc := c2) (xs := (zV out)) (news := [.int .i64 x]) (p := p2) (ad := ⟨g12, 0, none⟩) H14 1 (wt0 rfl) rfl rfl rfl rfl rfl rfl Try.underlying24 inf3 rfl (by decide) (by decide) rfl (by decide) (news_ob H14 (j0 := 0) rfl) rfl (by omega) ?_)
   intro p15 c16 wq17 (H18 : S wq17 [Ob g12 (.cells #[.int .i64 x] 3 (0, 0)), Rw 3 1 p15 (n2 + 1) c16 ((zV out) ++ [.int .i64 x]), Ob b (.cells #[.map (some m1), .map (some m2), .map (some m3), .map (some m4)] 66 (0, 0)), Mp (Value.int .i64) Value.bool okI m2 (upM M x true), Rw 3 1 p (ascI l).length c (zV (ascI l)), Old w (fps [Ob b (.cells #[.map (some m1), .map (some m2), .map (some m3), .map (some m4)] 66 (0, 0)), Mp (Value.int .i64) Value.bool okI m2 bn, Rw 3 1 p n c (zV l)])])
   refine w_a ?_
   refine g_nil ?_
   refine g_in ?_
   refine g_then ?_
   refine g_region ?_
   refine w_b (v := .int .i64 (((i + 1 : Nat) : Int))) (hb := (b_add (by rw [w64 (by omega)]; omega))) ?_
   refine w_m ?_
   refine w_e ?_
   rw [← zV_snoc] at H18
   refine g_round (i := (i, M, out, p2, n2, c2)) ((i + 1), (upM M x true), (out ++ [x]), p15, (n2 + 1), c16) ?_ ?_ ?_
   · exact ⟨rfl, rfl, rfl, rfl, rfl, trivial⟩
   · exact ⟨by omega, (by rw [List.length_append, List.length_singleton, hn2]), (ban_next hx hM), (banV_next hx hV), (by rw [filter_snoc hx, if_pos (by rw [(ban_was (ascI_lt l) hx hM), hb9]; rfl), ho]), (by rw [List.length_append, List.length_singleton]; omega), (H18.takes [1, 2, 3, 4, 5] (by decide))⟩
   · (try dsimp only); omega
 ·
  refine g_cond_f rfl (decide_eq_false hb8) ?_
  refine g_exit ?_
  refine g_then_exit ?_
  refine g_then_exit ?_
  refine g_in_hit ?_
  refine g_then ?_
  refine w_s ?_
  refine w_r2 ?_
  refine w_e ?_
  refine g_ret ?_
  refine fin_ret [.tmp 4] [.slice p2 n2 c2] rfl ⟨rfl, trivial⟩ ?_
  have hin : i = (ascI l).length := by omega
  subst hin
  rw [List.take_length] at ho hM
  subst ho
  subst hn2
  exact ⟨M, p2, c2, ⟨fun y => by rw [hM y]; simp only [ascI_mem], hV⟩, rfl, H7.takes [0, 1, 2, 4] (by decide)⟩
set_option maxRecDepth 20000 in
set_option maxHeartbeats 4000000 in
theorem clip_s {p : Option Addr} {n c : Nat} (hc : n ≤ c)  (w : World) : Calls Try.prog 97 #[.slice p n c] w fun e w' => e = .returned (.slice (clipP p n 1) n n) ∧ S w' [Old w no] := by
 have H0 := S.old w
 refine enter 9 Try.func97 rfl rfl rfl ?_
 refine g_weak [(0, .slice p n c)] ⟨rfl, trivial⟩ ?_
 refine w_s ?_
 refine w_a ?_
 refine w_e ?_
 refine w_s ?_
 refine w_r2 ?_
 refine w_v (v := .int .i64 ((n : Int))) (x_lenl rfl rfl Try.underlying67) ?_
 refine w_m ?_
 refine w_v (v := .int .i64 ((n : Int))) (x_lenl rfl rfl Try.underlying67) ?_
 refine w_v (v := .slice (clipP p n 1) n n) (x_clip n n rfl rfl rfl rfl Try.underlying67 sz70 (by omega)) ?_
 refine w_a ?_
 refine w_e ?_
 refine g_ret ?_
 refine fin_ret [.tmp 2] [.slice (clipP p n 1) n n] rfl ⟨rfl, trivial⟩ ?_
 exact ⟨rfl, H0.mask [true]⟩
theorem mpL_len (l : List Nat) : (l.flatMap mpL).length = l.length := by
  induction l with
  | nil => rfl
  | cons a l ih => rw [List.flatMap_cons, List.length_append, ih, List.length_cons]; show 1 + l.length = _; omega
theorem mpL_drop (l : List Nat) (k : Nat) : (l.flatMap mpL).drop k = (l.drop k).flatMap mpL := by
  have e : ∀ l : List Nat, l.flatMap mpL = l.map mpV := fun l => by
    induction l with
    | nil => rfl
    | cons a l ih => rw [List.flatMap_cons, ih]; rfl
  rw [e, e, List.map_drop]
theorem S.ob1 {w : World} {L : List Item} {j0 g e : Nat} {v : Value} (H : S w L) (hk : L[j0]? = some (Ob g (.cells #[v] e (0, 0)))) : Reads w (some ⟨g, 0, none⟩) 1 1 1 [v] :=
  ⟨rfl, Nat.le_refl _, fun _ => ⟨_, rfl, fun j u hu => news_ob H hk j u hu⟩⟩
theorem score_next {M sc : Int → Option Int} {l : List Int} {i : Nat} {x : Int} (hl : l.Pairwise (· < ·)) (hx : l[i]? = some x) (h : ∀ y, (M y).getD 0 = if y ∈ l.take i then IntKind.i64.wrap ((sc y).getD 0 + 1) else (sc y).getD 0) : ∀ y, (upM M x (IntKind.i64.wrap ((M x).getD 0 + 1)) y).getD 0 = if y ∈ l.take (i + 1) then IntKind.i64.wrap ((sc y).getD 0 + 1) else (sc y).getD 0 := fun y => by
  rw [take_snoc hx]
  unfold upM
  by_cases e : y = x
  · subst e
    rw [if_pos rfl, Option.getD_some, h, if_neg (not_before hl hx), if_pos (by simp)]
  · rw [if_neg e, h]
    by_cases e2 : y ∈ l.take i
    · rw [if_pos e2, if_pos (List.mem_append_left _ e2)]
    · rw [if_neg e2, if_neg (by simp [e, e2])]
set_option maxRecDepth 20000 in
set_option maxHeartbeats 4000000 in
theorem fails_s {b m1 m2 m3 m4 : Nat} {sc : Int → Option Int} {nw : Int → Option Nat} {od : Int → Option (Ro Nat)} {rs : List (Ro Nat)} {ms : List Nat} {ct : Nat → Tr} (hB : BI nw od rs ms ct) {i0 : Int} {m : Nat} (hok_i0 : okI i0) (hn : nw i0 = some m)  (w : World) (HS : S w [Ob b (.cells #[.map (some m1), .map (some m2), .map (some m3), .map (some m4)] 66 (0, 0)), Mp (Value.int .i64) (Value.int .i64) okI m1 sc, Mp (Value.int .i64) mpV okI m3 nw, Mp (Value.int .i64) roV okI m4 od, FamM spK snV okP ms ct, RowsI 70 1 mpL rs]) : Calls Try.prog 80 #[.pointer (some ⟨b, 0, none⟩), .int .i64 i0] w fun e w' => ∃ sc' r' pz cz, (∀ y, (sc' y).getD 0 = if y ∈ (whoL (ct m)) then IntKind.i64.wrap ((sc y).getD 0 + 1) else (sc y).getD 0) ∧ r'.l = lastTen (odR od i0 ++ [m]) ∧ e = .returned (.slice pz (failL (ct m)).length cz) ∧ S w' ([Rw 3 1 pz (failL (ct m)).length cz (zV (failL (ct m))), Ob b (.cells #[.map (some m1), .map (some m2), .map (some m3), .map (some m4)] 66 (0, 0)), Mp (Value.int .i64) (Value.int .i64) okI m1 sc', Mp (Value.int .i64) mpV okI m3 nw, Mp (Value.int .i64) roV okI m4 (upM od i0 r'), FamM spK snV okP ms ct, RowsI 70 1 mpL (rs ++ [r'])] ++ [Old w (fps [Ob b (.cells #[.map (some m1), .map (some m2), .map (some m3), .map (some m4)] 66 (0, 0)), Mp (Value.int .i64) (Value.int .i64) okI m1 sc, Mp (Value.int .i64) mpV okI m3 nw, Mp (Value.int .i64) roV okI m4 od, FamM spK snV okP ms ct, RowsI 70 1 mpL rs])]) := by
 have H0 := HS.beginI
 have hwl := (hB.tok m (hB.nwm i0 m hn)).whoLen
 have hol : (roO (od i0)).l.length ≤ 10 := by have := hB.odLen i0; rwa [odR_eq] at this
 refine enter 59 Try.func80 rfl rfl rfl ?_
 refine g_weak [(0, .pointer (some ⟨b, 0, none⟩)), (1, .int .i64 i0)] ⟨rfl, rfl, trivial⟩ ?_
 refine w_s ?_
 refine w_a ?_
 refine w_e ?_
 refine w_s ?_
 refine w_r3 ?_
 refine w_1 H0 0 ?_
 refine w_m ?_
 refine w_v (v := .map (some m)) (ex_cast (x_lookup1 (x := i0) (intTy Try.underlying63 Try.underlying3) H0 2 rfl rfl rfl rfl (hok_i0) ze70) ((look_M _).trans (by rw [hn]))) ?_
 refine w_a ?_
 refine w_e ?_
 refine w_s ?_
 refine w_m ?_
 refine l_of (s_call (wt0 rfl) (x_call' rfl rfl cl37) (all_s _ _) ?_)
 rintro _ wq2 ⟨b1, rfl, H3⟩
 replace H3 : S wq2 [Ob b1 (.cells #[.map (some m)] 70 (0, 0)), Ob b (.cells #[.map (some m1), .map (some m2), .map (some m3), .map (some m4)] 66 (0, 0)), Mp (Value.int .i64) (Value.int .i64) okI m1 sc, Mp (Value.int .i64) mpV okI m3 nw, Mp (Value.int .i64) roV okI m4 od, FamM spK snV okP ms ct, RowsI 70 1 mpL rs, Old w (fps [Ob b (.cells #[.map (some m1), .map (some m2), .map (some m3), .map (some m4)] 66 (0, 0)), Mp (Value.int .i64) (Value.int .i64) okI m1 sc, Mp (Value.int .i64) mpV okI m3 nw, Mp (Value.int .i64) roV okI m4 od, FamM spK snV okP ms ct, RowsI 70 1 mpL rs])] := H0.absorb (new := [Ob b1 (.cells #[.map (some m)] 70 (0, 0))]) H3
 refine b_ret rfl rfl ?_
 refine l_of (s_call (wt0 rfl) (x_call' rfl rfl cl36) (collect_t (mo := (some m)) (fun m2 h2 => by cases h2; exact hB.nwm i0 m hn) hB.tok _ (H3.takes [0, 5] (by decide))) ?_)
 rintro _ wq6 ⟨p4, c5, rfl, H7⟩
 replace H7 : S wq6 [Rw 3 1 p4 (whoL (ct m)).length c5 (zV (whoL (ct m))), FamM spK snV okP ms ct, Ob b (.cells #[.map (some m1), .map (some m2), .map (some m3), .map (some m4)] 66 (0, 0)), Mp (Value.int .i64) (Value.int .i64) okI m1 sc, Mp (Value.int .i64) mpV okI m3 nw, Mp (Value.int .i64) roV okI m4 od, RowsI 70 1 mpL rs, Old w (fps [Ob b (.cells #[.map (some m1), .map (some m2), .map (some m3), .map (some m4)] 66 (0, 0)), Mp (Value.int .i64) (Value.int .i64) okI m1 sc, Mp (Value.int .i64) mpV okI m3 nw, Mp (Value.int .i64) roV okI m4 od, FamM spK snV okP ms ct, RowsI 70 1 mpL rs])] := by have h := H3.absorbI [0, 5] H7; exact h
 refine b_ret rfl rfl ?_
 refine w_a ?_
 refine w_e ?_
 refine g_seq ?_
 refine w_s ?_
 refine w_m ?_
 refine w_v (v := .int .i64 (((whoL (ct m)).length : Int))) (x_lenl rfl rfl Try.underlying24) ?_
 refine w_m ?_
 refine w_e ?_
 refine g_block ?_
 refine g_loop (ι := Nat × (Int → Option Int)) (fun (i, M) => [(0, .pointer (some ⟨b, 0, none⟩)), (1, .int .i64 i0), (5, .map (some m)), (6, .slice p4 (whoL (ct m)).length c5), (19, .slice p4 (whoL (ct m)).length c5), (20, .int .i64 (((whoL (ct m)).length : Int))), (21, .int .i64 ((i : Int)))]) (fun (i, M) wx => (i ≤ (whoL (ct m)).length) ∧ (∀ y, (M y).getD 0 = if y ∈ (whoL (ct m)).take i then IntKind.i64.wrap ((sc y).getD 0 + 1) else (sc y).getD 0) ∧ S wx [Rw 3 1 p4 (whoL (ct m)).length c5 (zV (whoL (ct m))), FamM spK snV okP ms ct, Ob b (.cells #[.map (some m1), .map (some m2), .map (some m3), .map (some m4)] 66 (0, 0)), Mp (Value.int .i64) (Value.int .i64) okI m1 M, Mp (Value.int .i64) mpV okI m3 nw, Mp (Value.int .i64) roV okI m4 od, RowsI 70 1 mpL rs, Old w (fps [Ob b (.cells #[.map (some m1), .map (some m2), .map (some m3), .map (some m4)] 66 (0, 0)), Mp (Value.int .i64) (Value.int .i64) okI m1 sc, Mp (Value.int .i64) mpV okI m3 nw, Mp (Value.int .i64) roV okI m4 od, FamM spK snV okP ms ct, RowsI 70 1 mpL rs])]) (fun (i, M) => (whoL (ct m)).length - i) (0, sc) ⟨rfl, rfl, rfl, rfl, rfl, rfl, rfl, trivial⟩ ⟨Nat.zero_le _, (fun y => by simp), (H7.takes [0, 1, 2, 3, 4, 5, 6, 7] (by decide))⟩ ?_
 rintro ⟨i, M⟩ wq8 ⟨hi, hM, H9⟩
 refine g_weak [(0, .pointer (some ⟨b, 0, none⟩)), (1, .int .i64 i0), (5, .map (some m)), (6, .slice p4 (whoL (ct m)).length c5), (19, .slice p4 (whoL (ct m)).length c5), (20, .int .i64 (((whoL (ct m)).length : Int))), (21, .int .i64 ((i : Int)))] ⟨rfl, rfl, rfl, rfl, rfl, rfl, rfl, trivial⟩ ?_
 refine w_s ?_
 refine w_b ?_
 refine w_e ?_
 refine g_seq ?_
 by_cases hb10 : ((i : Int) : Int) < ((whoL (ct m)).length : Int)
 ·
  obtain ⟨x, hx⟩ : ∃ x, (whoL (ct m))[i]? = some x := ⟨_, List.getElem?_eq_getElem (by omega)⟩
  have hok_x : okI x := okI_in ((hB.tok m (hB.nwm i0 m hn)).whoIn (List.mem_of_getElem? hx))
  refine g_cond_t rfl (decide_eq_true hb10) ?_
  refine g_skip ?_
  refine g_then ?_
  refine g_seq ?_
  refine g_block ?_
  refine w_s ?_
  refine w_v (v := .pointer ((p4).map fun q => q.add (i * 1))) (x_idxR i (H9.rwReads (k := 0) rfl) rfl rfl rfl Try.underlying24 sz3 (by omega)) ?_
  refine w_v (v := .int .i64 x) (x_loadR1 i (H9.rwReads (k := 0) rfl) (by omega) rfl rfl Try.underlying3 rfl (zV_at hx)) ?_
  refine w_a ?_
  refine w_e ?_
  refine g_region ?_
  refine w_r4 ?_
  refine w_1 H9 2 ?_
  refine w_m ?_
  refine w_v (v := .int .i64 (((M x).getD 0))) (ex_cast (x_lookup1 (x := x) (intTy Try.underlying60 Try.underlying3) H9 3 rfl rfl rfl rfl (hok_x) ze3) (look_I _)) ?_
  refine w_b (v := .int .i64 (IntKind.i64.wrap (((M x).getD 0) + 1))) (hb := (b_add rfl)) ?_
  refine l_of (s_mapUpdate (x := x) (a := IntKind.i64.wrap (((M x).getD 0) + 1)) (intTy Try.underlying60 Try.underlying3) H9 3 (wt0 rfl) rfl rfl rfl rfl rfl rfl (hok_x) ?_)
  intro wq11 H12
  refine g_nil ?_
  refine g_in ?_
  refine g_then ?_
  refine g_weak [(0, .pointer (some ⟨b, 0, none⟩)), (1, .int .i64 i0), (5, .map (some m)), (6, .slice p4 (whoL (ct m)).length c5), (19, .slice p4 (whoL (ct m)).length c5), (20, .int .i64 (((whoL (ct m)).length : Int))), (21, .int .i64 ((i : Int)))] ⟨rfl, rfl, rfl, rfl, rfl, rfl, rfl, trivial⟩ ?_
  refine g_region ?_
  refine w_b (v := .int .i64 (((i + 1 : Nat) : Int))) (hb := (b_add (by rw [w64 (by omega)]; omega))) ?_
  refine w_m ?_
  refine w_e ?_
  refine g_round (i := (i, M)) ((i + 1), (upM M x (IntKind.i64.wrap (((M x).getD 0) + 1)))) ?_ ?_ ?_
  · exact ⟨rfl, rfl, rfl, rfl, rfl, rfl, rfl, trivial⟩
  · exact ⟨by omega, (score_next (hB.tok m (hB.nwm i0 m hn)).who.1 hx hM), (H12.takes [0, 1, 2, 3, 4, 5, 6, 7] (by decide))⟩
  · (try dsimp only); omega
 ·
  refine g_cond_f rfl (decide_eq_false hb10) ?_
  refine g_exit ?_
  refine g_then_exit ?_
  refine g_then_exit ?_
  refine g_in_hit ?_
  refine g_then ?_
  refine w_s ?_
  refine w_r3 ?_
  refine w_1 H9 2 ?_
  refine w_m ?_
  refine w_v (v := .slice (roO (od i0)).p (roO (od i0)).l.length (roO (od i0)).c) (ex_cast (x_lookup1 (x := i0) (intTy Try.underlying64 Try.underlying3) H9 5 rfl rfl rfl rfl (hok_i0) ze67) (look_R _)) ?_
  have hOR := (ro_reads (H9.at (k := 6) rfl) (hB.roO i0))
  have hOc := hOR.2.1
  refine l_of (s_call0 H9 (wt0 rfl) (x_call' rfl rfl cl97) (clip_s (p := (roO (od i0)).p) (n := (roO (od i0)).l.length) (c := (roO (od i0)).c) hOc _) rfl rfl ?_)
  intro wq13 H14
  refine w_m ?_
  refine l_of (s_buildSlice H14 (wt0 rfl) rfl rfl rfl (vs := [.map (some m)]) rfl Try.underlying67 sz70 ze70 rfl rfl (cells := #[.map (some m)]) (by kernel_rfl) ?_)
  intro g15 wq16 H17
  refine l_of (s_appendNew (n := (roO (od i0)).l.length) (m := 1) (news := [.map (some m)]) (ad := ⟨g15, 0, none⟩) H17 (wt0 rfl) rfl rfl rfl rfl rfl (by have h9 := (ro_reads (H17.at (k := 7) rfl) (hB.roO i0)).clip (roO (od i0)).l.length (Nat.le_refl _); rwa [List.take_of_length_le (by rw [mpL_len, Nat.mul_one]; exact Nat.le_refl _)] at h9) Try.underlying67 inf70 rfl (by decide) (by decide) (H17.ob1 (j0 := 0) rfl) (by decide) rfl (by omega) ?_)
  intro p9 c9 wq18 H19
  refine w_a ?_
  refine w_e ?_
  refine g_weak [(0, .pointer (some ⟨b, 0, none⟩)), (1, .int .i64 i0), (6, .slice p4 (whoL (ct m)).length c5), (9, .slice p9 ((roO (od i0)).l.length + 1) c9)] ⟨rfl, rfl, rfl, rfl, trivial⟩ ?_
  refine g_seq ?_
  obtain ⟨r9, hr9d⟩ : ∃ r9 : Ro Nat, r9 = ⟨cutP p9 ((roO (od i0)).l.length + 1 - 10) c9 1, c9 - ((roO (od i0)).l.length + 1 - 10), lastTen ((roO (od i0)).l ++ [m])⟩ := ⟨_, rfl⟩
  have hr9 : roV r9 = .slice (cutP p9 ((roO (od i0)).l.length + 1 - 10) c9 1) ((roO (od i0)).l.length + 1 - ((roO (od i0)).l.length + 1 - 10)) (c9 - ((roO (od i0)).l.length + 1 - 10)) := by rw [hr9d]; unfold roV lastTen; simp only [List.length_drop, List.length_append, List.length_singleton]
  refine g_any [] (fun wx => S wx [Ob b (.cells #[.map (some m1), .map (some m2), .map (some m3), .map (some m4)] 66 (0, 0))]) [11] (by kernel_rfl) H19 (fun wq20 H21 => ?_)
  have cm1 := H21.mask [false, false, false, false, true, false, false, false, false, false]
  refine w_t 0 rfl cm1 (fun _ _ => xm) ?_
  refine w_t 1 rfl cm1 (fun _ _ => xn) ?_
  refine w_t 2 rfl cm1 (fun _ _ => xf 3) ?_
  refine w_t 3 rfl cm1 (fun _ H => xl H 0) ?_
  refine w_t 4 rfl cm1 (fun _ _ => xm) ?_
  refine w_t 5 rfl cm1 (fun _ _ => xm) ?_
  refine w_t 6 rfl cm1 (fun _ _ => xm) ?_
  refine w_t (v := .int .i64 ((((roO (od i0)).l.length + 1) : Int))) 7 rfl cm1 (fun _ _ => x_lenl rfl rfl Try.underlying67) ?_
  refine w_t (v := .int .i64 ((((roO (od i0)).l.length + 1) : Int) - 10)) 8 rfl cm1 (fun _ _ => x_bin rfl rfl rfl (b_sub (w64 (by omega)))) ?_
  refine w_t (v := .int .i64 (((((roO (od i0)).l.length + 1 - 10 : Nat) : Int)))) 9 rfl cm1 (fun _ _ => ex_cast (x_max rfl rfl rfl) (by show Value.int .i64 _ = _; congr 1; omega)) ?_
  refine w_t (v := roV r9) 10 rfl cm1 (fun _ _ => ex_cast (x_cut ((roO (od i0)).l.length + 1 - 10) rfl rfl rfl Try.underlying67 sz70 (by omega)) hr9.symm) ?_
  refine a_one (i := 11) (by kernel_rfl) rfl ?_
  refine s_mapUpdate (x := i0) (a := r9) (intTy Try.underlying64 Try.underlying3) H21 7 (wt0 rfl) rfl rfl rfl rfl rfl rfl (hok_i0) ?_
  intro wq22 H23
  refine a_kt rfl ?_
  refine a_done (by kernel_rfl) ?_
  refine g_then ?_
  refine g_weak [(6, .slice p4 (whoL (ct m)).length c5)] ⟨rfl, trivial⟩ ?_
  refine g_seq ?_
  refine w_s ?_
  refine w_m ?_
  refine w_v (v := .int .i64 (((whoL (ct m)).length : Int))) (x_lenl rfl rfl Try.underlying24) ?_
  refine w_b ?_
  refine w_e ?_
  by_cases hb24 : (1 : Int) < ((whoL (ct m)).length : Int)
  ·
   refine g_cond_t rfl (decide_eq_true hb24) ?_
   refine w_s ?_
   refine w_a ?_
   refine w_e ?_
   refine g_ret ?_
   refine g_then_ret ?_
   refine fin_ret [.tmp 4] [.slice none 0 0] rfl ⟨rfl, trivial⟩ ?_
   have H25 := (H23.rwDrop (k := 0) rfl ((roO (od i0)).l.length + 1 - 10) (by omega)).takes [8, 0, 1, 2, 3, 4, 5, 6, 7, 9] (by decide)
   have H26 : S wq22 [RowsI 70 1 mpL rs, roI 70 1 mpL r9, Ob g15 (.cells #[.map (some m)] 70 (0, 0)), Rw 3 1 p4 (whoL (ct m)).length c5 (zV (whoL (ct m))), FamM spK snV okP ms ct, Ob b (.cells #[.map (some m1), .map (some m2), .map (some m3), .map (some m4)] 66 (0, 0)), Mp (Value.int .i64) (Value.int .i64) okI m1 M, Mp (Value.int .i64) mpV okI m3 nw, Mp (Value.int .i64) roV okI m4 (upM od i0 r9), Old w (fps [Ob b (.cells #[.map (some m1), .map (some m2), .map (some m3), .map (some m4)] 66 (0, 0)), Mp (Value.int .i64) (Value.int .i64) okI m1 sc, Mp (Value.int .i64) mpV okI m3 nw, Mp (Value.int .i64) roV okI m4 od, FamM spK snV okP ms ct, RowsI 70 1 mpL rs])] := by
    have e1 : roI 70 1 mpL r9 = Rw 70 1 (cutP p9 ((roO (od i0)).l.length + 1 - 10) c9 1) ((roO (od i0)).l.length + 1 - ((roO (od i0)).l.length + 1 - 10)) (c9 - ((roO (od i0)).l.length + 1 - 10)) (((roO (od i0)).l.flatMap mpL ++ [Value.map (some m)]).drop (((roO (od i0)).l.length + 1 - 10) * 1)) := by
     have e2 : (roO (od i0)).l.flatMap mpL ++ [Value.map (some m)] = ((roO (od i0)).l ++ [m]).flatMap mpL := by rw [List.flatMap_append]; rfl
     rw [e2, Nat.mul_one, mpL_drop, hr9d]; unfold roI lastTen; simp only [List.length_drop, List.length_append, List.length_singleton]
    rw [e1]; exact H25
   have H27 := S.rowsSnoc H26
   have hin : i = (whoL (ct m)).length := by omega
   subst hin
   rw [List.take_length] at hM
   have hr9l : r9.l = lastTen (odR od i0 ++ [m]) := by rw [hr9d, odR_eq]
   have H28 := H27.nilRw 3 1
   exact ⟨M, r9, none, 0, hM, hr9l, by rw [show failL (ct m) = [] from if_neg (by omega)]; rfl, by rw [show failL (ct m) = [] from if_neg (by omega)]; exact H28.takes [0, 5, 6, 7, 8, 4, 1, 9] (by decide)⟩
  ·
   refine g_cond_f rfl (decide_eq_false hb24) ?_
   refine g_skip ?_
   refine g_then ?_
   refine w_s ?_
   refine w_r2 ?_
   refine w_e ?_
   refine g_ret ?_
   refine fin_ret [.tmp 4] [.slice p4 (whoL (ct m)).length c5] rfl ⟨rfl, trivial⟩ ?_
   have H29 := (H23.rwDrop (k := 0) rfl ((roO (od i0)).l.length + 1 - 10) (by omega)).takes [8, 0, 1, 2, 3, 4, 5, 6, 7, 9] (by decide)
   have H30 : S wq22 [RowsI 70 1 mpL rs, roI 70 1 mpL r9, Ob g15 (.cells #[.map (some m)] 70 (0, 0)), Rw 3 1 p4 (whoL (ct m)).length c5 (zV (whoL (ct m))), FamM spK snV okP ms ct, Ob b (.cells #[.map (some m1), .map (some m2), .map (some m3), .map (some m4)] 66 (0, 0)), Mp (Value.int .i64) (Value.int .i64) okI m1 M, Mp (Value.int .i64) mpV okI m3 nw, Mp (Value.int .i64) roV okI m4 (upM od i0 r9), Old w (fps [Ob b (.cells #[.map (some m1), .map (some m2), .map (some m3), .map (some m4)] 66 (0, 0)), Mp (Value.int .i64) (Value.int .i64) okI m1 sc, Mp (Value.int .i64) mpV okI m3 nw, Mp (Value.int .i64) roV okI m4 od, FamM spK snV okP ms ct, RowsI 70 1 mpL rs])] := by
    have e1 : roI 70 1 mpL r9 = Rw 70 1 (cutP p9 ((roO (od i0)).l.length + 1 - 10) c9 1) ((roO (od i0)).l.length + 1 - ((roO (od i0)).l.length + 1 - 10)) (c9 - ((roO (od i0)).l.length + 1 - 10)) (((roO (od i0)).l.flatMap mpL ++ [Value.map (some m)]).drop (((roO (od i0)).l.length + 1 - 10) * 1)) := by
     have e2 : (roO (od i0)).l.flatMap mpL ++ [Value.map (some m)] = ((roO (od i0)).l ++ [m]).flatMap mpL := by rw [List.flatMap_append]; rfl
     rw [e2, Nat.mul_one, mpL_drop, hr9d]; unfold roI lastTen; simp only [List.length_drop, List.length_append, List.length_singleton]
    rw [e1]; exact H29
   have H31 := S.rowsSnoc H30
   have hin : i = (whoL (ct m)).length := by omega
   subst hin
   rw [List.take_length] at hM
   have hr9l : r9.l = lastTen (odR od i0 ++ [m]) := by rw [hr9d, odR_eq]
   exact ⟨M, r9, p4, c5, hM, hr9l, by rw [show failL (ct m) = (whoL (ct m)) from if_pos (by omega)]; rfl, by rw [show failL (ct m) = (whoL (ct m)) from if_pos (by omega)]; exact H31.takes [2, 4, 5, 6, 7, 3, 0, 8] (by decide)⟩
end Go.Proofs.Ytlikhpfdncidkaa
