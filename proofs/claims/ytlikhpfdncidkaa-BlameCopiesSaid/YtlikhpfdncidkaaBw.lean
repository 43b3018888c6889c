import Derived.Test.YtlikhpfdncidkaaFk
import Derived.Test.YtlikhpfdncidkaaBv
set_option linter.unusedSimpArgs false
set_option linter.unusedVariables false
namespace Go.Proofs.Ytlikhpfdncidkaa
open Go.RowKit

theorem cl35 : callable Try.prog 35 = true := by kernel_rfl
theorem cl38 : callable Try.prog 38 = true := by kernel_rfl
theorem cl66 : callable Try.prog 66 = true := by kernel_rfl
theorem cl80 : callable Try.prog 80 = true := by kernel_rfl
theorem cl81 : callable Try.prog 81 = true := by kernel_rfl
theorem sz104 : szO Try.prog 104 = some 1 := by kernel_rfl
theorem sz105 : szO Try.prog 105 = some 2 := by kernel_rfl
theorem ze105 : zeO Try.prog 105 = some (.agg #[.nilFunc, .nilFunc]) := by kernel_rfl
theorem some_of {nw : Int → Option Nat} {ct : Nat → Tr} {i : Int} {n : Nat} (hk : KN okP (tryOf ct (nw i)) n) (h : ¬ (n : Int) = 0) : ∃ m, nw i = some m := by
  cases hq : nw i with
  | none =>
    rw [hq] at hk
    exact absurd ((len_B tok_none hk).2 fun _ => rfl) (by omega)
  | some m => exact ⟨m, rfl⟩
theorem ex_of_len {t : Tr} (ht : Tok t) {n : Nat} (hk : KN okP t n) (h : ¬ (n : Int) = 0) : ∃ s, ¬ t s = none := Classical.byContradiction fun hc => h (by
  have := (len_B ht hk).2 fun s => Classical.byContradiction fun h2 => hc ⟨s, h2⟩
  omega)
theorem blockB_true {p i b l : Int} (h : (peerB p && blockB i b l) = true) : (1 ≤ p ∧ p ≤ 1000) ∧ (0 ≤ i ∧ i < 4096) ∧ (0 ≤ b ∧ b ≤ 1024 ∧ 1 ≤ l ∧ l ≤ 1024) := by
  unfold peerB blockB pieceB at h
  simp only [Bool.and_eq_true, decide_eq_true_eq] at h
  omega
theorem failL_in {t : Tr} (h : Tok t) {x : Int} (hx : x ∈ failL t) : 1 ≤ x ∧ x ≤ 1000 := by
  unfold failL at hx
  split at hx
  · exact h.whoIn hx
  · cases hx
theorem failL_len (t : Tr) : (failL t).length ≤ 1 := by
  unfold failL
  split
  · assumption
  · exact Nat.zero_le _
theorem newL_one {bn : Int → Option Bool} {p : Int} : decide ((0 : Int) < ((newL bn [p]).length : Int)) = !((bn p).getD false) := by
  have : ascI [p] = [p] := ascI_of (List.pairwise_singleton ..) fun _ => Iff.rfl
  unfold newL
  rw [this]
  cases h : (bn p).getD false <;> simp [h]
set_option maxRecDepth 20000 in
set_option maxHeartbeats 4000000 in
theorem ends_s  (w : World) : Calls Try.prog 66 #[] w fun e w' => e = .returned (.agg #[.func (.func 80) #[] #[], .func (.func 81) #[] #[]]) ∧ S w' [Old w no] := by
 have H0 := S.old w
 refine enter 2 Try.func66 rfl rfl rfl ?_
 refine g_weak [] trivial ?_
 refine w_s ?_
 refine l_of (s_alloc H0 (wt0 rfl) rfl rfl rfl ze105 ?_)
 intro g1 wq2 H3
 refine w_e ?_
 refine w_s ?_
 refine w_v (v := .agg #[.func (.func 80) #[] #[], .func (.func 81) #[] #[]]) (x_build (vs := [.func (.func 80) #[] #[], .func (.func 81) #[] #[]]) rfl rfl (cells := #[.func (.func 80) #[] #[], .func (.func 81) #[] #[]]) (by kernel_rfl)) ?_
 refine l_of (w_st #[.func (.func 80) #[] #[], .func (.func 81) #[] #[]] H3 0 ?_)
 intro wq4 H5
 refine w_e ?_
 refine g_ret ?_
 refine fin_ret [.cell 0 105] [.agg #[.func (.func 80) #[] #[], .func (.func 81) #[] #[]]] rfl ⟨⟨_, rfl, run_loadA (H5.ob (k := 0) rfl) Try.underlying105 rfl sz105 rfl rfl⟩, trivial⟩ ?_
 exact ⟨rfl, H5.mask [false, true]⟩
set_option maxRecDepth 20000 in
set_option maxHeartbeats 4000000 in
theorem endF_s {b m1 m2 m3 m4 : Nat} {sc : Int → Option Int} {bn : Int → Option Bool} {nw : Int → Option Nat} {od : Int → Option (Ro Nat)} {rs : List (Ro Nat)} {ms : List Nat} {ct : Nat → Tr} (hB : BI nw od rs ms ct) {i : Int} (hok_i : okI i)  (w : World) (HS : S w [Ob b (.cells #[.map (some m1), .map (some m2), .map (some m3), .map (some m4)] 66 (0, 0)), Mp (Value.int .i64) (Value.int .i64) okI m1 sc, Mp (Value.int .i64) Value.bool okI m2 bn, Mp (Value.int .i64) mpV okI m3 nw, Mp (Value.int .i64) roV okI m4 od, FamM spK snV okP ms ct, RowsI 70 1 mpL rs]) : Calls Try.prog 38 #[.pointer (some ⟨b, 0, none⟩), .int .i64 i, .int .i64 0] w fun e w' => (pieceB i = false ∧ e = .returned (.tuple #[.slice none 0 0, .int .i64 7]) ∧ S w' ([Ob b (.cells #[.map (some m1), .map (some m2), .map (some m3), .map (some m4)] 66 (0, 0)), Mp (Value.int .i64) (Value.int .i64) okI m1 sc, Mp (Value.int .i64) Value.bool okI m2 bn, Mp (Value.int .i64) mpV okI m3 nw, Mp (Value.int .i64) roV okI m4 od, FamM spK snV okP ms ct, RowsI 70 1 mpL rs] ++ [Old w (fps [Ob b (.cells #[.map (some m1), .map (some m2), .map (some m3), .map (some m4)] 66 (0, 0)), Mp (Value.int .i64) (Value.int .i64) okI m1 sc, Mp (Value.int .i64) Value.bool okI m2 bn, Mp (Value.int .i64) mpV okI m3 nw, Mp (Value.int .i64) roV okI m4 od, FamM spK snV okP ms ct, RowsI 70 1 mpL rs])])) ∨ (pieceB i = true ∧ (∀ s, tryOf ct (nw i) s = none) ∧ e = .returned (.tuple #[.slice none 0 0, .int .i64 8]) ∧ S w' ([Ob b (.cells #[.map (some m1), .map (some m2), .map (some m3), .map (some m4)] 66 (0, 0)), Mp (Value.int .i64) (Value.int .i64) okI m1 sc, Mp (Value.int .i64) Value.bool okI m2 bn, Mp (Value.int .i64) mpV okI m3 nw, Mp (Value.int .i64) roV okI m4 od, FamM spK snV okP ms ct, RowsI 70 1 mpL rs] ++ [Old w (fps [Ob b (.cells #[.map (some m1), .map (some m2), .map (some m3), .map (some m4)] 66 (0, 0)), Mp (Value.int .i64) (Value.int .i64) okI m1 sc, Mp (Value.int .i64) Value.bool okI m2 bn, Mp (Value.int .i64) mpV okI m3 nw, Mp (Value.int .i64) roV okI m4 od, FamM spK snV okP ms ct, RowsI 70 1 mpL rs])])) ∨ (pieceB i = true ∧ ∃ m sc' bn' r' p2 c2, nw i = some m ∧ (∃ s, ¬ ct m s = none) ∧ (∀ y, (sc' y).getD 0 = if y ∈ whoL (ct m) then IntKind.i64.wrap ((sc y).getD 0 + 1) else (sc y).getD 0) ∧ BanTo bn bn' (failL (ct m)) ∧ r'.l = lastTen (odR od i ++ [m]) ∧ e = .returned (.tuple #[.slice p2 (newL bn (failL (ct m))).length c2, .int .i64 0]) ∧ S w' ([Rw 3 1 p2 (newL bn (failL (ct m))).length c2 (zV (newL bn (failL (ct m)))), Ob b (.cells #[.map (some m1), .map (some m2), .map (some m3), .map (some m4)] 66 (0, 0)), Mp (Value.int .i64) (Value.int .i64) okI m1 sc', Mp (Value.int .i64) Value.bool okI m2 bn', Mp (Value.int .i64) mpV okI m3 (delM nw i), Mp (Value.int .i64) roV okI m4 (upM od i r'), FamM spK snV okP ms ct, RowsI 70 1 mpL (rs ++ [r'])] ++ [Old w (fps [Ob b (.cells #[.map (some m1), .map (some m2), .map (some m3), .map (some m4)] 66 (0, 0)), Mp (Value.int .i64) (Value.int .i64) okI m1 sc, Mp (Value.int .i64) Value.bool okI m2 bn, Mp (Value.int .i64) mpV okI m3 nw, Mp (Value.int .i64) roV okI m4 od, FamM spK snV okP ms ct, RowsI 70 1 mpL rs])])) := by
 have H0 := HS.beginI
 refine enter 39 Try.func38 rfl rfl rfl ?_
 refine g_weak [(0, .pointer (some ⟨b, 0, none⟩)), (1, .int .i64 i), (2, .int .i64 0)] ⟨rfl, rfl, rfl, trivial⟩ ?_
 refine w_s ?_
 refine w_r2 ?_
 refine w_e ?_
 refine g_seq ?_
 refine g_block ?_
 refine w_s ?_
 refine w_m ?_
 refine w_b (v := .bool false) (hb := (b_eqN (r := false) Try.underlying28 rfl)) ?_
 refine w_a ?_
 refine w_e ?_
 refine g_cond_f rfl rfl ?_
 refine w_s ?_
 refine w_m ?_
 refine l_of (s_call0 H0 (wt0 rfl) (x_call' rfl rfl cl39) (piece_s _ _) rfl rfl ?_)
 intro wq1 H2
 refine w_v (v := .bool (!((pieceB i)))) (x_not (b := (pieceB i)) rfl rfl) ?_
 refine w_a ?_
 refine w_e ?_
 rcases Bool.eq_false_or_eq_true ((pieceB i)) with hb3 | hb3
 ·
  refine g_cond_f rfl (neg_of hb3) ?_
  refine w_s ?_
  refine w_r3 ?_
  refine w_1 H2 0 ?_
  refine w_m ?_
  refine w_v (v := .map (nw i)) (ex_cast (x_lookup1 (x := i) (intTy Try.underlying63 Try.underlying3) H2 3 rfl rfl rfl rfl (hok_i) ze70) (look_M _)) ?_
  refine l_of (s_lenTry H2 5 (wt0 rfl) rfl rfl rfl (hB.nwm i) rfl rfl Try.underlying70 ?_)
  intro nk hnk
  refine w_b ?_
  refine w_a ?_
  refine w_e ?_
  refine g_weak [(0, .pointer (some ⟨b, 0, none⟩)), (1, .int .i64 i), (2, .int .i64 0), (16, .bool (decide (((nk : Int) : Int) = 0)))] ⟨rfl, rfl, rfl, rfl, trivial⟩ ?_
  by_cases hb4 : ((nk : Int) : Int) = 0
  ·
   have hem := (len_B (hB.tokN i) hnk).1 (by omega)
   refine g_cond_t rfl (decide_eq_true hb4) ?_
   refine w_s ?_
   refine w_r2 ?_
   refine w_e ?_
   refine g_ret ?_
   refine g_in_ret ?_
   refine g_then_ret ?_
   refine fin_ret [.tmp 6, .tmp 7] [.slice none 0 0, .int .i64 8] rfl ⟨rfl, rfl, trivial⟩ ?_
   exact .inr (.inl ⟨hb3, hem, rfl, H2.takes [0, 1, 2, 3, 4, 5, 6, 7] (by decide)⟩)
  ·
   obtain ⟨m, hn⟩ := some_of hnk hb4
   have hmt := hB.tok m (hB.nwm i m hn)
   have hex := ex_of_len (hB.tokN i) hnk hb4
   rw [nwA_some hn] at hex
   refine g_cond_f rfl (decide_eq_false hb4) ?_
   refine g_skip ?_
   refine g_in ?_
   refine g_then ?_
   refine w_s ?_
   refine l_of (s_call0 H2 (wt0 rfl) (x_call' rfl rfl cl66) (ends_s _) rfl rfl ?_)
   intro wq5 H6
   refine w_m ?_
   refine w_v (v := .func (.func 80) #[] #[]) (x_indexW 0 rfl rfl rfl Try.underlying105 sz104 Try.underlying104 rfl ⟨by decide, by decide⟩ rfl) ?_
   refine w_r2 ?_
   refine l_of (s_call (wt0 rfl) (x_call rfl rfl rfl cl80) (fails_s hB hok_i hn _ (H6.takes [0, 1, 3, 4, 5, 6] (by decide))) ?_)
   rintro _ wq7 ⟨sc', r', pz, cz, hsc, hrl, rfl, H8⟩
   replace H8 : S wq7 [Rw 3 1 pz (failL (ct m)).length cz (zV (failL (ct m))), Ob b (.cells #[.map (some m1), .map (some m2), .map (some m3), .map (some m4)] 66 (0, 0)), Mp (Value.int .i64) (Value.int .i64) okI m1 sc', Mp (Value.int .i64) mpV okI m3 nw, Mp (Value.int .i64) roV okI m4 (upM od i r'), FamM spK snV okP ms ct, RowsI 70 1 mpL (rs ++ [r']), Mp (Value.int .i64) Value.bool okI m2 bn, Old w (fps [Ob b (.cells #[.map (some m1), .map (some m2), .map (some m3), .map (some m4)] 66 (0, 0)), Mp (Value.int .i64) (Value.int .i64) okI m1 sc, Mp (Value.int .i64) Value.bool okI m2 bn, Mp (Value.int .i64) mpV okI m3 nw, Mp (Value.int .i64) roV okI m4 od, FamM spK snV okP ms ct, RowsI 70 1 mpL rs])] := by have h := H6.absorbI [0, 1, 3, 4, 5, 6] H8; exact h
   refine b_ret rfl rfl ?_
   refine w_a ?_
   refine w_e ?_
   refine w_s ?_
   refine w_r3 ?_
   refine w_1 H8 1 ?_
   refine w_m ?_
   refine l_of (s_delete (x := i) (intTy Try.underlying63 Try.underlying3) H8 3 (wt0 rfl) rfl rfl rfl rfl rfl (hok_i) ?_)
   intro wq9 H10
   refine w_e ?_
   refine g_weak [(0, .pointer (some ⟨b, 0, none⟩)), (8, .slice pz (failL (ct m)).length cz)] ⟨rfl, rfl, trivial⟩ ?_
   refine w_s ?_
   refine w_r2 ?_
   refine l_of (s_call (wt0 rfl) (x_call' rfl rfl cl35) (ban_s (l := (failL (ct m))) rfl (by have := failL_len (ct m); omega) (fun x hx => okI_in (failL_in hmt hx)) _ (H10.takes [1, 7, 0] (by decide))) ?_)
   rintro _ wq11 ⟨bn', p2, c2, hbn, rfl, H12⟩
   replace H12 : S wq11 [Rw 3 1 p2 (newL bn (failL (ct m))).length c2 (zV (newL bn (failL (ct m)))), Ob b (.cells #[.map (some m1), .map (some m2), .map (some m3), .map (some m4)] 66 (0, 0)), Mp (Value.int .i64) Value.bool okI m2 bn', Mp (Value.int .i64) (Value.int .i64) okI m1 sc', Mp (Value.int .i64) mpV okI m3 (delM nw i), Mp (Value.int .i64) roV okI m4 (upM od i r'), FamM spK snV okP ms ct, RowsI 70 1 mpL (rs ++ [r']), Old w (fps [Ob b (.cells #[.map (some m1), .map (some m2), .map (some m3), .map (some m4)] 66 (0, 0)), Mp (Value.int .i64) (Value.int .i64) okI m1 sc, Mp (Value.int .i64) Value.bool okI m2 bn, Mp (Value.int .i64) mpV okI m3 nw, Mp (Value.int .i64) roV okI m4 od, FamM spK snV okP ms ct, RowsI 70 1 mpL rs])] := by have h := H10.absorbI [1, 7, 0] H12; exact h
   refine b_ret rfl rfl ?_
   refine w_r2 ?_
   refine w_e ?_
   refine g_ret ?_
   refine fin_ret [.tmp 6, .tmp 7] [.slice p2 (newL bn (failL (ct m))).length c2, .int .i64 0] rfl ⟨rfl, rfl, trivial⟩ ?_
   exact .inr (.inr ⟨hb3, m, sc', bn', r', p2, c2, hn, hex, hsc, hbn, hrl, rfl, H12.takes [0, 1, 3, 2, 4, 5, 6, 7, 8] (by decide)⟩)
 ·
  refine g_cond_t rfl (neg_of hb3) ?_
  refine w_s ?_
  refine w_r2 ?_
  refine w_e ?_
  refine g_ret ?_
  refine g_in_ret ?_
  refine g_then_ret ?_
  refine fin_ret [.tmp 6, .tmp 7] [.slice none 0 0, .int .i64 7] rfl ⟨rfl, rfl, trivial⟩ ?_
  exact .inl ⟨hb3, rfl, H2.takes [0, 1, 2, 3, 4, 5, 6, 7] (by decide)⟩
set_option maxRecDepth 20000 in
set_option maxHeartbeats 4000000 in
theorem fail_s {b m1 m2 m3 m4 : Nat} {sc : Int → Option Int} {bn : Int → Option Bool} {nw : Int → Option Nat} {od : Int → Option (Ro Nat)} {rs : List (Ro Nat)} {ms : List Nat} {ct : Nat → Tr} (hB : BI nw od rs ms ct) {i : Int} (hok_i : okI i)  (w : World) (HS : S w [Ob b (.cells #[.map (some m1), .map (some m2), .map (some m3), .map (some m4)] 66 (0, 0)), Mp (Value.int .i64) (Value.int .i64) okI m1 sc, Mp (Value.int .i64) Value.bool okI m2 bn, Mp (Value.int .i64) mpV okI m3 nw, Mp (Value.int .i64) roV okI m4 od, FamM spK snV okP ms ct, RowsI 70 1 mpL rs]) : Calls Try.prog 16 #[.pointer (some ⟨b, 0, none⟩), .int .i64 i] w fun e w' => (pieceB i = false ∧ e = .returned (.tuple #[.slice none 0 0, .int .i64 7]) ∧ S w' ([Ob b (.cells #[.map (some m1), .map (some m2), .map (some m3), .map (some m4)] 66 (0, 0)), Mp (Value.int .i64) (Value.int .i64) okI m1 sc, Mp (Value.int .i64) Value.bool okI m2 bn, Mp (Value.int .i64) mpV okI m3 nw, Mp (Value.int .i64) roV okI m4 od, FamM spK snV okP ms ct, RowsI 70 1 mpL rs] ++ [Old w (fps [Ob b (.cells #[.map (some m1), .map (some m2), .map (some m3), .map (some m4)] 66 (0, 0)), Mp (Value.int .i64) (Value.int .i64) okI m1 sc, Mp (Value.int .i64) Value.bool okI m2 bn, Mp (Value.int .i64) mpV okI m3 nw, Mp (Value.int .i64) roV okI m4 od, FamM spK snV okP ms ct, RowsI 70 1 mpL rs])])) ∨ (pieceB i = true ∧ (∀ s, tryOf ct (nw i) s = none) ∧ e = .returned (.tuple #[.slice none 0 0, .int .i64 8]) ∧ S w' ([Ob b (.cells #[.map (some m1), .map (some m2), .map (some m3), .map (some m4)] 66 (0, 0)), Mp (Value.int .i64) (Value.int .i64) okI m1 sc, Mp (Value.int .i64) Value.bool okI m2 bn, Mp (Value.int .i64) mpV okI m3 nw, Mp (Value.int .i64) roV okI m4 od, FamM spK snV okP ms ct, RowsI 70 1 mpL rs] ++ [Old w (fps [Ob b (.cells #[.map (some m1), .map (some m2), .map (some m3), .map (some m4)] 66 (0, 0)), Mp (Value.int .i64) (Value.int .i64) okI m1 sc, Mp (Value.int .i64) Value.bool okI m2 bn, Mp (Value.int .i64) mpV okI m3 nw, Mp (Value.int .i64) roV okI m4 od, FamM spK snV okP ms ct, RowsI 70 1 mpL rs])])) ∨ (pieceB i = true ∧ ∃ m sc' bn' r' p2 c2, nw i = some m ∧ (∃ s, ¬ ct m s = none) ∧ (∀ y, (sc' y).getD 0 = if y ∈ whoL (ct m) then IntKind.i64.wrap ((sc y).getD 0 + 1) else (sc y).getD 0) ∧ BanTo bn bn' (failL (ct m)) ∧ r'.l = lastTen (odR od i ++ [m]) ∧ e = .returned (.tuple #[.slice p2 (newL bn (failL (ct m))).length c2, .int .i64 0]) ∧ S w' ([Rw 3 1 p2 (newL bn (failL (ct m))).length c2 (zV (newL bn (failL (ct m)))), Ob b (.cells #[.map (some m1), .map (some m2), .map (some m3), .map (some m4)] 66 (0, 0)), Mp (Value.int .i64) (Value.int .i64) okI m1 sc', Mp (Value.int .i64) Value.bool okI m2 bn', Mp (Value.int .i64) mpV okI m3 (delM nw i), Mp (Value.int .i64) roV okI m4 (upM od i r'), FamM spK snV okP ms ct, RowsI 70 1 mpL (rs ++ [r'])] ++ [Old w (fps [Ob b (.cells #[.map (some m1), .map (some m2), .map (some m3), .map (some m4)] 66 (0, 0)), Mp (Value.int .i64) (Value.int .i64) okI m1 sc, Mp (Value.int .i64) Value.bool okI m2 bn, Mp (Value.int .i64) mpV okI m3 nw, Mp (Value.int .i64) roV okI m4 od, FamM spK snV okP ms ct, RowsI 70 1 mpL rs])])) := by
 have H0 := HS.beginI
 refine enter 11 Try.func16 rfl rfl rfl ?_
 refine g_weak [(0, .pointer (some ⟨b, 0, none⟩)), (1, .int .i64 i)] ⟨rfl, rfl, trivial⟩ ?_
 refine w_s ?_
 refine w_r2 ?_
 refine w_e ?_
 refine w_s ?_
 refine w_r2 ?_
 refine l_of (s_call (wt0 rfl) (x_call' rfl rfl cl38) (endF_s hB hok_i _ (H0.takes [0, 1, 2, 3, 4, 5, 6] (by decide))) ?_)
 rintro ee3 wq1 hor4
 rcases hor4 with ⟨hp9, rfl, H2⟩ | ⟨hp9, hem, rfl, H2⟩ | ⟨hp9, m, sc', bn', r', p2, c2, hn, hex, hsc, hbn, hrl, rfl, H2⟩
 ·
  replace H2 : S wq1 [Ob b (.cells #[.map (some m1), .map (some m2), .map (some m3), .map (some m4)] 66 (0, 0)), Mp (Value.int .i64) (Value.int .i64) okI m1 sc, Mp (Value.int .i64) Value.bool okI m2 bn, Mp (Value.int .i64) mpV okI m3 nw, Mp (Value.int .i64) roV okI m4 od, FamM spK snV okP ms ct, RowsI 70 1 mpL rs, Old w (fps [Ob b (.cells #[.map (some m1), .map (some m2), .map (some m3), .map (some m4)] 66 (0, 0)), Mp (Value.int .i64) (Value.int .i64) okI m1 sc, Mp (Value.int .i64) Value.bool okI m2 bn, Mp (Value.int .i64) mpV okI m3 nw, Mp (Value.int .i64) roV okI m4 od, FamM spK snV okP ms ct, RowsI 70 1 mpL rs])] := by have h := H0.absorbI [0, 1, 2, 3, 4, 5, 6] H2; exact h
  refine b_ret rfl rfl ?_
  refine w_r4 ?_
  refine w_e ?_
  refine g_ret ?_
  refine fin_ret [.tmp 4, .tmp 5] [.slice none 0 0, .int .i64 7] rfl ⟨rfl, rfl, trivial⟩ ?_
  exact .inl ⟨hp9, rfl, H2.takes [0, 1, 2, 3, 4, 5, 6, 7] (by decide)⟩
 ·
  replace H2 : S wq1 [Ob b (.cells #[.map (some m1), .map (some m2), .map (some m3), .map (some m4)] 66 (0, 0)), Mp (Value.int .i64) (Value.int .i64) okI m1 sc, Mp (Value.int .i64) Value.bool okI m2 bn, Mp (Value.int .i64) mpV okI m3 nw, Mp (Value.int .i64) roV okI m4 od, FamM spK snV okP ms ct, RowsI 70 1 mpL rs, Old w (fps [Ob b (.cells #[.map (some m1), .map (some m2), .map (some m3), .map (some m4)] 66 (0, 0)), Mp (Value.int .i64) (Value.int .i64) okI m1 sc, Mp (Value.int .i64) Value.bool okI m2 bn, Mp (Value.int .i64) mpV okI m3 nw, Mp (Value.int .i64) roV okI m4 od, FamM spK snV okP ms ct, RowsI 70 1 mpL rs])] := by have h := H0.absorbI [0, 1, 2, 3, 4, 5, 6] H2; exact h
  refine b_ret rfl rfl ?_
  refine w_r4 ?_
  refine w_e ?_
  refine g_ret ?_
  refine fin_ret [.tmp 4, .tmp 5] [.slice none 0 0, .int .i64 8] rfl ⟨rfl, rfl, trivial⟩ ?_
  exact .inr (.inl ⟨hp9, hem, rfl, H2.takes [0, 1, 2, 3, 4, 5, 6, 7] (by decide)⟩)
 ·
  replace H2 : S wq1 [Rw 3 1 p2 (newL bn (failL (ct m))).length c2 (zV (newL bn (failL (ct m)))), Ob b (.cells #[.map (some m1), .map (some m2), .map (some m3), .map (some m4)] 66 (0, 0)), Mp (Value.int .i64) (Value.int .i64) okI m1 sc', Mp (Value.int .i64) Value.bool okI m2 bn', Mp (Value.int .i64) mpV okI m3 (delM nw i), Mp (Value.int .i64) roV okI m4 (upM od i r'), FamM spK snV okP ms ct, RowsI 70 1 mpL (rs ++ [r']), Old w (fps [Ob b (.cells #[.map (some m1), .map (some m2), .map (some m3), .map (some m4)] 66 (0, 0)), Mp (Value.int .i64) (Value.int .i64) okI m1 sc, Mp (Value.int .i64) Value.bool okI m2 bn, Mp (Value.int .i64) mpV okI m3 nw, Mp (Value.int .i64) roV okI m4 od, FamM spK snV okP ms ct, RowsI 70 1 mpL rs])] := by have h := H0.absorbI [0, 1, 2, 3, 4, 5, 6] H2; exact h
  refine b_ret rfl rfl ?_
  refine w_r4 ?_
  refine w_e ?_
  refine g_ret ?_
  refine fin_ret [.tmp 4, .tmp 5] [.slice p2 (newL bn (failL (ct m))).length c2, .int .i64 0] rfl ⟨rfl, rfl, trivial⟩ ?_
  exact .inr (.inr ⟨hp9, m, sc', bn', r', p2, c2, hn, hex, hsc, hbn, hrl, rfl, H2.takes [0, 1, 2, 3, 4, 5, 6, 7, 8] (by decide)⟩)
set_option maxRecDepth 20000 in
set_option maxHeartbeats 4000000 in
theorem endG_s {b m1 m2 m3 m4 : Nat} {sc : Int → Option Int} {bn : Int → Option Bool} {nw : Int → Option Nat} {od : Int → Option (Ro Nat)} {rs : List (Ro Nat)} {ms : List Nat} {ct : Nat → Tr} (hB : BI nw od rs ms ct) {i : Int} (hok_i : okI i)  (w : World) (HS : S w [Ob b (.cells #[.map (some m1), .map (some m2), .map (some m3), .map (some m4)] 66 (0, 0)), Mp (Value.int .i64) (Value.int .i64) okI m1 sc, Mp (Value.int .i64) Value.bool okI m2 bn, Mp (Value.int .i64) mpV okI m3 nw, Mp (Value.int .i64) roV okI m4 od, FamM spK snV okP ms ct, RowsI 70 1 mpL rs]) : Calls Try.prog 38 #[.pointer (some ⟨b, 0, none⟩), .int .i64 i, .int .i64 1] w fun e w' => (pieceB i = false ∧ e = .returned (.tuple #[.slice none 0 0, .int .i64 7]) ∧ S w' ([Ob b (.cells #[.map (some m1), .map (some m2), .map (some m3), .map (some m4)] 66 (0, 0)), Mp (Value.int .i64) (Value.int .i64) okI m1 sc, Mp (Value.int .i64) Value.bool okI m2 bn, Mp (Value.int .i64) mpV okI m3 nw, Mp (Value.int .i64) roV okI m4 od, FamM spK snV okP ms ct, RowsI 70 1 mpL rs] ++ [Old w (fps [Ob b (.cells #[.map (some m1), .map (some m2), .map (some m3), .map (some m4)] 66 (0, 0)), Mp (Value.int .i64) (Value.int .i64) okI m1 sc, Mp (Value.int .i64) Value.bool okI m2 bn, Mp (Value.int .i64) mpV okI m3 nw, Mp (Value.int .i64) roV okI m4 od, FamM spK snV okP ms ct, RowsI 70 1 mpL rs])])) ∨ (pieceB i = true ∧ (∀ s, tryOf ct (nw i) s = none) ∧ e = .returned (.tuple #[.slice none 0 0, .int .i64 8]) ∧ S w' ([Ob b (.cells #[.map (some m1), .map (some m2), .map (some m3), .map (some m4)] 66 (0, 0)), Mp (Value.int .i64) (Value.int .i64) okI m1 sc, Mp (Value.int .i64) Value.bool okI m2 bn, Mp (Value.int .i64) mpV okI m3 nw, Mp (Value.int .i64) roV okI m4 od, FamM spK snV okP ms ct, RowsI 70 1 mpL rs] ++ [Old w (fps [Ob b (.cells #[.map (some m1), .map (some m2), .map (some m3), .map (some m4)] 66 (0, 0)), Mp (Value.int .i64) (Value.int .i64) okI m1 sc, Mp (Value.int .i64) Value.bool okI m2 bn, Mp (Value.int .i64) mpV okI m3 nw, Mp (Value.int .i64) roV okI m4 od, FamM spK snV okP ms ct, RowsI 70 1 mpL rs])])) ∨ (pieceB i = true ∧ ∃ m sc' bn' p2 c2, nw i = some m ∧ (∃ s, ¬ ct m s = none) ∧ (∀ y, (sc' y).getD 0 = scJ (ct m) (odA od ct i) ((sc y).getD 0) y) ∧ BanTo bn bn' (outL (ct m) (odA od ct i)) ∧ e = .returned (.tuple #[.slice p2 (newL bn (outL (ct m) (odA od ct i))).length c2, .int .i64 0]) ∧ S w' ([Rw 3 1 p2 (newL bn (outL (ct m) (odA od ct i))).length c2 (zV (newL bn (outL (ct m) (odA od ct i)))), Ob b (.cells #[.map (some m1), .map (some m2), .map (some m3), .map (some m4)] 66 (0, 0)), Mp (Value.int .i64) (Value.int .i64) okI m1 sc', Mp (Value.int .i64) Value.bool okI m2 bn', Mp (Value.int .i64) mpV okI m3 (delM nw i), Mp (Value.int .i64) roV okI m4 (delM od i), FamM spK snV okP ms ct, RowsI 70 1 mpL rs] ++ [Old w (fps [Ob b (.cells #[.map (some m1), .map (some m2), .map (some m3), .map (some m4)] 66 (0, 0)), Mp (Value.int .i64) (Value.int .i64) okI m1 sc, Mp (Value.int .i64) Value.bool okI m2 bn, Mp (Value.int .i64) mpV okI m3 nw, Mp (Value.int .i64) roV okI m4 od, FamM spK snV okP ms ct, RowsI 70 1 mpL rs])])) := by
 have H0 := HS.beginI
 refine enter 39 Try.func38 rfl rfl rfl ?_
 refine g_weak [(0, .pointer (some ⟨b, 0, none⟩)), (1, .int .i64 i), (2, .int .i64 1)] ⟨rfl, rfl, rfl, trivial⟩ ?_
 refine w_s ?_
 refine w_r2 ?_
 refine w_e ?_
 refine g_seq ?_
 refine g_block ?_
 refine w_s ?_
 refine w_m ?_
 refine w_b (v := .bool false) (hb := (b_eqN (r := false) Try.underlying28 rfl)) ?_
 refine w_a ?_
 refine w_e ?_
 refine g_cond_f rfl rfl ?_
 refine w_s ?_
 refine w_m ?_
 refine l_of (s_call0 H0 (wt0 rfl) (x_call' rfl rfl cl39) (piece_s _ _) rfl rfl ?_)
 intro wq1 H2
 refine w_v (v := .bool (!((pieceB i)))) (x_not (b := (pieceB i)) rfl rfl) ?_
 refine w_a ?_
 refine w_e ?_
 rcases Bool.eq_false_or_eq_true ((pieceB i)) with hb3 | hb3
 ·
  refine g_cond_f rfl (neg_of hb3) ?_
  refine w_s ?_
  refine w_r3 ?_
  refine w_1 H2 0 ?_
  refine w_m ?_
  refine w_v (v := .map (nw i)) (ex_cast (x_lookup1 (x := i) (intTy Try.underlying63 Try.underlying3) H2 3 rfl rfl rfl rfl (hok_i) ze70) (look_M _)) ?_
  refine l_of (s_lenTry H2 5 (wt0 rfl) rfl rfl rfl (hB.nwm i) rfl rfl Try.underlying70 ?_)
  intro nk hnk
  refine w_b ?_
  refine w_a ?_
  refine w_e ?_
  refine g_weak [(0, .pointer (some ⟨b, 0, none⟩)), (1, .int .i64 i), (2, .int .i64 1), (16, .bool (decide (((nk : Int) : Int) = 0)))] ⟨rfl, rfl, rfl, rfl, trivial⟩ ?_
  by_cases hb4 : ((nk : Int) : Int) = 0
  ·
   have hem := (len_B (hB.tokN i) hnk).1 (by omega)
   refine g_cond_t rfl (decide_eq_true hb4) ?_
   refine w_s ?_
   refine w_r2 ?_
   refine w_e ?_
   refine g_ret ?_
   refine g_in_ret ?_
   refine g_then_ret ?_
   refine fin_ret [.tmp 6, .tmp 7] [.slice none 0 0, .int .i64 8] rfl ⟨rfl, rfl, trivial⟩ ?_
   exact .inr (.inl ⟨hb3, hem, rfl, H2.takes [0, 1, 2, 3, 4, 5, 6, 7] (by decide)⟩)
  ·
   obtain ⟨m, hn⟩ := some_of hnk hb4
   have hmt := hB.tok m (hB.nwm i m hn)
   have hex := ex_of_len (hB.tokN i) hnk hb4
   rw [nwA_some hn] at hex
   refine g_cond_f rfl (decide_eq_false hb4) ?_
   refine g_skip ?_
   refine g_in ?_
   refine g_then ?_
   refine w_s ?_
   refine l_of (s_call0 H2 (wt0 rfl) (x_call' rfl rfl cl66) (ends_s _) rfl rfl ?_)
   intro wq5 H6
   refine w_m ?_
   refine w_v (v := .func (.func 81) #[] #[]) (x_indexW 1 rfl rfl rfl Try.underlying105 sz104 Try.underlying104 rfl ⟨by decide, by decide⟩ rfl) ?_
   refine w_r2 ?_
   refine l_of (s_call (wt0 rfl) (x_call rfl rfl rfl cl81) (judged_s hB hok_i hn _ (H6.takes [0, 1, 3, 4, 5, 6] (by decide))) ?_)
   rintro _ wq7 ⟨sc', pz, cz, hsc, rfl, H8⟩
   replace H8 : S wq7 [Rw 3 1 pz (outL (ct m) (odA od ct i)).length cz (zV (outL (ct m) (odA od ct i))), Ob b (.cells #[.map (some m1), .map (some m2), .map (some m3), .map (some m4)] 66 (0, 0)), Mp (Value.int .i64) (Value.int .i64) okI m1 sc', Mp (Value.int .i64) mpV okI m3 nw, Mp (Value.int .i64) roV okI m4 (delM od i), FamM spK snV okP ms ct, RowsI 70 1 mpL rs, Mp (Value.int .i64) Value.bool okI m2 bn, Old w (fps [Ob b (.cells #[.map (some m1), .map (some m2), .map (some m3), .map (some m4)] 66 (0, 0)), Mp (Value.int .i64) (Value.int .i64) okI m1 sc, Mp (Value.int .i64) Value.bool okI m2 bn, Mp (Value.int .i64) mpV okI m3 nw, Mp (Value.int .i64) roV okI m4 od, FamM spK snV okP ms ct, RowsI 70 1 mpL rs])] := by have h := H6.absorbI [0, 1, 3, 4, 5, 6] H8; exact h
   refine b_ret rfl rfl ?_
   refine w_a ?_
   refine w_e ?_
   refine w_s ?_
   refine w_r3 ?_
   refine w_1 H8 1 ?_
   refine w_m ?_
   refine l_of (s_delete (x := i) (intTy Try.underlying63 Try.underlying3) H8 3 (wt0 rfl) rfl rfl rfl rfl rfl (hok_i) ?_)
   intro wq9 H10
   refine w_e ?_
   refine g_weak [(0, .pointer (some ⟨b, 0, none⟩)), (8, .slice pz (outL (ct m) (odA od ct i)).length cz)] ⟨rfl, rfl, trivial⟩ ?_
   refine w_s ?_
   refine w_r2 ?_
   refine l_of (s_call (wt0 rfl) (x_call' rfl rfl cl35) (ban_s (l := (outL (ct m) (odA od ct i))) rfl (by have := outL_len (right := ct m) (T := odA od ct i) (fun t ht => by obtain ⟨x, hx, rfl⟩ := List.mem_map.1 ht; exact hB.tok x (hB.odIn hx)); have h2 := hB.odLen i; have h3 : (odA od ct i).length = (odR od i).length := List.length_map ..; omega) (fun x hx => okI_in (outL_in (fun t ht => by obtain ⟨x, hx, rfl⟩ := List.mem_map.1 ht; exact hB.tok x (hB.odIn hx)) hx)) _ (H10.takes [1, 7, 0] (by decide))) ?_)
   rintro _ wq11 ⟨bn', p2, c2, hbn, rfl, H12⟩
   replace H12 : S wq11 [Rw 3 1 p2 (newL bn (outL (ct m) (odA od ct i))).length c2 (zV (newL bn (outL (ct m) (odA od ct i)))), Ob b (.cells #[.map (some m1), .map (some m2), .map (some m3), .map (some m4)] 66 (0, 0)), Mp (Value.int .i64) Value.bool okI m2 bn', Mp (Value.int .i64) (Value.int .i64) okI m1 sc', Mp (Value.int .i64) mpV okI m3 (delM nw i), Mp (Value.int .i64) roV okI m4 (delM od i), FamM spK snV okP ms ct, RowsI 70 1 mpL rs, Old w (fps [Ob b (.cells #[.map (some m1), .map (some m2), .map (some m3), .map (some m4)] 66 (0, 0)), Mp (Value.int .i64) (Value.int .i64) okI m1 sc, Mp (Value.int .i64) Value.bool okI m2 bn, Mp (Value.int .i64) mpV okI m3 nw, Mp (Value.int .i64) roV okI m4 od, FamM spK snV okP ms ct, RowsI 70 1 mpL rs])] := by have h := H10.absorbI [1, 7, 0] H12; exact h
   refine b_ret rfl rfl ?_
   refine w_r2 ?_
   refine w_e ?_
   refine g_ret ?_
   refine fin_ret [.tmp 6, .tmp 7] [.slice p2 (newL bn (outL (ct m) (odA od ct i))).length c2, .int .i64 0] rfl ⟨rfl, rfl, trivial⟩ ?_
   exact .inr (.inr ⟨hb3, m, sc', bn', p2, c2, hn, hex, hsc, hbn, rfl, H12.takes [0, 1, 3, 2, 4, 5, 6, 7, 8] (by decide)⟩)
 ·
  refine g_cond_t rfl (neg_of hb3) ?_
  refine w_s ?_
  refine w_r2 ?_
  refine w_e ?_
  refine g_ret ?_
  refine g_in_ret ?_
  refine g_then_ret ?_
  refine fin_ret [.tmp 6, .tmp 7] [.slice none 0 0, .int .i64 7] rfl ⟨rfl, rfl, trivial⟩ ?_
  exact .inl ⟨hb3, rfl, H2.takes [0, 1, 2, 3, 4, 5, 6, 7] (by decide)⟩
set_option maxRecDepth 20000 in
set_option maxHeartbeats 4000000 in
theorem good_s {b m1 m2 m3 m4 : Nat} {sc : Int → Option Int} {bn : Int → Option Bool} {nw : Int → Option Nat} {od : Int → Option (Ro Nat)} {rs : List (Ro Nat)} {ms : List Nat} {ct : Nat → Tr} (hB : BI nw od rs ms ct) {i : Int} (hok_i : okI i)  (w : World) (HS : S w [Ob b (.cells #[.map (some m1), .map (some m2), .map (some m3), .map (some m4)] 66 (0, 0)), Mp (Value.int .i64) (Value.int .i64) okI m1 sc, Mp (Value.int .i64) Value.bool okI m2 bn, Mp (Value.int .i64) mpV okI m3 nw, Mp (Value.int .i64) roV okI m4 od, FamM spK snV okP ms ct, RowsI 70 1 mpL rs]) : Calls Try.prog 25 #[.pointer (some ⟨b, 0, none⟩), .int .i64 i] w fun e w' => (pieceB i = false ∧ e = .returned (.tuple #[.slice none 0 0, .int .i64 7]) ∧ S w' ([Ob b (.cells #[.map (some m1), .map (some m2), .map (some m3), .map (some m4)] 66 (0, 0)), Mp (Value.int .i64) (Value.int .i64) okI m1 sc, Mp (Value.int .i64) Value.bool okI m2 bn, Mp (Value.int .i64) mpV okI m3 nw, Mp (Value.int .i64) roV okI m4 od, FamM spK snV okP ms ct, RowsI 70 1 mpL rs] ++ [Old w (fps [Ob b (.cells #[.map (some m1), .map (some m2), .map (some m3), .map (some m4)] 66 (0, 0)), Mp (Value.int .i64) (Value.int .i64) okI m1 sc, Mp (Value.int .i64) Value.bool okI m2 bn, Mp (Value.int .i64) mpV okI m3 nw, Mp (Value.int .i64) roV okI m4 od, FamM spK snV okP ms ct, RowsI 70 1 mpL rs])])) ∨ (pieceB i = true ∧ (∀ s, tryOf ct (nw i) s = none) ∧ e = .returned (.tuple #[.slice none 0 0, .int .i64 8]) ∧ S w' ([Ob b (.cells #[.map (some m1), .map (some m2), .map (some m3), .map (some m4)] 66 (0, 0)), Mp (Value.int .i64) (Value.int .i64) okI m1 sc, Mp (Value.int .i64) Value.bool okI m2 bn, Mp (Value.int .i64) mpV okI m3 nw, Mp (Value.int .i64) roV okI m4 od, FamM spK snV okP ms ct, RowsI 70 1 mpL rs] ++ [Old w (fps [Ob b (.cells #[.map (some m1), .map (some m2), .map (some m3), .map (some m4)] 66 (0, 0)), Mp (Value.int .i64) (Value.int .i64) okI m1 sc, Mp (Value.int .i64) Value.bool okI m2 bn, Mp (Value.int .i64) mpV okI m3 nw, Mp (Value.int .i64) roV okI m4 od, FamM spK snV okP ms ct, RowsI 70 1 mpL rs])])) ∨ (pieceB i = true ∧ ∃ m sc' bn' p2 c2, nw i = some m ∧ (∃ s, ¬ ct m s = none) ∧ (∀ y, (sc' y).getD 0 = scJ (ct m) (odA od ct i) ((sc y).getD 0) y) ∧ BanTo bn bn' (outL (ct m) (odA od ct i)) ∧ e = .returned (.tuple #[.slice p2 (newL bn (outL (ct m) (odA od ct i))).length c2, .int .i64 0]) ∧ S w' ([Rw 3 1 p2 (newL bn (outL (ct m) (odA od ct i))).length c2 (zV (newL bn (outL (ct m) (odA od ct i)))), Ob b (.cells #[.map (some m1), .map (some m2), .map (some m3), .map (some m4)] 66 (0, 0)), Mp (Value.int .i64) (Value.int .i64) okI m1 sc', Mp (Value.int .i64) Value.bool okI m2 bn', Mp (Value.int .i64) mpV okI m3 (delM nw i), Mp (Value.int .i64) roV okI m4 (delM od i), FamM spK snV okP ms ct, RowsI 70 1 mpL rs] ++ [Old w (fps [Ob b (.cells #[.map (some m1), .map (some m2), .map (some m3), .map (some m4)] 66 (0, 0)), Mp (Value.int .i64) (Value.int .i64) okI m1 sc, Mp (Value.int .i64) Value.bool okI m2 bn, Mp (Value.int .i64) mpV okI m3 nw, Mp (Value.int .i64) roV okI m4 od, FamM spK snV okP ms ct, RowsI 70 1 mpL rs])])) := by
 have H0 := HS.beginI
 refine enter 11 Try.func25 rfl rfl rfl ?_
 refine g_weak [(0, .pointer (some ⟨b, 0, none⟩)), (1, .int .i64 i)] ⟨rfl, rfl, trivial⟩ ?_
 refine w_s ?_
 refine w_r2 ?_
 refine w_e ?_
 refine w_s ?_
 refine w_r2 ?_
 refine l_of (s_call (wt0 rfl) (x_call' rfl rfl cl38) (endG_s hB hok_i _ (H0.takes [0, 1, 2, 3, 4, 5, 6] (by decide))) ?_)
 rintro ee3 wq1 hor4
 rcases hor4 with ⟨hp9, rfl, H2⟩ | ⟨hp9, hem, rfl, H2⟩ | ⟨hp9, m, sc', bn', p2, c2, hn, hex, hsc, hbn, rfl, H2⟩
 ·
  replace H2 : S wq1 [Ob b (.cells #[.map (some m1), .map (some m2), .map (some m3), .map (some m4)] 66 (0, 0)), Mp (Value.int .i64) (Value.int .i64) okI m1 sc, Mp (Value.int .i64) Value.bool okI m2 bn, Mp (Value.int .i64) mpV okI m3 nw, Mp (Value.int .i64) roV okI m4 od, FamM spK snV okP ms ct, RowsI 70 1 mpL rs, Old w (fps [Ob b (.cells #[.map (some m1), .map (some m2), .map (some m3), .map (some m4)] 66 (0, 0)), Mp (Value.int .i64) (Value.int .i64) okI m1 sc, Mp (Value.int .i64) Value.bool okI m2 bn, Mp (Value.int .i64) mpV okI m3 nw, Mp (Value.int .i64) roV okI m4 od, FamM spK snV okP ms ct, RowsI 70 1 mpL rs])] := by have h := H0.absorbI [0, 1, 2, 3, 4, 5, 6] H2; exact h
  refine b_ret rfl rfl ?_
  refine w_r4 ?_
  refine w_e ?_
  refine g_ret ?_
  refine fin_ret [.tmp 4, .tmp 5] [.slice none 0 0, .int .i64 7] rfl ⟨rfl, rfl, trivial⟩ ?_
  exact .inl ⟨hp9, rfl, H2.takes [0, 1, 2, 3, 4, 5, 6, 7] (by decide)⟩
 ·
  replace H2 : S wq1 [Ob b (.cells #[.map (some m1), .map (some m2), .map (some m3), .map (some m4)] 66 (0, 0)), Mp (Value.int .i64) (Value.int .i64) okI m1 sc, Mp (Value.int .i64) Value.bool okI m2 bn, Mp (Value.int .i64) mpV okI m3 nw, Mp (Value.int .i64) roV okI m4 od, FamM spK snV okP ms ct, RowsI 70 1 mpL rs, Old w (fps [Ob b (.cells #[.map (some m1), .map (some m2), .map (some m3), .map (some m4)] 66 (0, 0)), Mp (Value.int .i64) (Value.int .i64) okI m1 sc, Mp (Value.int .i64) Value.bool okI m2 bn, Mp (Value.int .i64) mpV okI m3 nw, Mp (Value.int .i64) roV okI m4 od, FamM spK snV okP ms ct, RowsI 70 1 mpL rs])] := by have h := H0.absorbI [0, 1, 2, 3, 4, 5, 6] H2; exact h
  refine b_ret rfl rfl ?_
  refine w_r4 ?_
  refine w_e ?_
  refine g_ret ?_
  refine fin_ret [.tmp 4, .tmp 5] [.slice none 0 0, .int .i64 8] rfl ⟨rfl, rfl, trivial⟩ ?_
  exact .inr (.inl ⟨hp9, hem, rfl, H2.takes [0, 1, 2, 3, 4, 5, 6, 7] (by decide)⟩)
 ·
  replace H2 : S wq1 [Rw 3 1 p2 (newL bn (outL (ct m) (odA od ct i))).length c2 (zV (newL bn (outL (ct m) (odA od ct i)))), Ob b (.cells #[.map (some m1), .map (some m2), .map (some m3), .map (some m4)] 66 (0, 0)), Mp (Value.int .i64) (Value.int .i64) okI m1 sc', Mp (Value.int .i64) Value.bool okI m2 bn', Mp (Value.int .i64) mpV okI m3 (delM nw i), Mp (Value.int .i64) roV okI m4 (delM od i), FamM spK snV okP ms ct, RowsI 70 1 mpL rs, Old w (fps [Ob b (.cells #[.map (some m1), .map (some m2), .map (some m3), .map (some m4)] 66 (0, 0)), Mp (Value.int .i64) (Value.int .i64) okI m1 sc, Mp (Value.int .i64) Value.bool okI m2 bn, Mp (Value.int .i64) mpV okI m3 nw, Mp (Value.int .i64) roV okI m4 od, FamM spK snV okP ms ct, RowsI 70 1 mpL rs])] := by have h := H0.absorbI [0, 1, 2, 3, 4, 5, 6] H2; exact h
  refine b_ret rfl rfl ?_
  refine w_r4 ?_
  refine w_e ?_
  refine g_ret ?_
  refine fin_ret [.tmp 4, .tmp 5] [.slice p2 (newL bn (outL (ct m) (odA od ct i))).length c2, .int .i64 0] rfl ⟨rfl, rfl, trivial⟩ ?_
  exact .inr (.inr ⟨hp9, m, sc', bn', p2, c2, hn, hex, hsc, hbn, rfl, H2.takes [0, 1, 2, 3, 4, 5, 6, 7, 8] (by decide)⟩)
set_option maxRecDepth 20000 in
set_option maxHeartbeats 4000000 in
theorem drop_s {b m1 m2 m3 m4 : Nat} {nw : Int → Option Nat} {od : Int → Option (Ro Nat)} {rs : List (Ro Nat)} {ms : List Nat} {ct : Nat → Tr} (hB : BI nw od rs ms ct) {i : Int} (hok_i : okI i)  (w : World) (HS : S w [Ob b (.cells #[.map (some m1), .map (some m2), .map (some m3), .map (some m4)] 66 (0, 0)), Mp (Value.int .i64) mpV okI m3 nw, FamM spK snV okP ms ct]) : Calls Try.prog 26 #[.pointer (some ⟨b, 0, none⟩), .int .i64 i] w fun e w' => (pieceB i = false ∧ e = .returned (.int .i64 7) ∧ S w' ([Ob b (.cells #[.map (some m1), .map (some m2), .map (some m3), .map (some m4)] 66 (0, 0)), Mp (Value.int .i64) mpV okI m3 nw, FamM spK snV okP ms ct] ++ [Old w (fps [Ob b (.cells #[.map (some m1), .map (some m2), .map (some m3), .map (some m4)] 66 (0, 0)), Mp (Value.int .i64) mpV okI m3 nw, FamM spK snV okP ms ct])])) ∨ (pieceB i = true ∧ (∀ s, tryOf ct (nw i) s = none) ∧ e = .returned (.int .i64 8) ∧ S w' ([Ob b (.cells #[.map (some m1), .map (some m2), .map (some m3), .map (some m4)] 66 (0, 0)), Mp (Value.int .i64) mpV okI m3 nw, FamM spK snV okP ms ct] ++ [Old w (fps [Ob b (.cells #[.map (some m1), .map (some m2), .map (some m3), .map (some m4)] 66 (0, 0)), Mp (Value.int .i64) mpV okI m3 nw, FamM spK snV okP ms ct])])) ∨ (pieceB i = true ∧ (∃ s, ¬ nwA nw ct i s = none) ∧ e = .returned (.int .i64 0) ∧ S w' ([Ob b (.cells #[.map (some m1), .map (some m2), .map (some m3), .map (some m4)] 66 (0, 0)), Mp (Value.int .i64) mpV okI m3 (delM nw i), FamM spK snV okP ms ct] ++ [Old w (fps [Ob b (.cells #[.map (some m1), .map (some m2), .map (some m3), .map (some m4)] 66 (0, 0)), Mp (Value.int .i64) mpV okI m3 nw, FamM spK snV okP ms ct])])) := by
 have H0 := HS.beginI
 refine enter 26 Try.func26 rfl rfl rfl ?_
 refine g_weak [(0, .pointer (some ⟨b, 0, none⟩)), (1, .int .i64 i)] ⟨rfl, rfl, trivial⟩ ?_
 refine w_s ?_
 refine w_a ?_
 refine w_e ?_
 refine g_seq ?_
 refine g_block ?_
 refine w_s ?_
 refine w_m ?_
 refine w_b (v := .bool false) (hb := (b_eqN (r := false) Try.underlying28 rfl)) ?_
 refine w_a ?_
 refine w_e ?_
 refine g_cond_f rfl rfl ?_
 refine w_s ?_
 refine w_m ?_
 refine l_of (s_call0 H0 (wt0 rfl) (x_call' rfl rfl cl39) (piece_s _ _) rfl rfl ?_)
 intro wq1 H2
 refine w_v (v := .bool (!((pieceB i)))) (x_not (b := (pieceB i)) rfl rfl) ?_
 refine w_a ?_
 refine w_e ?_
 rcases Bool.eq_false_or_eq_true ((pieceB i)) with hb3 | hb3
 ·
  refine g_cond_f rfl (neg_of hb3) ?_
  refine w_s ?_
  refine w_r3 ?_
  refine w_1 H2 0 ?_
  refine w_m ?_
  refine w_v (v := .map (nw i)) (ex_cast (x_lookup1 (x := i) (intTy Try.underlying63 Try.underlying3) H2 1 rfl rfl rfl rfl (hok_i) ze70) (look_M _)) ?_
  refine l_of (s_lenTry H2 2 (wt0 rfl) rfl rfl rfl (hB.nwm i) rfl rfl Try.underlying70 ?_)
  intro nk hnk
  refine w_b ?_
  refine w_a ?_
  refine w_e ?_
  refine g_weak [(0, .pointer (some ⟨b, 0, none⟩)), (1, .int .i64 i), (12, .bool (decide (((nk : Int) : Int) = 0)))] ⟨rfl, rfl, rfl, trivial⟩ ?_
  by_cases hb4 : ((nk : Int) : Int) = 0
  ·
   have hem := (len_B (hB.tokN i) hnk).1 (by omega)
   refine g_cond_t rfl (decide_eq_true hb4) ?_
   refine w_s ?_
   refine w_a ?_
   refine w_e ?_
   refine g_ret ?_
   refine g_in_ret ?_
   refine g_then_ret ?_
   refine fin_ret [.tmp 4] [.int .i64 8] rfl ⟨rfl, trivial⟩ ?_
   exact .inr (.inl ⟨hb3, hem, rfl, H2.takes [0, 1, 2, 3] (by decide)⟩)
  ·
   have hex := ex_of_len (hB.tokN i) hnk hb4
   refine g_cond_f rfl (decide_eq_false hb4) ?_
   refine g_skip ?_
   refine g_in ?_
   refine g_then ?_
   refine w_s ?_
   refine w_r3 ?_
   refine w_1 H2 0 ?_
   refine w_m ?_
   refine l_of (s_delete (x := i) (intTy Try.underlying63 Try.underlying3) H2 1 (wt0 rfl) rfl rfl rfl rfl rfl (hok_i) ?_)
   intro wq5 H6
   refine w_e ?_
   refine w_s ?_
   refine w_a ?_
   refine w_e ?_
   refine g_ret ?_
   refine fin_ret [.tmp 4] [.int .i64 0] rfl ⟨rfl, trivial⟩ ?_
   exact .inr (.inr ⟨hb3, hex, rfl, H6.takes [0, 1, 2, 3] (by decide)⟩)
 ·
  refine g_cond_t rfl (neg_of hb3) ?_
  refine w_s ?_
  refine w_a ?_
  refine w_e ?_
  refine g_ret ?_
  refine g_in_ret ?_
  refine g_then_ret ?_
  refine fin_ret [.tmp 4] [.int .i64 7] rfl ⟨rfl, trivial⟩ ?_
  exact .inl ⟨hb3, rfl, H2.takes [0, 1, 2, 3] (by decide)⟩
end Go.Proofs.Ytlikhpfdncidkaa
