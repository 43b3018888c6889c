import Derived.Test.YtlikhpfdncidkaaFk
import Derived.Test.YtlikhpfdncidkaaCf
set_option linter.unusedSimpArgs false
set_option linter.unusedVariables false
namespace Go.Proofs.Ytlikhpfdncidkaa
open Go.RowKit

theorem cl69 : callable Try.prog 69 = true := by kernel_rfl
/-- What is known while old tries are judged: scores, who is banned, who is new. -/
structure GJ (R : Tr) (sc : Int → Option Int) (bn : Int → Option Bool) (Ts : List Tr) (SC : Int → Option Int) (M : Int → Option Bool) (nl : List E5) : Prop where
  s : ∀ y, (SC y).getD 0 = scJ R Ts ((sc y).getD 0) y
  b : ∀ y, (M y).getD false = ((bn y).getD false || decide (y ∈ outL R Ts))
  n : ∀ y, y ∈ nl.map E5.pr ↔ y ∈ outL R Ts ∧ (bn y).getD false = false
structure GK (g : Int → Bool) (pre : List Int) (SC SC2 : Int → Option Int) (M M2 : Int → Option Bool) (nl nl2 : List E5) : Prop where
  s : ∀ y, (SC2 y).getD 0 = if y ∈ pre ∧ g y = false then IntKind.i64.wrap ((SC y).getD 0 - 1) else (SC y).getD 0
  b : ∀ y, (M2 y).getD false = ((M y).getD false || decide (y ∈ pre.filter g))
  n : ∀ y, y ∈ nl2.map E5.pr ↔ y ∈ nl.map E5.pr ∨ (y ∈ pre.filter g ∧ (M y).getD false = false)
theorem GJ.start (R : Tr) (sc : Int → Option Int) (bn : Int → Option Bool) : GJ R sc bn [] sc bn [] := ⟨fun y => rfl, fun y => by simp [outL], fun y => by simp [outL]⟩
section
variable {R : Tr} {sc SC SC2 : Int → Option Int} {bn M M2 : Int → Option Bool} {nl nl2 : List E5} {g : Int → Bool} {pre : List Int} {x : Int}
theorem GK.start (g : Int → Bool) (SC : Int → Option Int) (M : Int → Option Bool) (nl : List E5) : GK g [] SC SC M M nl nl := ⟨fun y => by simp, fun y => by simp, fun y => by simp⟩
theorem GK.down (h : GK g pre SC SC2 M M2 nl nl2) (hx : ¬ x ∈ pre) (hg : g x = false) : GK g (pre ++ [x]) SC (upM SC2 x (IntKind.i64.wrap ((SC2 x).getD 0 - 1))) M M2 nl nl2 :=
  ⟨down_no hx hg h.s, by rw [filt_no hg]; exact h.b, by rw [filt_no hg]; exact h.n⟩
theorem GK.was (h : GK g pre SC SC2 M M2 nl nl2) (hx : ¬ x ∈ pre) (hg : g x = true) (hM : (M2 x).getD false = true) : GK g (pre ++ [x]) SC SC2 M M2 nl nl2 := by
  have hMx : (M x).getD false = true := by
    have := h.b x
    rw [hM] at this
    have h2 : ¬ x ∈ pre.filter g := fun h => hx (List.mem_filter.1 h).1
    simpa [h2] using this.symm
  refine ⟨down_yes hg h.s, fun y => ?_, fun y => ?_⟩
  · rw [filt_yes hg, h.b]
    by_cases e : y = x
    · subst e; simp [hMx]
    · simp [e]
  · rw [filt_yes hg, h.n]
    constructor
    · rintro (h1 | ⟨h1, h2⟩)
      · exact .inl h1
      · exact .inr ⟨List.mem_append_left _ h1, h2⟩
    · rintro (h1 | ⟨h1, h2⟩)
      · exact .inl h1
      · rcases List.mem_append.1 h1 with h1 | h1
        · exact .inr ⟨h1, h2⟩
        · rw [List.mem_singleton] at h1; subst h1; rw [hMx] at h2; cases h2
theorem GK.new (h : GK g pre SC SC2 M M2 nl nl2) (hx : ¬ x ∈ pre) (hg : g x = true) (hM : (M2 x).getD false = false) {z : E5} (hz : z.pr = x) : GK g (pre ++ [x]) SC SC2 M (upM M2 x true) nl (nl2 ++ [z]) := by
  have hMx : (M x).getD false = false := by
    have := h.b x
    rw [hM] at this
    cases hb : (M x).getD false with
    | false => rfl
    | true => rw [hb] at this; simp at this
  refine ⟨down_yes hg h.s, fun y => ?_, fun y => ?_⟩
  · rw [filt_yes hg]
    unfold upM
    by_cases e : y = x
    · subst e; simp
    · rw [if_neg e, h.b]; simp [e]
  · rw [filt_yes hg, List.map_append, List.map_singleton, List.mem_append, List.mem_singleton, h.n, hz, List.mem_append, List.mem_singleton]
    constructor
    · rintro ((h1 | ⟨h1, h2⟩) | h1)
      · exact .inl h1
      · exact .inr ⟨.inl h1, h2⟩
      · subst h1; exact .inr ⟨.inr rfl, hMx⟩
    · rintro (h1 | ⟨h1 | h1, h2⟩)
      · exact .inl (.inl h1)
      · exact .inl (.inr ⟨h1, h2⟩)
      · exact .inr h1
theorem GJ.next {Ts : List Tr} {t : Tr} (h : GJ R sc bn Ts SC M nl) (k : GK (gB R t) (whoL t) SC SC2 M M2 nl nl2) : GJ R sc bn (Ts ++ [t]) SC2 M2 nl2 := by
  refine ⟨fun y => ?_, fun y => ?_, fun y => ?_⟩
  · rw [k.s, scJ_snoc, ← h.s]; rfl
  · rw [k.b, h.b, outL_snoc]
    by_cases h1 : y ∈ outL R Ts <;> by_cases h2 : y ∈ (whoL t).filter (gB R t) <;> simp [h1, h2]
  · rw [k.n, h.n, h.b, outL_snoc, List.mem_append]
    constructor
    · rintro (⟨h1, h2⟩ | ⟨h1, h2⟩)
      · exact ⟨.inl h1, h2⟩
      · rw [Bool.or_eq_false_iff] at h2; exact ⟨.inr h1, h2.1⟩
    · rintro ⟨h1 | h1, h2⟩
      · exact .inl ⟨h1, h2⟩
      · by_cases h3 : y ∈ outL R Ts
        · exact .inl ⟨h3, h2⟩
        · exact .inr ⟨h1, by rw [h2]; simp [h3]⟩
theorem take_map_snoc {T : List (Ro E5)} {k : Nat} {x : Ro E5} (h : T[k]? = some x) : (T.take (k + 1)).map (fun r => trE r.l) = (T.take k).map (fun r => trE r.l) ++ [trE x.l] := by
  rw [take_snoc h, List.map_append]; rfl
end
set_option maxRecDepth 20000 in
set_option maxHeartbeats 4000000 in
theorem rgood_s {b m1 m2 m3 m4 : Nat} {nw : Int → Option (Ro E5)} {od : Int → Option (Ro (Ro E5))} {bn : Int → Option Bool} {sc : Int → Option Int} {rs : List (Ro E5)} {ts : List (Ro (Ro E5))} (hR : RI nw od ⟨rs, ts⟩) {i : Int} (hok_i : okI i)  (w : World) (HS : S w [Ob b (.cells #[.map (some m1), .map (some m2), .map (some m3), .map (some m4)] 88 (0, 0)), Mp (Value.int .i64) roV okI m1 nw, Mp (Value.int .i64) roV okI m2 od, Mp (Value.int .i64) Value.bool okI m3 bn, Mp (Value.int .i64) (Value.int .i64) okI m4 sc, RowsI 109 5 e5L rs, RowsI 94 1 rowL ts]) : Calls Try.prog 42 #[.pointer (some ⟨b, 0, none⟩), .int .i64 i] w fun e w' => ∃ nw' od' bn' sc' rs' ts' pz cz , RI nw' od' ⟨rs', ts'⟩ ∧ RSt.le ⟨rs, ts⟩ ⟨rs', ts'⟩ ∧ RA nw' od' bn' sc' = goodA (RA nw od bn sc) i ∧ e = .returned (.tuple #[.slice pz (goodR (RA nw od bn sc) i).length cz, .int .i64 (endE (RA nw od bn sc) i)]) ∧ S w' ([Rw 3 1 pz ((goodR (RA nw od bn sc) i).length) cz (fl intL (goodR (RA nw od bn sc) i)), Ob b (.cells #[.map (some m1), .map (some m2), .map (some m3), .map (some m4)] 88 (0, 0)), Mp (Value.int .i64) roV okI m1 nw', Mp (Value.int .i64) roV okI m2 od', Mp (Value.int .i64) Value.bool okI m3 bn', Mp (Value.int .i64) (Value.int .i64) okI m4 sc', RowsI 109 5 e5L rs', RowsI 94 1 rowL ts'] ++ [Old w (fps [Ob b (.cells #[.map (some m1), .map (some m2), .map (some m3), .map (some m4)] 88 (0, 0)), Mp (Value.int .i64) roV okI m1 nw, Mp (Value.int .i64) roV okI m2 od, Mp (Value.int .i64) Value.bool okI m3 bn, Mp (Value.int .i64) (Value.int .i64) okI m4 sc, RowsI 109 5 e5L rs, RowsI 94 1 rowL ts])]) := by
 have H0 := HS.beginI
 have hln := (hR.nwOk i).len
 have hol := hR.odLen i
 refine enter 85 Try.func42 rfl rfl rfl ?_
 refine g_weak [(0, .pointer (some ⟨b, 0, none⟩)), (1, .int .i64 i)] ⟨rfl, rfl, trivial⟩ ?_
 refine w_s ?_
 refine w_r2 ?_
 refine w_e ?_
 refine g_seq ?_
 refine w_s ?_
 refine w_m ?_
 refine l_of (s_call0 H0 (wt0 rfl) (x_call' rfl rfl cl67) (piece_r _ _) rfl rfl ?_)
 intro wq1 H2
 refine w_v (v := .bool (!((pieceB i)))) (x_not (b := (pieceB i)) rfl rfl) ?_
 refine w_e ?_
 rcases Bool.eq_false_or_eq_true ((pieceB i)) with hb3 | hb3
 ·
  refine g_cond_f rfl (neg_of hb3) ?_
  refine g_skip ?_
  refine g_then ?_
  refine w_s ?_
  refine w_r3 ?_
  refine w_1 H2 0 ?_
  refine w_m ?_
  refine w_v (v := .slice (roG (nw i)).p ((roG (nw i)).l.length) ((roG (nw i)).c)) (ex_cast (x_lookup1 (x := i) (intTy Try.underlying85 Try.underlying3) H2 1 rfl rfl rfl rfl (hok_i) ze94) (look_G _)) ?_
  refine w_a ?_
  refine w_e ?_
  refine g_seq ?_
  refine w_s ?_
  refine w_m ?_
  refine w_v (v := .int .i64 (((roG (nw i)).l.length : Int))) (x_lenl rfl rfl Try.underlying94) ?_
  refine w_b ?_
  refine w_e ?_
  refine g_weak [(0, .pointer (some ⟨b, 0, none⟩)), (1, .int .i64 i), (6, .slice (roG (nw i)).p ((roG (nw i)).l.length) ((roG (nw i)).c)), (23, .bool (decide ((((roG (nw i)).l.length : Int) : Int) = 0)))] ⟨rfl, rfl, rfl, rfl, trivial⟩ ?_
  by_cases hb4 : (((roG (nw i)).l.length : Int) : Int) = 0
  ·
   have hem : (roG (nw i)).l = [] := List.eq_nil_of_length_eq_zero (by omega)
   have hem2 : (RA nw od bn sc).nw i = noT := by show trE (roG (nw i)).l = noT; rw [hem]; rfl
   refine g_cond_t rfl (decide_eq_true hb4) ?_
   refine w_s ?_
   refine w_r2 ?_
   refine w_e ?_
   refine g_ret ?_
   refine g_then_ret ?_
   refine fin_ret [.tmp 4, .tmp 5] [.slice none 0 0, .int .i64 8] rfl ⟨rfl, rfl, trivial⟩ ?_
   have H5 := H2.nilFl 3 1 intL
   have hE : (endE (RA nw od bn sc) i) = 8 := endE_8 hb3 hem2
   obtain ⟨_, _, e1, e2, _⟩ := failA_err hE (by decide)
   rw [hE, e2]
   exact ⟨nw, od, bn, sc, rs, ts, none, 0, hR, .refl _, e1.symm, rfl, H5.takes [0, 1, 2, 3, 4, 5, 6, 7, 8] (by decide)⟩
  ·
   have hne : ¬ (roG (nw i)).l = [] := fun h9 => hb4 (by rw [h9]; rfl)
   refine g_cond_f rfl (decide_eq_false hb4) ?_
   refine g_skip ?_
   refine g_then ?_
   refine w_s ?_
   have H6 := H2.nilFl 109 5 e5L
   refine w_a ?_
   refine w_e ?_
   refine g_seq ?_
   refine w_s ?_
   refine w_r3 ?_
   refine w_1 H6 1 ?_
   refine w_m ?_
   refine w_v (v := .slice (roG (od i)).p ((roG (od i)).l.length) ((roG (od i)).c)) (ex_cast (x_lookup1 (x := i) (intTy Try.underlying86 Try.underlying3) H6 3 rfl rfl rfl rfl (hok_i) ze95) (look_G _)) ?_
   refine w_v (v := .int .i64 (((roG (od i)).l.length : Int))) (x_lenl rfl rfl Try.underlying95) ?_
   refine w_m ?_
   refine w_e ?_
   refine g_block ?_
   refine g_loop (ι := Nat × (Int → Option Int) × (Int → Option Bool) × List E5 × Option Addr × Nat × Nat) (fun (k, SC, M, nl, pn, mn, cn) => [(0, .pointer (some ⟨b, 0, none⟩)), (1, .int .i64 i), (6, .slice (roG (nw i)).p ((roG (nw i)).l.length) ((roG (nw i)).c)), (7, .slice pn mn cn), (29, .slice (roG (od i)).p ((roG (od i)).l.length) ((roG (od i)).c)), (30, .int .i64 (((roG (od i)).l.length : Int))), (31, .int .i64 ((k : Int)))]) (fun (k, SC, M, nl, pn, mn, cn) wx => (k ≤ (roG (od i)).l.length) ∧ (GJ (trE (roG (nw i)).l) sc bn (((roG (od i)).l.take k).map fun r => trE r.l) SC M nl) ∧ (mn = nl.length ∧ mn ≤ k * 1025) ∧ S wx [Rw 109 5 pn mn cn (fl e5L nl), Ob b (.cells #[.map (some m1), .map (some m2), .map (some m3), .map (some m4)] 88 (0, 0)), Mp (Value.int .i64) roV okI m1 nw, Mp (Value.int .i64) roV okI m2 od, Mp (Value.int .i64) Value.bool okI m3 M, Mp (Value.int .i64) (Value.int .i64) okI m4 SC, RowsI 109 5 e5L rs, RowsI 94 1 rowL ts, Old w (fps [Ob b (.cells #[.map (some m1), .map (some m2), .map (some m3), .map (some m4)] 88 (0, 0)), Mp (Value.int .i64) roV okI m1 nw, Mp (Value.int .i64) roV okI m2 od, Mp (Value.int .i64) Value.bool okI m3 bn, Mp (Value.int .i64) (Value.int .i64) okI m4 sc, RowsI 109 5 e5L rs, RowsI 94 1 rowL ts])]) (fun (k, SC, M, nl, pn, mn, cn) => ((roG (od i)).l.length) - k) (0, sc, bn, [], none, 0, 0) ⟨rfl, rfl, rfl, rfl, rfl, rfl, rfl, trivial⟩ ⟨Nat.zero_le _, (GJ.start _ _ _), ⟨rfl, by omega⟩, (H6.takes [0, 1, 2, 3, 4, 5, 6, 7, 8] (by decide))⟩ ?_
   rintro ⟨k, SC, M, nl, pn, mn, cn⟩ wq7 ⟨hk, hJ, hmn, H8⟩
   refine g_weak [(0, .pointer (some ⟨b, 0, none⟩)), (1, .int .i64 i), (6, .slice (roG (nw i)).p ((roG (nw i)).l.length) ((roG (nw i)).c)), (7, .slice pn mn cn), (29, .slice (roG (od i)).p ((roG (od i)).l.length) ((roG (od i)).c)), (30, .int .i64 (((roG (od i)).l.length : Int))), (31, .int .i64 ((k : Int)))] ⟨rfl, rfl, rfl, rfl, rfl, rfl, rfl, trivial⟩ ?_
   refine w_s ?_
   refine w_b ?_
   refine w_e ?_
   refine g_seq ?_
   by_cases hb9 : ((k : Int) : Int) < ((roG (od i)).l.length : Int)
   ·
    refine g_cond_t rfl (decide_eq_true hb9) ?_
    refine g_skip ?_
    refine g_then ?_
    refine g_seq ?_
    refine g_block ?_
    refine w_s ?_
    refine w_v (v := .pointer (((roG (od i)).p).map fun q => q.add (k * 1))) (x_idxR k ((rows_in (H8.at (k := 7) rfl) (hR.odIn i))) rfl rfl rfl Try.underlying95 sz94 (by omega)) ?_
    have hlq := ((rows_in (H8.at (k := 7) rfl) (hR.odIn i))).lenL rowE
    obtain ⟨x10, hx10⟩ := ex_at (l := (roG (od i)).l) (j := k) (by omega)
    clear hlq
    have hxin := hR.odOk i x10 (List.mem_of_getElem? hx10)
    have hln2 := hxin.2.len
    have hlq2 := ascI_le (x10.l.map E5.pr)
    rw [List.length_map] at hlq2
    refine w_v (v := .slice x10.p x10.l.length x10.c) (x_loadR1 k ((rows_in (H8.at (k := 7) rfl) (hR.odIn i))) (by omega) rfl rfl Try.underlying94 rfl (rowE.flAt1 hx10 rfl)) ?_
    refine w_a ?_
    refine w_e ?_
    refine w_s ?_
    refine w_m ?_
    refine l_of (s_call (wt0 rfl) (x_call' rfl rfl cl68) (who_r x10.p x10.l.length x10.c x10.l (by omega) _ ((rows_in (H8.at (k := 6) rfl) (.inl (hR.odOk i x10 (List.mem_of_getElem? hx10)).1)))) ?_)
    rintro _ wq14 ⟨p11, c12, rfl, H15⟩
    replace H15 : S wq14 [Rw 3 1 p11 ((ascI (x10.l.map E5.pr)).length) c12 (fl intL (ascI (x10.l.map E5.pr))), Rw 109 5 pn mn cn (fl e5L nl), Ob b (.cells #[.map (some m1), .map (some m2), .map (some m3), .map (some m4)] 88 (0, 0)), Mp (Value.int .i64) roV okI m1 nw, Mp (Value.int .i64) roV okI m2 od, Mp (Value.int .i64) Value.bool okI m3 M, Mp (Value.int .i64) (Value.int .i64) okI m4 SC, RowsI 109 5 e5L rs, RowsI 94 1 rowL ts, Old w (fps [Ob b (.cells #[.map (some m1), .map (some m2), .map (some m3), .map (some m4)] 88 (0, 0)), Mp (Value.int .i64) roV okI m1 nw, Mp (Value.int .i64) roV okI m2 od, Mp (Value.int .i64) Value.bool okI m3 bn, Mp (Value.int .i64) (Value.int .i64) okI m4 sc, RowsI 109 5 e5L rs, RowsI 94 1 rowL ts])] := by have h := H8.absorb H15; exact h
    refine b_ret rfl rfl ?_
    refine w_v (v := .int .i64 (((ascI (x10.l.map E5.pr)).length : Int))) (x_lenl rfl rfl Try.underlying24) ?_
    refine w_m ?_
    refine w_e ?_
    refine g_block ?_
    refine g_loop (ι := Nat × (Int → Option Int) × (Int → Option Bool) × List E5 × Option Addr × Nat × Nat) (fun (j, SC2, M2, nl2, pn2, mn2, cn2) => [(0, .pointer (some ⟨b, 0, none⟩)), (1, .int .i64 i), (6, .slice (roG (nw i)).p ((roG (nw i)).l.length) ((roG (nw i)).c)), (7, .slice pn2 mn2 cn2), (9, .slice x10.p x10.l.length x10.c), (29, .slice (roG (od i)).p ((roG (od i)).l.length) ((roG (od i)).c)), (30, .int .i64 (((roG (od i)).l.length : Int))), (31, .int .i64 ((k : Int))), (36, .slice p11 ((ascI (x10.l.map E5.pr)).length) c12), (37, .int .i64 (((ascI (x10.l.map E5.pr)).length : Int))), (38, .int .i64 ((j : Int)))]) (fun (j, SC2, M2, nl2, pn2, mn2, cn2) wx => (j ≤ (ascI (x10.l.map E5.pr)).length) ∧ (GK (gB (trE (roG (nw i)).l) (trE x10.l)) ((ascI (x10.l.map E5.pr)).take j) SC SC2 M M2 nl nl2) ∧ (mn2 = nl2.length ∧ mn2 ≤ mn + j) ∧ S wx [Rw 3 1 p11 ((ascI (x10.l.map E5.pr)).length) c12 (fl intL (ascI (x10.l.map E5.pr))), Rw 109 5 pn2 mn2 cn2 (fl e5L nl2), Ob b (.cells #[.map (some m1), .map (some m2), .map (some m3), .map (some m4)] 88 (0, 0)), Mp (Value.int .i64) roV okI m1 nw, Mp (Value.int .i64) roV okI m2 od, Mp (Value.int .i64) Value.bool okI m3 M2, Mp (Value.int .i64) (Value.int .i64) okI m4 SC2, RowsI 109 5 e5L rs, RowsI 94 1 rowL ts, Old w (fps [Ob b (.cells #[.map (some m1), .map (some m2), .map (some m3), .map (some m4)] 88 (0, 0)), Mp (Value.int .i64) roV okI m1 nw, Mp (Value.int .i64) roV okI m2 od, Mp (Value.int .i64) Value.bool okI m3 bn, Mp (Value.int .i64) (Value.int .i64) okI m4 sc, RowsI 109 5 e5L rs, RowsI 94 1 rowL ts])]) (fun (j, SC2, M2, nl2, pn2, mn2, cn2) => ((ascI (x10.l.map E5.pr)).length) - j) (0, SC, M, nl, pn, mn, cn) ⟨rfl, rfl, rfl, rfl, rfl, rfl, rfl, rfl, rfl, rfl, rfl, trivial⟩ ⟨Nat.zero_le _, (GK.start _ _ _ _), ⟨hmn.1, by omega⟩, (H15.takes [0, 1, 2, 3, 4, 5, 6, 7, 8, 9] (by decide))⟩ ?_
    rintro ⟨j, SC2, M2, nl2, pn2, mn2, cn2⟩ wq16 ⟨hj, hK, hmn2, H17⟩
    refine g_weak [(0, .pointer (some ⟨b, 0, none⟩)), (1, .int .i64 i), (6, .slice (roG (nw i)).p ((roG (nw i)).l.length) ((roG (nw i)).c)), (7, .slice pn2 mn2 cn2), (9, .slice x10.p x10.l.length x10.c), (29, .slice (roG (od i)).p ((roG (od i)).l.length) ((roG (od i)).c)), (30, .int .i64 (((roG (od i)).l.length : Int))), (31, .int .i64 ((k : Int))), (36, .slice p11 ((ascI (x10.l.map E5.pr)).length) c12), (37, .int .i64 (((ascI (x10.l.map E5.pr)).length : Int))), (38, .int .i64 ((j : Int)))] ⟨rfl, rfl, rfl, rfl, rfl, rfl, rfl, rfl, rfl, rfl, rfl, trivial⟩ ?_
    refine w_s ?_
    refine w_b ?_
    refine w_e ?_
    refine g_seq ?_
    by_cases hb18 : ((j : Int) : Int) < ((ascI (x10.l.map E5.pr)).length : Int)
    ·
     refine g_cond_t rfl (decide_eq_true hb18) ?_
     refine g_skip ?_
     refine g_then ?_
     refine g_seq ?_
     refine g_block ?_
     refine w_s ?_
     refine w_v (v := .pointer ((p11).map fun q => q.add (j * 1))) (x_idxR j (H17.rwReads (k := 0) rfl) rfl rfl rfl Try.underlying24 sz3 (by omega)) ?_
     have hlq := (H17.rwReads (k := 0) rfl).lenL intE
     obtain ⟨x19, hx19⟩ := ex_at (l := (ascI (x10.l.map E5.pr))) (j := j) (by omega)
     clear hlq
     have hok_x19 : okI x19 := okI_in (who_in hxin.2 (List.mem_of_getElem? hx19))
     have hnb := not_before (ascI_lt _) hx19
     refine w_v (v := .int .i64 x19) (x_loadR1 j (H17.rwReads (k := 0) rfl) (by omega) rfl rfl Try.underlying3 rfl (intE.flAt1 hx19 rfl)) ?_
     refine w_a ?_
     refine w_e ?_
     refine g_seq ?_
     refine w_s ?_
     refine w_r3 ?_
     refine l_of (s_call0 H17 (wt0 rfl) (x_call' rfl rfl cl69) (guilty_r x10.p x10.l.length x10.c x10.l (roG (nw i)).p ((roG (nw i)).l.length) ((roG (nw i)).c) (roG (nw i)).l x19 (hR.odOk i x10 (List.mem_of_getElem? hx10)).2 (hR.nwOk i) _ ((rows_in (H17.at (k := 7) rfl) (.inl (hR.odOk i x10 (List.mem_of_getElem? hx10)).1))) ((rows_in (H17.at (k := 7) rfl) (hR.nwIn i)))) rfl rfl ?_)
     intro wq20 H21
     refine w_v (v := .bool (!((gB (trE (roG (nw i)).l) (trE x10.l) x19)))) (x_not (b := (gB (trE (roG (nw i)).l) (trE x10.l) x19)) rfl rfl) ?_
     refine w_e ?_
     rcases Bool.eq_false_or_eq_true ((gB (trE (roG (nw i)).l) (trE x10.l) x19)) with hb22 | hb22
     ·
      refine g_cond_f rfl (neg_of hb22) ?_
      refine g_skip ?_
      refine g_then ?_
      refine w_s ?_
      refine w_r3 ?_
      refine w_1 H21 2 ?_
      refine w_m ?_
      refine w_v (v := .bool (((M2 x19).getD false))) (ex_cast (x_lookup1 (x := x19) (intTy Try.underlying29 Try.underlying3) H21 5 rfl rfl rfl rfl (hok_x19) ze4) (look_B _)) ?_
      refine w_v (v := .bool (!(((M2 x19).getD false)))) (x_not (b := ((M2 x19).getD false)) rfl rfl) ?_
      refine w_e ?_
      refine g_weak [(0, .pointer (some ⟨b, 0, none⟩)), (1, .int .i64 i), (6, .slice (roG (nw i)).p ((roG (nw i)).l.length) ((roG (nw i)).c)), (7, .slice pn2 mn2 cn2), (9, .slice x10.p x10.l.length x10.c), (11, .int .i64 x19), (29, .slice (roG (od i)).p ((roG (od i)).l.length) ((roG (od i)).c)), (30, .int .i64 (((roG (od i)).l.length : Int))), (31, .int .i64 ((k : Int))), (36, .slice p11 ((ascI (x10.l.map E5.pr)).length) c12), (37, .int .i64 (((ascI (x10.l.map E5.pr)).length : Int))), (38, .int .i64 ((j : Int))), (60, .bool (!(((M2 x19).getD false))))] ⟨rfl, rfl, rfl, rfl, rfl, rfl, rfl, rfl, rfl, rfl, rfl, rfl, rfl, trivial⟩ ?_
      rcases Bool.eq_false_or_eq_true (((M2 x19).getD false)) with hb23 | hb23
      ·
       refine g_cond_f rfl (neg_of hb23) ?_
       refine g_skip ?_
       refine g_in ?_
       refine g_then ?_
       refine g_region ?_
       refine w_b (v := .int .i64 (((j + 1 : Nat) : Int))) (hb := (b_add (by rw [w64 (by omega)]; omega))) ?_
       refine w_m ?_
       refine w_e ?_
       refine g_round (i := (j, SC2, M2, nl2, pn2, mn2, cn2)) ((j + 1), SC2, M2, nl2, pn2, mn2, cn2) ?_ ?_ ?_
       · exact ⟨rfl, rfl, rfl, rfl, rfl, rfl, rfl, rfl, rfl, rfl, rfl, trivial⟩
       · exact ⟨by omega, (by rw [take_snoc hx19]; exact hK.was hnb hb22 hb23), ⟨hmn2.1, by omega⟩, (H21.takes [0, 1, 2, 3, 4, 5, 6, 7, 8, 9] (by decide))⟩
       · (try dsimp only); omega
      ·
       refine g_cond_t rfl (neg_of hb23) ?_
       refine w_s ?_
       refine w_r3 ?_
       refine w_1 H21 2 ?_
       refine w_m ?_
       refine l_of (s_mapUpdate (x := x19) (a := true) (intTy Try.underlying29 Try.underlying3) H21 5 (wt0 rfl) rfl rfl rfl rfl rfl rfl (hok_x19) ?_)
       intro wq24 H25
       refine w_e ?_
       refine g_region ?_
       refine w_r2 ?_
       refine w_v (v := .agg #[.int .i64 x19, .int .i64 0, .int .i64 0, .int .i64 0, .string (⟨#[]⟩)]) (x_build (vs := [.int .i64 x19]) rfl rfl (cells := #[.int .i64 x19, .int .i64 0, .int .i64 0, .int .i64 0, .string (⟨#[]⟩)]) (by kernel_rfl)) ?_
       refine l_of (s_buildSlice H25 (wt0 rfl) rfl rfl rfl (vs := [.agg #[.int .i64 x19, .int .i64 0, .int .i64 0, .int .i64 0, .string (⟨#[]⟩)]]) rfl Try.underlying94 sz109 ze109 rfl rfl (cells := #[.int .i64 x19, .int .i64 0, .int .i64 0, .int .i64 0, .string (⟨#[]⟩)]) (by kernel_rfl) ?_)
       intro g26 wq27 H28
       refine l_of (s_appB (m := 1) (l := nl2) (l2 := [(⟨x19, 0, 0, 0, ⟨#[]⟩⟩ : E5)]) e5E H28 2 (j0 := 0) rfl rfl ⟨rfl, Nat.le_refl _⟩ (wt0 rfl) rfl rfl rfl rfl rfl rfl Try.underlying94 inf109 rfl (by decide) (by omega) ?_)
       intro p29 c30 wq31 H32
       refine w_a ?_
       refine g_nil ?_
       refine g_in ?_
       refine g_then ?_
       refine g_weak [(0, .pointer (some ⟨b, 0, none⟩)), (1, .int .i64 i), (6, .slice (roG (nw i)).p ((roG (nw i)).l.length) ((roG (nw i)).c)), (7, .slice p29 (mn2 + 1) c30), (9, .slice x10.p x10.l.length x10.c), (29, .slice (roG (od i)).p ((roG (od i)).l.length) ((roG (od i)).c)), (30, .int .i64 (((roG (od i)).l.length : Int))), (31, .int .i64 ((k : Int))), (36, .slice p11 ((ascI (x10.l.map E5.pr)).length) c12), (37, .int .i64 (((ascI (x10.l.map E5.pr)).length : Int))), (38, .int .i64 ((j : Int)))] ⟨rfl, rfl, rfl, rfl, rfl, rfl, rfl, rfl, rfl, rfl, rfl, trivial⟩ ?_
       refine g_region ?_
       refine w_b (v := .int .i64 (((j + 1 : Nat) : Int))) (hb := (b_add (by rw [w64 (by omega)]; omega))) ?_
       refine w_m ?_
       refine w_e ?_
       refine g_round (i := (j, SC2, M2, nl2, pn2, mn2, cn2)) ((j + 1), SC2, (upM M2 x19 true), (nl2 ++ [(⟨x19, 0, 0, 0, ⟨#[]⟩⟩ : E5)]), p29, mn2 + 1, c30) ?_ ?_ ?_
       · exact ⟨rfl, rfl, rfl, rfl, rfl, rfl, rfl, rfl, rfl, rfl, rfl, trivial⟩
       · exact ⟨by omega, (by rw [take_snoc hx19]; exact hK.new hnb hb22 hb23 rfl), ⟨by simp only [List.length_append, List.length_singleton]; omega, by omega⟩, (H32.takes [1, 2, 3, 4, 5, 6, 7, 8, 9, 10] (by decide))⟩
       · (try dsimp only); omega
     ·
      refine g_cond_t rfl (neg_of hb22) ?_
      refine w_s ?_
      refine w_r3 ?_
      refine w_1 H21 2 ?_
      refine w_m ?_
      refine w_v (v := .int .i64 (((SC2 x19).getD 0))) (ex_cast (x_lookup1 (x := x19) (intTy Try.underlying60 Try.underlying3) H21 6 rfl rfl rfl rfl (hok_x19) ze3) (look_I _)) ?_
      refine w_b (v := .int .i64 (IntKind.i64.wrap (((SC2 x19).getD 0) - 1))) (hb := (b_sub rfl)) ?_
      refine l_of (s_mapUpdate (x := x19) (a := IntKind.i64.wrap (((SC2 x19).getD 0) - 1)) (intTy Try.underlying60 Try.underlying3) H21 6 (wt0 rfl) rfl rfl rfl rfl rfl rfl (hok_x19) ?_)
      intro wq33 H34
      refine w_e ?_
      refine g_weak [(0, .pointer (some ⟨b, 0, none⟩)), (1, .int .i64 i), (6, .slice (roG (nw i)).p ((roG (nw i)).l.length) ((roG (nw i)).c)), (7, .slice pn2 mn2 cn2), (9, .slice x10.p x10.l.length x10.c), (29, .slice (roG (od i)).p ((roG (od i)).l.length) ((roG (od i)).c)), (30, .int .i64 (((roG (od i)).l.length : Int))), (31, .int .i64 ((k : Int))), (36, .slice p11 ((ascI (x10.l.map E5.pr)).length) c12), (37, .int .i64 (((ascI (x10.l.map E5.pr)).length : Int))), (38, .int .i64 ((j : Int)))] ⟨rfl, rfl, rfl, rfl, rfl, rfl, rfl, rfl, rfl, rfl, rfl, trivial⟩ ?_
      refine g_exit ?_
      refine g_then_exit ?_
      refine g_in_hit ?_
      refine g_then ?_
      refine g_region ?_
      refine w_b (v := .int .i64 (((j + 1 : Nat) : Int))) (hb := (b_add (by rw [w64 (by omega)]; omega))) ?_
      refine w_m ?_
      refine w_e ?_
      refine g_round (i := (j, SC2, M2, nl2, pn2, mn2, cn2)) ((j + 1), (upM SC2 x19 (IntKind.i64.wrap (((SC2 x19).getD 0) - 1))), M2, nl2, pn2, mn2, cn2) ?_ ?_ ?_
      · exact ⟨rfl, rfl, rfl, rfl, rfl, rfl, rfl, rfl, rfl, rfl, rfl, trivial⟩
      · exact ⟨by omega, (by rw [take_snoc hx19]; exact hK.down hnb hb22), ⟨hmn2.1, by omega⟩, (H34.takes [0, 1, 2, 3, 4, 5, 6, 7, 8, 9] (by decide))⟩
      · (try dsimp only); omega
    ·
     refine g_cond_f rfl (decide_eq_false hb18) ?_
     refine g_exit ?_
     refine g_then_exit ?_
     refine g_then_exit ?_
     refine g_in_hit ?_
     refine g_in ?_
     refine g_then ?_
     refine g_region ?_
     refine w_b (v := .int .i64 (((k + 1 : Nat) : Int))) (hb := (b_add (by rw [w64 (by omega)]; omega))) ?_
     refine w_m ?_
     refine w_e ?_
     refine g_round (i := (k, SC, M, nl, pn, mn, cn)) ((k + 1), SC2, M2, nl2, pn2, mn2, cn2) ?_ ?_ ?_
     · exact ⟨rfl, rfl, rfl, rfl, rfl, rfl, rfl, trivial⟩
     · exact ⟨by omega, (by rw [take_map_snoc hx10]; exact hJ.next (by rw [whoE hxin.2]; rw [List.take_of_length_le (by omega)] at hK; exact hK)), ⟨hmn2.1, by omega⟩, (H17.takes [1, 2, 3, 4, 5, 6, 7, 8, 9] (by decide))⟩
     · (try dsimp only); omega
   ·
    refine g_cond_f rfl (decide_eq_false hb9) ?_
    refine g_exit ?_
    refine g_then_exit ?_
    refine g_then_exit ?_
    refine g_in_hit ?_
    refine g_then ?_
    refine w_s ?_
    refine w_r3 ?_
    refine w_1 H8 1 ?_
    refine w_m ?_
    refine l_of (s_delete (x := i) (intTy Try.underlying85 Try.underlying3) H8 2 (wt0 rfl) rfl rfl rfl rfl rfl (hok_i) ?_)
    intro wq35 H36
    refine w_e ?_
    refine w_s ?_
    refine w_r3 ?_
    refine w_1 H36 1 ?_
    refine w_m ?_
    refine l_of (s_delete (x := i) (intTy Try.underlying86 Try.underlying3) H36 3 (wt0 rfl) rfl rfl rfl rfl rfl (hok_i) ?_)
    intro wq37 H38
    refine w_e ?_
    refine g_weak [(7, .slice pn mn cn)] ⟨rfl, trivial⟩ ?_
    refine w_s ?_
    refine w_m ?_
    refine l_of (s_call (wt0 rfl) (x_call' rfl rfl cl68) (who_r pn mn cn nl (by omega) _ (H38.rwReads (k := 0) rfl)) ?_)
    rintro _ wq42 ⟨p39, c40, rfl, H43⟩
    replace H43 : S wq42 [Rw 3 1 p39 ((ascI (nl.map E5.pr)).length) c40 (fl intL (ascI (nl.map E5.pr))), Rw 109 5 pn mn cn (fl e5L nl), Ob b (.cells #[.map (some m1), .map (some m2), .map (some m3), .map (some m4)] 88 (0, 0)), Mp (Value.int .i64) roV okI m1 (delM nw i), Mp (Value.int .i64) roV okI m2 (delM od i), Mp (Value.int .i64) Value.bool okI m3 M, Mp (Value.int .i64) (Value.int .i64) okI m4 SC, RowsI 109 5 e5L rs, RowsI 94 1 rowL ts, Old w (fps [Ob b (.cells #[.map (some m1), .map (some m2), .map (some m3), .map (some m4)] 88 (0, 0)), Mp (Value.int .i64) roV okI m1 nw, Mp (Value.int .i64) roV okI m2 od, Mp (Value.int .i64) Value.bool okI m3 bn, Mp (Value.int .i64) (Value.int .i64) okI m4 sc, RowsI 109 5 e5L rs, RowsI 94 1 rowL ts])] := by have h := H38.absorb H43; exact h
    refine b_ret rfl rfl ?_
    refine w_r2 ?_
    refine w_e ?_
    refine g_ret ?_
    refine fin_ret [.tmp 4, .tmp 5] [.slice p39 ((ascI (nl.map E5.pr)).length) c40, .int .i64 0] rfl ⟨rfl, rfl, trivial⟩ ?_
    rw [List.take_of_length_le (by omega)] at hJ
    have hE : (endE (RA nw od bn sc) i) = 0 := endE_0 hb3 rfl hne
    have hGR := goodR_eq hE
    rw [← banL_of hJ.n] at hGR
    rw [hE, hGR]
    exact ⟨delM nw i, delM od i, M, SC, rs, ts, p39, c40, (hR.delNw i).delOd i, .refl _, RA_good hE hJ.s hJ.b, rfl, H43.takes [0, 2, 3, 4, 5, 6, 7, 8, 9] (by decide)⟩
 ·
  refine g_cond_t rfl (neg_of hb3) ?_
  refine w_s ?_
  refine w_r2 ?_
  refine w_e ?_
  refine g_ret ?_
  refine g_then_ret ?_
  refine fin_ret [.tmp 4, .tmp 5] [.slice none 0 0, .int .i64 7] rfl ⟨rfl, rfl, trivial⟩ ?_
  have H44 := H2.nilFl 3 1 intL
  have hE : (endE (RA nw od bn sc) i) = 7 := endE_7 hb3
  obtain ⟨_, _, e1, e2, _⟩ := failA_err hE (by decide)
  rw [hE, e2]
  exact ⟨nw, od, bn, sc, rs, ts, none, 0, hR, .refl _, e1.symm, rfl, H44.takes [0, 1, 2, 3, 4, 5, 6, 7, 8] (by decide)⟩
end Go.Proofs.Ytlikhpfdncidkaa
