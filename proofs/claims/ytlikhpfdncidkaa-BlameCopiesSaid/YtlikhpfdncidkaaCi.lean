import Derived.Test.YtlikhpfdncidkaaFk
import Derived.Test.YtlikhpfdncidkaaCh
set_option linter.unusedSimpArgs false
set_option linter.unusedVariables false
namespace Go.Proofs.Ytlikhpfdncidkaa
open Go.RowKit

theorem cl47 : callable Try.prog 47 = true := by kernel_rfl
theorem cl50 : callable Try.prog 50 = true := by kernel_rfl
theorem par_f {A : BS} {p : Int} (h : A.bn p = true) : A.par p = false := by unfold BS.par; rw [h]; rfl
theorem par_t {A : BS} {p : Int} (h : A.bn p = false) (h2 : A.onOld p) : A.par p = true := by unfold BS.par; rw [h, @decide_eq_true _ (_) h2]; rfl
theorem par_n {A : BS} {p : Int} (h2 : ¬ A.onOld p) : A.par p = false := by unfold BS.par; rw [@decide_eq_false _ (_) h2]; simp
theorem filt_one_t {f : Int → Bool} {x : Int} (h : f x = true) : [x].filter f = [x] := by simp [h]
theorem filt_one_f {f : Int → Bool} {x : Int} (h : f x = false) : [x].filter f = [] := by simp [h]
theorem some_roG {α : Type} {x : Option (Ro α)} {r : Ro α} (h : x = some r) : roG x = r := by rw [h]; rfl
theorem none_take2 {α : Type} {P : α → Prop} {l : List α} {k : Nat} {x : α} (h : ∀ y ∈ l.take k, P y) (hx : l[k]? = some x) (hp : P x) : ∀ y ∈ l.take (k + 1), P y := fun y hy => by
  rw [take_snoc hx] at hy
  rcases List.mem_append.1 hy with hy | hy
  · exact h y hy
  · rw [List.mem_singleton] at hy; subst hy; exact hp
set_option maxRecDepth 20000 in
set_option maxHeartbeats 4000000 in
theorem rparole_s {b m1 m2 m3 m4 : Nat} {nw : Int → Option (Ro E5)} {od : Int → Option (Ro (Ro E5))} {bn : Int → Option Bool} {sc : Int → Option Int} {rs : List (Ro E5)} {ts : List (Ro (Ro E5))} (hR : RI nw od ⟨rs, ts⟩) {a : Int} (hok_a : okI a)  (w : World) (HS : S w [Ob b (.cells #[.map (some m1), .map (some m2), .map (some m3), .map (some m4)] 88 (0, 0)), Mp (Value.int .i64) roV okI m1 nw, Mp (Value.int .i64) roV okI m2 od, Mp (Value.int .i64) Value.bool okI m3 bn, Mp (Value.int .i64) (Value.int .i64) okI m4 sc, RowsI 109 5 e5L rs, RowsI 94 1 rowL ts]) : Calls Try.prog 47 #[.pointer (some ⟨b, 0, none⟩), .int .i64 a] w fun e w' => e = .returned (.bool ((RA nw od bn sc).par a)) ∧ S w' ([Ob b (.cells #[.map (some m1), .map (some m2), .map (some m3), .map (some m4)] 88 (0, 0)), Mp (Value.int .i64) roV okI m1 nw, Mp (Value.int .i64) roV okI m2 od, Mp (Value.int .i64) Value.bool okI m3 bn, Mp (Value.int .i64) (Value.int .i64) okI m4 sc, RowsI 109 5 e5L rs, RowsI 94 1 rowL ts] ++ [Old w (fps [Ob b (.cells #[.map (some m1), .map (some m2), .map (some m3), .map (some m4)] 88 (0, 0)), Mp (Value.int .i64) roV okI m1 nw, Mp (Value.int .i64) roV okI m2 od, Mp (Value.int .i64) Value.bool okI m3 bn, Mp (Value.int .i64) (Value.int .i64) okI m4 sc, RowsI 109 5 e5L rs, RowsI 94 1 rowL ts])]) := by
 have H0 := HS.beginI
 refine enter 44 Try.func47 rfl rfl rfl ?_
 refine g_weak [(0, .pointer (some ⟨b, 0, none⟩)), (1, .int .i64 a)] ⟨rfl, rfl, trivial⟩ ?_
 refine w_s ?_
 refine w_a ?_
 refine w_e ?_
 refine g_seq ?_
 refine w_s ?_
 refine w_r3 ?_
 refine w_1 H0 0 ?_
 refine w_m ?_
 refine w_v (v := .bool (((bn a).getD false))) (ex_cast (x_lookup1 (x := a) (intTy Try.underlying29 Try.underlying3) H0 3 rfl rfl rfl rfl (hok_a) ze4) (look_B _)) ?_
 refine w_e ?_
 rcases Bool.eq_false_or_eq_true (((bn a).getD false)) with hb1 | hb1
 ·
  refine g_cond_t rfl hb1 ?_
  refine w_s ?_
  refine w_a ?_
  refine w_e ?_
  refine g_ret ?_
  refine g_then_ret ?_
  refine fin_ret [.tmp 4] [.bool false] rfl ⟨rfl, trivial⟩ ?_
  exact ⟨by rw [par_f (A := (RA nw od bn sc)) (p := a) hb1]; rfl, H0.takes [0, 1, 2, 3, 4, 5, 6, 7] (by decide)⟩
 ·
  refine g_cond_f rfl hb1 ?_
  refine g_skip ?_
  refine g_then ?_
  refine g_seq ?_
  refine w_s ?_
  refine w_r3 ?_
  refine w_1 H0 0 ?_
  refine l_of (s_rangeN (intTy Try.underlying86 Try.underlying3) H0 2 (wt0 rfl) rfl rfl rfl rfl rfl ?_)
  intro rr2 rem3 wq4 hnrem3 hrem3 H5
  refine w_e ?_
  refine g_weak [(1, .int .i64 a), (21, .pointer (some ⟨rr2, 0, none⟩))] ⟨rfl, rfl, trivial⟩ ?_
  refine g_block ?_
  refine g_loop (ι := List (Int × Ro (Ro E5)) × Option (Int × Ro (Ro E5))) (fun (rem, cur) => [(1, .int .i64 a), (21, .pointer (some ⟨rr2, 0, none⟩))]) (fun (rem, cur) wx => (∀ z ∈ rem3, z ∉ rem → ∀ r ∈ z.2.l, ∀ x ∈ r.l, ¬ x.pr = a) ∧ S wx [Ob b (.cells #[.map (some m1), .map (some m2), .map (some m3), .map (some m4)] 88 (0, 0)), Mp (Value.int .i64) roV okI m1 nw, MpR (Value.int .i64) roV okI m2 rr2 od rem cur, Mp (Value.int .i64) Value.bool okI m3 bn, Mp (Value.int .i64) (Value.int .i64) okI m4 sc, RowsI 109 5 e5L rs, RowsI 94 1 rowL ts, Old w (fps [Ob b (.cells #[.map (some m1), .map (some m2), .map (some m3), .map (some m4)] 88 (0, 0)), Mp (Value.int .i64) roV okI m1 nw, Mp (Value.int .i64) roV okI m2 od, Mp (Value.int .i64) Value.bool okI m3 bn, Mp (Value.int .i64) (Value.int .i64) okI m4 sc, RowsI 109 5 e5L rs, RowsI 94 1 rowL ts])]) (fun (rem, cur) => rem.length) (rem3, none) ⟨rfl, rfl, trivial⟩ ⟨(fun _ h h2 => absurd h h2), (H5.takes [0, 1, 2, 3, 4, 5, 6, 7] (by decide))⟩ ?_
  rintro ⟨rem, cur⟩ wq6 ⟨hrn, H7⟩
  refine g_weak [(1, .int .i64 a), (21, .pointer (some ⟨rr2, 0, none⟩))] ⟨rfl, rfl, trivial⟩ ?_
  refine w_s ?_
  refine l_of (s_next H7 2 (wt0 rfl) rfl rfl rfl rfl rfl (fun hnil17 => ?_) (fun q8 rem9 wx10 hp11 hok12 hN13 hm14 hl15 Hx16 => ?_))
  ·
   subst hnil17
   have H18 : S wq6 [Ob b (.cells #[.map (some m1), .map (some m2), .map (some m3), .map (some m4)] 88 (0, 0)), Mp (Value.int .i64) roV okI m1 nw, Mp (Value.int .i64) roV okI m2 od, Mp (Value.int .i64) Value.bool okI m3 bn, Mp (Value.int .i64) (Value.int .i64) okI m4 sc, RowsI 109 5 e5L rs, RowsI 94 1 rowL ts, Old w (fps [Ob b (.cells #[.map (some m1), .map (some m2), .map (some m3), .map (some m4)] 88 (0, 0)), Mp (Value.int .i64) roV okI m1 nw, Mp (Value.int .i64) roV okI m2 od, Mp (Value.int .i64) Value.bool okI m3 bn, Mp (Value.int .i64) (Value.int .i64) okI m4 sc, RowsI 109 5 e5L rs, RowsI 94 1 rowL ts])] := H7.unR (k0 := 2) rfl
   refine w_v xe ?_
   refine w_e ?_
   refine g_seq ?_
   refine g_cond_f rfl rfl ?_
   refine g_exit ?_
   refine g_then_exit ?_
   refine g_then_exit ?_
   refine g_in_hit ?_
   refine g_then ?_
   refine w_s ?_
   refine w_a ?_
   refine w_e ?_
   refine g_ret ?_
   refine fin_ret [.tmp 4] [.bool false] rfl ⟨rfl, trivial⟩ ?_
   have hon : ¬ (RA nw od bn sc).onOld a := fun h9 => by
    obtain ⟨i, hi, r, hr, x, hx, e⟩ := (onOld_RA hR).1 h9
    cases ho : od i with
    | none => rw [ho] at hr; cases hr
    | some q => exact hrn (i, q) ((hrem3 (i, q)).2 ⟨hi, ho⟩) (by simp) r (by rw [some_roG ho] at hr; exact hr) x hx e
   exact ⟨by rw [par_n (A := (RA nw od bn sc)) (p := a) hon]; rfl, H18.takes [0, 1, 2, 3, 4, 5, 6, 7] (by decide)⟩
  ·
   have H19 : S wx10 [Ob b (.cells #[.map (some m1), .map (some m2), .map (some m3), .map (some m4)] 88 (0, 0)), Mp (Value.int .i64) roV okI m1 nw, MpR (Value.int .i64) roV okI m2 rr2 od rem9 (some q8), Mp (Value.int .i64) Value.bool okI m3 bn, Mp (Value.int .i64) (Value.int .i64) okI m4 sc, RowsI 109 5 e5L rs, RowsI 94 1 rowL ts, Old w (fps [Ob b (.cells #[.map (some m1), .map (some m2), .map (some m3), .map (some m4)] 88 (0, 0)), Mp (Value.int .i64) roV okI m1 nw, Mp (Value.int .i64) roV okI m2 od, Mp (Value.int .i64) Value.bool okI m3 bn, Mp (Value.int .i64) (Value.int .i64) okI m4 sc, RowsI 109 5 e5L rs, RowsI 94 1 rowL ts])] := Hx16
   refine w_v xe ?_
   refine w_e ?_
   refine g_seq ?_
   refine g_cond_t rfl rfl ?_
   refine g_skip ?_
   refine g_then ?_
   refine g_block ?_
   refine w_s ?_
   refine w_v (v := .tuple #[.int .i64 (q8.1), .slice q8.2.p q8.2.l.length q8.2.c]) (x_entry (k := 0) (t := 0) (e0 := 0) H19 2 rfl rfl rfl) ?_
   refine w_r2 ?_
   refine w_e ?_
   refine w_s ?_
   refine w_m ?_
   refine w_v (v := .int .i64 ((q8.2.l.length : Int))) (x_lenl rfl rfl Try.underlying95) ?_
   refine w_m ?_
   refine w_e ?_
   refine g_block ?_
   refine g_loop (ι := Nat) (fun k => [(1, .int .i64 a), (21, .pointer (some ⟨rr2, 0, none⟩)), (26, .slice q8.2.p q8.2.l.length q8.2.c), (27, .int .i64 ((q8.2.l.length : Int))), (28, .int .i64 ((k : Int)))]) (fun k wx => (k ≤ q8.2.l.length) ∧ (∀ r ∈ q8.2.l.take k, ∀ x ∈ r.l, ¬ x.pr = a) ∧ S wx [Ob b (.cells #[.map (some m1), .map (some m2), .map (some m3), .map (some m4)] 88 (0, 0)), Mp (Value.int .i64) roV okI m1 nw, MpR (Value.int .i64) roV okI m2 rr2 od rem9 (some q8), Mp (Value.int .i64) Value.bool okI m3 bn, Mp (Value.int .i64) (Value.int .i64) okI m4 sc, RowsI 109 5 e5L rs, RowsI 94 1 rowL ts, Old w (fps [Ob b (.cells #[.map (some m1), .map (some m2), .map (some m3), .map (some m4)] 88 (0, 0)), Mp (Value.int .i64) roV okI m1 nw, Mp (Value.int .i64) roV okI m2 od, Mp (Value.int .i64) Value.bool okI m3 bn, Mp (Value.int .i64) (Value.int .i64) okI m4 sc, RowsI 109 5 e5L rs, RowsI 94 1 rowL ts])]) (fun k => q8.2.l.length - k) (0) ⟨rfl, rfl, rfl, rfl, rfl, trivial⟩ ⟨Nat.zero_le _, (fun r hr => by simp at hr), H19⟩ ?_
   rintro k wq20 ⟨hk, hT, H21⟩
   refine g_weak [(1, .int .i64 a), (21, .pointer (some ⟨rr2, 0, none⟩)), (26, .slice q8.2.p q8.2.l.length q8.2.c), (27, .int .i64 ((q8.2.l.length : Int))), (28, .int .i64 ((k : Int)))] ⟨rfl, rfl, rfl, rfl, rfl, trivial⟩ ?_
   refine w_s ?_
   refine w_b ?_
   refine w_e ?_
   refine g_seq ?_
   by_cases hb22 : ((k : Int) : Int) < (q8.2.l.length : Int)
   ·
    refine g_cond_t rfl (decide_eq_true hb22) ?_
    refine g_skip ?_
    refine g_then ?_
    refine g_seq ?_
    refine g_block ?_
    refine w_s ?_
    refine w_v (v := .pointer ((q8.2.p).map fun q => q.add (k * 1))) (x_idxR k ((rows_in (H21.at (k := 6) rfl) (.inl (hR.odr _ _ hN13).1))) rfl rfl rfl Try.underlying95 sz94 (by omega)) ?_
    have hlq := ((rows_in (H21.at (k := 6) rfl) (.inl (hR.odr _ _ hN13).1))).lenL rowE
    obtain ⟨x23, hx23⟩ := ex_at (l := q8.2.l) (j := k) (by omega)
    clear hlq
    have hinx23 := (hR.odr _ _ hN13).2.2 x23 (List.mem_of_getElem? hx23)
    have hlex23 := hinx23.2.len
    have hql := (hR.odr _ _ hN13).2.1
    refine w_v (v := .slice x23.p x23.l.length x23.c) (x_loadR1 k ((rows_in (H21.at (k := 6) rfl) (.inl (hR.odr _ _ hN13).1))) (by omega) rfl rfl Try.underlying94 rfl (rowE.flAt1 hx23 rfl)) ?_
    refine w_a ?_
    refine w_e ?_
    refine w_s ?_
    refine w_m ?_
    refine w_v (v := .int .i64 ((x23.l.length : Int))) (x_lenl rfl rfl Try.underlying94) ?_
    refine w_m ?_
    refine w_e ?_
    refine g_block ?_
    refine g_loop (ι := Nat) (fun j => [(1, .int .i64 a), (21, .pointer (some ⟨rr2, 0, none⟩)), (26, .slice q8.2.p q8.2.l.length q8.2.c), (27, .int .i64 ((q8.2.l.length : Int))), (28, .int .i64 ((k : Int))), (32, .slice x23.p x23.l.length x23.c), (33, .int .i64 ((x23.l.length : Int))), (34, .int .i64 ((j : Int)))]) (fun j wx => (j ≤ x23.l.length) ∧ (∀ y ∈ x23.l.take j, ¬ y.pr = a) ∧ S wx [Ob b (.cells #[.map (some m1), .map (some m2), .map (some m3), .map (some m4)] 88 (0, 0)), Mp (Value.int .i64) roV okI m1 nw, MpR (Value.int .i64) roV okI m2 rr2 od rem9 (some q8), Mp (Value.int .i64) Value.bool okI m3 bn, Mp (Value.int .i64) (Value.int .i64) okI m4 sc, RowsI 109 5 e5L rs, RowsI 94 1 rowL ts, Old w (fps [Ob b (.cells #[.map (some m1), .map (some m2), .map (some m3), .map (some m4)] 88 (0, 0)), Mp (Value.int .i64) roV okI m1 nw, Mp (Value.int .i64) roV okI m2 od, Mp (Value.int .i64) Value.bool okI m3 bn, Mp (Value.int .i64) (Value.int .i64) okI m4 sc, RowsI 109 5 e5L rs, RowsI 94 1 rowL ts])]) (fun j => x23.l.length - j) (0) ⟨rfl, rfl, rfl, rfl, rfl, rfl, rfl, rfl, trivial⟩ ⟨Nat.zero_le _, (fun r hr => by simp at hr), H21⟩ ?_
    rintro j wq24 ⟨hj, hE, H25⟩
    refine g_weak [(1, .int .i64 a), (21, .pointer (some ⟨rr2, 0, none⟩)), (26, .slice q8.2.p q8.2.l.length q8.2.c), (27, .int .i64 ((q8.2.l.length : Int))), (28, .int .i64 ((k : Int))), (32, .slice x23.p x23.l.length x23.c), (33, .int .i64 ((x23.l.length : Int))), (34, .int .i64 ((j : Int)))] ⟨rfl, rfl, rfl, rfl, rfl, rfl, rfl, rfl, trivial⟩ ?_
    refine w_s ?_
    refine w_b ?_
    refine w_e ?_
    refine g_seq ?_
    by_cases hb26 : ((j : Int) : Int) < (x23.l.length : Int)
    ·
     refine g_cond_t rfl (decide_eq_true hb26) ?_
     refine g_skip ?_
     refine g_then ?_
     refine g_seq ?_
     refine g_block ?_
     refine w_s ?_
     refine w_v (v := .pointer ((x23.p).map fun q => q.add (j * 5))) (x_idxR j ((rows_in (H25.at (k := 5) rfl) (.inl hinx23.1))) rfl rfl rfl Try.underlying94 sz109 (by omega)) ?_
     have hlq := ((rows_in (H25.at (k := 5) rfl) (.inl hinx23.1))).lenL e5E
     obtain ⟨x27, hx27⟩ := ex_at (l := x23.l) (j := j) (by omega)
     clear hlq
     refine w_v (v := .agg #[.int .i64 (x27.pr), .int .i64 (x27.pc), .int .i64 (x27.bg), .int .i64 (x27.ln), .string (x27.dg)]) (x_loadRA (vs := e5L x27) j ((rows_in (H25.at (k := 5) rfl) (.inl hinx23.1))) (by omega) rfl rfl Try.underlying109 rfl sz109 (by rfl) (e5E.flAt hx27)) ?_
     refine l_of (s_alloc H25 (wt0 rfl) rfl rfl rfl ze109 ?_)
     intro g28 wq29 H30
     refine l_of (w_st #[.int .i64 (x27.pr), .int .i64 (x27.pc), .int .i64 (x27.bg), .int .i64 (x27.ln), .string (x27.dg)] H30 0 ?_)
     intro wq31 H32
     refine w_e ?_
     refine w_s ?_
     refine w_f 0 ?_
     refine w_1 H32 0 ?_
     refine w_m ?_
     refine w_b ?_
     refine w_e ?_
     by_cases hb33 : (x27.pr : Int) = a
     ·
      refine g_cond_t rfl (decide_eq_true hb33) ?_
      refine w_s ?_
      refine w_a ?_
      refine w_e ?_
      refine g_weak [(4, .bool true)] ⟨rfl, trivial⟩ ?_
      refine g_ret ?_
      refine g_in_ret ?_
      refine g_then_ret ?_
      refine g_then_ret ?_
      refine g_in_ret ?_
      refine g_in_ret ?_
      refine g_then_ret ?_
      refine g_then_ret ?_
      refine g_in_ret ?_
      refine g_in_ret ?_
      refine g_then_ret ?_
      refine g_in_ret ?_
      refine g_then_ret ?_
      refine fin_ret [.tmp 4] [.bool true] rfl ⟨rfl, trivial⟩ ?_
      have H34 : S wq31 [Ob g28 (.cells #[.int .i64 (x27.pr), .int .i64 (x27.pc), .int .i64 (x27.bg), .int .i64 (x27.ln), .string (x27.dg)] 109 (0, 0)), Ob b (.cells #[.map (some m1), .map (some m2), .map (some m3), .map (some m4)] 88 (0, 0)), Mp (Value.int .i64) roV okI m1 nw, Mp (Value.int .i64) roV okI m2 od, Mp (Value.int .i64) Value.bool okI m3 bn, Mp (Value.int .i64) (Value.int .i64) okI m4 sc, RowsI 109 5 e5L rs, RowsI 94 1 rowL ts, Old w (fps [Ob b (.cells #[.map (some m1), .map (some m2), .map (some m3), .map (some m4)] 88 (0, 0)), Mp (Value.int .i64) roV okI m1 nw, Mp (Value.int .i64) roV okI m2 od, Mp (Value.int .i64) Value.bool okI m3 bn, Mp (Value.int .i64) (Value.int .i64) okI m4 sc, RowsI 109 5 e5L rs, RowsI 94 1 rowL ts])] := H32.unR (k0 := 3) rfl
      have hon : (RA nw od bn sc).onOld a := (onOld_RA hR).2 ⟨q8.1, hok12, x23, by rw [some_roG hN13]; exact List.mem_of_getElem? hx23, x27, List.mem_of_getElem? hx27, hb33⟩
      exact ⟨by rw [par_t (A := (RA nw od bn sc)) (p := a) hb1 hon]; rfl, H34.takes [1, 2, 3, 4, 5, 6, 7, 8] (by decide)⟩
     ·
      refine g_cond_f rfl (decide_eq_false hb33) ?_
      refine g_skip ?_
      refine g_in ?_
      refine g_then ?_
      refine g_region ?_
      refine w_b (v := .int .i64 (((j + 1 : Nat) : Int))) (hb := (b_add (by rw [w64 (by omega)]; omega))) ?_
      refine w_m ?_
      refine w_e ?_
      refine g_round (i := (j)) ((j + 1)) ?_ ?_ ?_
      · exact ⟨rfl, rfl, rfl, rfl, rfl, rfl, rfl, rfl, trivial⟩
      · exact ⟨by omega, (none_take2 hE hx27 hb33), (H32.mask [false, true, true, true, true, true, true, true, true])⟩
      · (try dsimp only); omega
    ·
     refine g_cond_f rfl (decide_eq_false hb26) ?_
     refine g_exit ?_
     refine g_then_exit ?_
     refine g_then_exit ?_
     refine g_in_hit ?_
     refine g_in ?_
     refine g_then ?_
     refine g_region ?_
     refine w_b (v := .int .i64 (((k + 1 : Nat) : Int))) (hb := (b_add (by rw [w64 (by omega)]; omega))) ?_
     refine w_m ?_
     refine w_e ?_
     refine g_round (i := (k)) ((k + 1)) ?_ ?_ ?_
     · exact ⟨rfl, rfl, rfl, rfl, rfl, trivial⟩
     · exact ⟨by omega, (none_take2 hT hx23 (fun x hx => hE x (by rw [List.take_of_length_le (by omega)]; exact hx))), H25⟩
     · (try dsimp only); omega
   ·
    refine g_cond_f rfl (decide_eq_false hb22) ?_
    refine g_exit ?_
    refine g_then_exit ?_
    refine g_then_exit ?_
    refine g_in_hit ?_
    refine g_in ?_
    refine g_then ?_
    refine g_round (i := (rem, cur)) (rem9, (some q8)) ?_ ?_ ?_
    · exact ⟨rfl, rfl, trivial⟩
    · exact ⟨(seen_next (F := fun z : Int × Ro (Ro E5) => ∀ r ∈ z.2.l, ∀ x ∈ r.l, ¬ x.pr = a) hm14 hrn (fun r hr => hT r (by rw [List.take_of_length_le (by omega)]; exact hr))), (H21.takes [0, 1, 2, 3, 4, 5, 6, 7] (by decide))⟩
    · exact hl15
set_option maxRecDepth 20000 in
set_option maxHeartbeats 4000000 in
theorem rmay_s {b m1 m2 m3 m4 : Nat} {nw : Int → Option (Ro E5)} {od : Int → Option (Ro (Ro E5))} {bn : Int → Option Bool} {sc : Int → Option Int} {rs : List (Ro E5)} {ts : List (Ro (Ro E5))} (hR : RI nw od ⟨rs, ts⟩) {a i : Int} (hok_a : okI a) (hok_i : okI i)  (w : World) (HS : S w [Ob b (.cells #[.map (some m1), .map (some m2), .map (some m3), .map (some m4)] 88 (0, 0)), Mp (Value.int .i64) roV okI m1 nw, Mp (Value.int .i64) roV okI m2 od, Mp (Value.int .i64) Value.bool okI m3 bn, Mp (Value.int .i64) (Value.int .i64) okI m4 sc, RowsI 109 5 e5L rs, RowsI 94 1 rowL ts]) : Calls Try.prog 49 #[.pointer (some ⟨b, 0, none⟩), .int .i64 a, .int .i64 i] w fun e w' => e = .returned (.bool ((RA nw od bn sc).may a i)) ∧ S w' ([Ob b (.cells #[.map (some m1), .map (some m2), .map (some m3), .map (some m4)] 88 (0, 0)), Mp (Value.int .i64) roV okI m1 nw, Mp (Value.int .i64) roV okI m2 od, Mp (Value.int .i64) Value.bool okI m3 bn, Mp (Value.int .i64) (Value.int .i64) okI m4 sc, RowsI 109 5 e5L rs, RowsI 94 1 rowL ts] ++ [Old w (fps [Ob b (.cells #[.map (some m1), .map (some m2), .map (some m3), .map (some m4)] 88 (0, 0)), Mp (Value.int .i64) roV okI m1 nw, Mp (Value.int .i64) roV okI m2 od, Mp (Value.int .i64) Value.bool okI m3 bn, Mp (Value.int .i64) (Value.int .i64) okI m4 sc, RowsI 109 5 e5L rs, RowsI 94 1 rowL ts])]) := by
 have H0 := HS.beginI
 have hwl := (hR.nwOk i).tok.whoLen
 have hwl2 : (whoL (RA nw od bn sc |>.nw i)).length ≤ 1001 := hwl
 refine enter 50 Try.func49 rfl rfl rfl ?_
 refine g_weak [(0, .pointer (some ⟨b, 0, none⟩)), (1, .int .i64 a), (2, .int .i64 i)] ⟨rfl, rfl, rfl, trivial⟩ ?_
 refine w_s ?_
 refine w_a ?_
 refine w_e ?_
 refine g_seq ?_
 refine w_s ?_
 refine w_m ?_
 refine w_b ?_
 refine w_m ?_
 by_cases hb1 : (a : Int) < 1
 ·
  refine w_n (decide_eq_true hb1) ?_
  refine w_n (decide_eq_true hb1) ?_
  refine w_v (v := .bool true) (x_pick_t rfl rfl (decide_eq_true hb1) rfl) ?_
  refine w_m ?_
  refine w_n rfl ?_
  refine w_n rfl ?_
  refine w_n rfl ?_
  refine w_v (v := .bool true) (x_pick_t rfl rfl rfl rfl) ?_
  refine w_m ?_
  refine w_n rfl ?_
  refine w_n rfl ?_
  refine w_n rfl ?_
  refine w_n rfl ?_
  refine w_n rfl ?_
  refine w_n rfl ?_
  refine w_v (v := .bool true) (x_pick_t rfl rfl rfl rfl) ?_
  refine w_e ?_
  refine g_weak [(0, .pointer (some ⟨b, 0, none⟩)), (1, .int .i64 a), (2, .int .i64 i), (27, .bool true)] ⟨rfl, rfl, rfl, rfl, trivial⟩ ?_
  refine g_cond_t rfl rfl ?_
  refine w_s ?_
  refine w_a ?_
  refine w_e ?_
  refine g_ret ?_
  refine g_then_ret ?_
  refine fin_ret [.tmp 6] [.bool false] rfl ⟨rfl, trivial⟩ ?_
  have hpb : peerB a = false := by unfold peerB; simp; omega
  have hme : ((RA nw od bn sc).may a i) = false := by unfold BS.may; rw [hpb]; simp
  exact ⟨by rw [hme]; rfl, H0.takes [0, 1, 2, 3, 4, 5, 6, 7] (by decide)⟩
 ·
  refine w_g (decide_eq_false hb1) xm ?_
  refine w_g (decide_eq_false hb1) (x_bin rfl rfl rfl b_gtr) ?_
  refine w_v (v := .bool (decide ((1000 : Int) < a))) (x_pick_f rfl rfl (decide_eq_false hb1) rfl) ?_
  refine w_m ?_
  by_cases hb2 : (1000 : Int) < a
  ·
   refine w_n (decide_eq_true hb2) ?_
   refine w_n (decide_eq_true hb2) ?_
   refine w_n (decide_eq_true hb2) ?_
   refine w_v (v := .bool true) (x_pick_t rfl rfl (decide_eq_true hb2) rfl) ?_
   refine w_m ?_
   refine w_n rfl ?_
   refine w_n rfl ?_
   refine w_n rfl ?_
   refine w_n rfl ?_
   refine w_n rfl ?_
   refine w_n rfl ?_
   refine w_v (v := .bool true) (x_pick_t rfl rfl rfl rfl) ?_
   refine w_e ?_
   refine g_weak [(0, .pointer (some ⟨b, 0, none⟩)), (1, .int .i64 a), (2, .int .i64 i), (27, .bool true)] ⟨rfl, rfl, rfl, rfl, trivial⟩ ?_
   refine g_cond_t rfl rfl ?_
   refine w_s ?_
   refine w_a ?_
   refine w_e ?_
   refine g_ret ?_
   refine g_then_ret ?_
   refine fin_ret [.tmp 6] [.bool false] rfl ⟨rfl, trivial⟩ ?_
   have hpb : peerB a = false := by unfold peerB; simp; omega
   have hme : ((RA nw od bn sc).may a i) = false := by unfold BS.may; rw [hpb]; simp
   exact ⟨by rw [hme]; rfl, H0.takes [0, 1, 2, 3, 4, 5, 6, 7] (by decide)⟩
  ·
   refine w_g (decide_eq_false hb2) xm ?_
   refine l_of (s_call0 H0 (wt1 rfl rfl rfl rfl (decide_eq_false hb2)) (x_call' rfl rfl cl67) (piece_r _ _) rfl rfl ?_)
   intro wq3 H4
   refine w_g (v := .bool (!((pieceB i)))) (decide_eq_false hb2) (x_not (b := (pieceB i)) rfl rfl) ?_
   refine w_v (v := .bool (!((pieceB i)))) (x_pick_f rfl rfl (decide_eq_false hb2) rfl) ?_
   refine w_m ?_
   rcases Bool.eq_false_or_eq_true ((pieceB i)) with hb5 | hb5
   ·
    refine w_g (neg_of hb5) xm ?_
    refine w_g (neg_of hb5) xn ?_
    refine w_g (neg_of hb5) (xf 2) ?_
    refine w_g (neg_of hb5) (xl H4 0) ?_
    refine w_g (neg_of hb5) xm ?_
    refine w_g (v := .bool (((bn a).getD false))) (neg_of hb5) (ex_cast (x_lookup1 (x := a) (intTy Try.underlying29 Try.underlying3) H4 3 rfl rfl rfl rfl (hok_a) ze4) (look_B _)) ?_
    refine w_v (v := .bool (((bn a).getD false))) (x_pick_f rfl rfl (neg_of hb5) rfl) ?_
    refine w_e ?_
    refine g_weak [(0, .pointer (some ⟨b, 0, none⟩)), (1, .int .i64 a), (2, .int .i64 i), (27, .bool (((bn a).getD false)))] ⟨rfl, rfl, rfl, rfl, trivial⟩ ?_
    rcases Bool.eq_false_or_eq_true (((bn a).getD false)) with hb6 | hb6
    ·
     refine g_cond_t rfl hb6 ?_
     refine w_s ?_
     refine w_a ?_
     refine w_e ?_
     refine g_ret ?_
     refine g_then_ret ?_
     refine fin_ret [.tmp 6] [.bool false] rfl ⟨rfl, trivial⟩ ?_
     have hme : ((RA nw od bn sc).may a i) = false := by unfold BS.may; rw [show (RA nw od bn sc).bn a = true from hb6]; simp
     exact ⟨by rw [hme]; rfl, H4.takes [0, 1, 2, 3, 4, 5, 6, 7] (by decide)⟩
    ·
     refine g_cond_f rfl hb6 ?_
     refine g_skip ?_
     refine g_then ?_
     refine g_seq ?_
     refine w_s ?_
     refine w_r2 ?_
     refine l_of (s_call (wt0 rfl) (x_call' rfl rfl cl50) (rsenders_s hR hok_i _ (H4.takes [0, 1, 2, 3, 4, 5, 6] (by decide))) ?_)
     rintro _ wq7 ⟨pz, cz, rfl, H8⟩
     replace H8 : S wq7 [Rw 3 1 pz ((whoL ((RA nw od bn sc).nw i)).length) cz (fl intL (whoL ((RA nw od bn sc).nw i))), Ob b (.cells #[.map (some m1), .map (some m2), .map (some m3), .map (some m4)] 88 (0, 0)), Mp (Value.int .i64) roV okI m1 nw, Mp (Value.int .i64) roV okI m2 od, Mp (Value.int .i64) Value.bool okI m3 bn, Mp (Value.int .i64) (Value.int .i64) okI m4 sc, RowsI 109 5 e5L rs, RowsI 94 1 rowL ts, Old w (fps [Ob b (.cells #[.map (some m1), .map (some m2), .map (some m3), .map (some m4)] 88 (0, 0)), Mp (Value.int .i64) roV okI m1 nw, Mp (Value.int .i64) roV okI m2 od, Mp (Value.int .i64) Value.bool okI m3 bn, Mp (Value.int .i64) (Value.int .i64) okI m4 sc, RowsI 109 5 e5L rs, RowsI 94 1 rowL ts])] := by have h := H4.absorbI [0, 1, 2, 3, 4, 5, 6] H8; exact h
     refine b_ret rfl rfl ?_
     refine w_v (v := .int .i64 (((whoL ((RA nw od bn sc).nw i)).length : Int))) (x_lenl rfl rfl Try.underlying24) ?_
     refine w_m ?_
     refine w_e ?_
     refine g_block ?_
     refine g_loop (ι := Nat) (fun k => [(0, .pointer (some ⟨b, 0, none⟩)), (1, .int .i64 a), (30, .slice pz ((whoL ((RA nw od bn sc).nw i)).length) cz), (31, .int .i64 (((whoL ((RA nw od bn sc).nw i)).length : Int))), (32, .int .i64 ((k : Int)))]) (fun k wx => (k ≤ (whoL ((RA nw od bn sc).nw i)).length) ∧ (∀ x ∈ (whoL ((RA nw od bn sc).nw i)).take k, (decide (x = a) || !((RA nw od bn sc).par a || (RA nw od bn sc).par x)) = true) ∧ S wx [Rw 3 1 pz ((whoL ((RA nw od bn sc).nw i)).length) cz (fl intL (whoL ((RA nw od bn sc).nw i))), Ob b (.cells #[.map (some m1), .map (some m2), .map (some m3), .map (some m4)] 88 (0, 0)), Mp (Value.int .i64) roV okI m1 nw, Mp (Value.int .i64) roV okI m2 od, Mp (Value.int .i64) Value.bool okI m3 bn, Mp (Value.int .i64) (Value.int .i64) okI m4 sc, RowsI 109 5 e5L rs, RowsI 94 1 rowL ts, Old w (fps [Ob b (.cells #[.map (some m1), .map (some m2), .map (some m3), .map (some m4)] 88 (0, 0)), Mp (Value.int .i64) roV okI m1 nw, Mp (Value.int .i64) roV okI m2 od, Mp (Value.int .i64) Value.bool okI m3 bn, Mp (Value.int .i64) (Value.int .i64) okI m4 sc, RowsI 109 5 e5L rs, RowsI 94 1 rowL ts])]) (fun k => ((whoL ((RA nw od bn sc).nw i)).length) - k) (0) ⟨rfl, rfl, rfl, rfl, rfl, trivial⟩ ⟨Nat.zero_le _, (fun r hr => by simp at hr), (H8.takes [0, 1, 2, 3, 4, 5, 6, 7, 8] (by decide))⟩ ?_
     rintro k wq9 ⟨hk, hal, H10⟩
     refine g_weak [(0, .pointer (some ⟨b, 0, none⟩)), (1, .int .i64 a), (30, .slice pz ((whoL ((RA nw od bn sc).nw i)).length) cz), (31, .int .i64 (((whoL ((RA nw od bn sc).nw i)).length : Int))), (32, .int .i64 ((k : Int)))] ⟨rfl, rfl, rfl, rfl, rfl, trivial⟩ ?_
     refine w_s ?_
     refine w_b ?_
     refine w_e ?_
     refine g_seq ?_
     by_cases hb11 : ((k : Int) : Int) < ((whoL ((RA nw od bn sc).nw i)).length : Int)
     ·
      refine g_cond_t rfl (decide_eq_true hb11) ?_
      refine g_skip ?_
      refine g_then ?_
      refine g_seq ?_
      refine g_block ?_
      refine w_s ?_
      refine w_v (v := .pointer ((pz).map fun q => q.add (k * 1))) (x_idxR k (H10.rwReads (k := 0) rfl) rfl rfl rfl Try.underlying24 sz3 (by omega)) ?_
      have hlq := (H10.rwReads (k := 0) rfl).lenL intE
      obtain ⟨x12, hx12⟩ := ex_at (l := (whoL ((RA nw od bn sc).nw i))) (j := k) (by omega)
      clear hlq
      have hok_x12 : okI x12 := okI_in ((hR.nwOk i).tok.whoIn (List.mem_of_getElem? hx12))
      refine w_v (v := .int .i64 x12) (x_loadR1 k (H10.rwReads (k := 0) rfl) (by omega) rfl rfl Try.underlying3 rfl (intE.flAt1 hx12 rfl)) ?_
      refine w_a ?_
      refine w_e ?_
      refine w_s ?_
      refine w_r2 ?_
      refine w_b (v := .bool (!decide ((x12 : Int) = a))) (hb := b_neq) ?_
      refine w_m ?_
      by_cases hb13 : (x12 : Int) = a
      ·
       refine w_n (nf hb13) ?_
       refine w_n (nf hb13) ?_
       refine w_n (nf hb13) ?_
       refine w_n (nf hb13) ?_
       refine l_of (s_not (wn2 rfl rfl rfl rfl) rfl rfl ?_)
       refine l_of (s_not (wn2 rfl rfl rfl rfl) rfl rfl ?_)
       refine l_of (s_not (wn2 rfl rfl rfl rfl) rfl rfl ?_)
       refine w_n (nf hb13) ?_
       refine w_v (v := .bool false) (x_pick_f rfl rfl (nf hb13) rfl) ?_
       refine w_e ?_
       refine g_weak [(0, .pointer (some ⟨b, 0, none⟩)), (1, .int .i64 a), (30, .slice pz ((whoL ((RA nw od bn sc).nw i)).length) cz), (31, .int .i64 (((whoL ((RA nw od bn sc).nw i)).length : Int))), (32, .int .i64 ((k : Int))), (48, .bool false)] ⟨rfl, rfl, rfl, rfl, rfl, rfl, trivial⟩ ?_
       refine g_cond_f rfl rfl ?_
       refine g_skip ?_
       refine g_in ?_
       refine g_then ?_
       refine g_region ?_
       refine w_b (v := .int .i64 (((k + 1 : Nat) : Int))) (hb := (b_add (by rw [w64 (by omega)]; omega))) ?_
       refine w_m ?_
       refine w_e ?_
       refine g_round (i := (k)) ((k + 1)) ?_ ?_ ?_
       · exact ⟨rfl, rfl, rfl, rfl, rfl, trivial⟩
       · exact ⟨by omega, (none_take2 (P := fun x => (decide (x = a) || !((RA nw od bn sc).par a || (RA nw od bn sc).par x)) = true) hal hx12 (by simp [hb13])), (H10.takes [0, 1, 2, 3, 4, 5, 6, 7, 8] (by decide))⟩
       · (try dsimp only); omega
      ·
       refine w_g (nt hb13) xm ?_
       refine w_g (nt hb13) xm ?_
       refine l_of (s_call (wt1 rfl rfl rfl rfl (nt hb13)) (x_call' rfl rfl cl47) (rparole_s hR hok_a _ (H10.takes [1, 2, 3, 4, 5, 6, 7] (by decide))) ?_)
       rintro _ wq14 ⟨rfl, H15⟩
       replace H15 : S wq14 [Ob b (.cells #[.map (some m1), .map (some m2), .map (some m3), .map (some m4)] 88 (0, 0)), Mp (Value.int .i64) roV okI m1 nw, Mp (Value.int .i64) roV okI m2 od, Mp (Value.int .i64) Value.bool okI m3 bn, Mp (Value.int .i64) (Value.int .i64) okI m4 sc, RowsI 109 5 e5L rs, RowsI 94 1 rowL ts, Rw 3 1 pz ((whoL ((RA nw od bn sc).nw i)).length) cz (fl intL (whoL ((RA nw od bn sc).nw i))), Old w (fps [Ob b (.cells #[.map (some m1), .map (some m2), .map (some m3), .map (some m4)] 88 (0, 0)), Mp (Value.int .i64) roV okI m1 nw, Mp (Value.int .i64) roV okI m2 od, Mp (Value.int .i64) Value.bool okI m3 bn, Mp (Value.int .i64) (Value.int .i64) okI m4 sc, RowsI 109 5 e5L rs, RowsI 94 1 rowL ts])] := by have h := H10.absorbI [1, 2, 3, 4, 5, 6, 7] H15; exact h
       refine b_ret rfl rfl ?_
       refine w_g (nt hb13) xm ?_
       rcases Bool.eq_false_or_eq_true (((RA nw od bn sc).par a)) with hb16 | hb16
       ·
        refine w_n hb16 ?_
        refine w_n hb16 ?_
        refine w_n hb16 ?_
        refine w_g (v := .bool true) (nt hb13) (x_pick_t rfl rfl hb16 rfl) ?_
        refine w_v (v := .bool true) (x_pick_t rfl rfl (nt hb13) rfl) ?_
        refine w_e ?_
        refine g_weak [(0, .pointer (some ⟨b, 0, none⟩)), (1, .int .i64 a), (30, .slice pz ((whoL ((RA nw od bn sc).nw i)).length) cz), (31, .int .i64 (((whoL ((RA nw od bn sc).nw i)).length : Int))), (32, .int .i64 ((k : Int))), (48, .bool true)] ⟨rfl, rfl, rfl, rfl, rfl, rfl, trivial⟩ ?_
        refine g_cond_t rfl rfl ?_
        refine w_s ?_
        refine w_a ?_
        refine w_e ?_
        refine g_ret ?_
        refine g_in_ret ?_
        refine g_then_ret ?_
        refine g_then_ret ?_
        refine g_in_ret ?_
        refine g_then_ret ?_
        refine fin_ret [.tmp 6] [.bool false] rfl ⟨rfl, trivial⟩ ?_
        have hme : ((RA nw od bn sc).may a i) = false := by
         have h9 : ((whoL ((RA nw od bn sc).nw i)).all fun x => decide (x = a) || !((RA nw od bn sc).par a || (RA nw od bn sc).par x)) = false := by
          rw [List.all_eq_false]; exact ⟨x12, List.mem_of_getElem? hx12, by simp [hb13, hb16]⟩
         unfold BS.may; rw [h9, Bool.and_false]
        exact ⟨by rw [hme]; rfl, H15.takes [0, 1, 2, 3, 4, 5, 6, 8] (by decide)⟩
       ·
        refine w_g hb16 xm ?_
        refine w_g hb16 xm ?_
        refine l_of (s_call (wt1 rfl rfl rfl rfl hb16) (x_call' rfl rfl cl47) (rparole_s hR hok_x12 _ (H15.takes [0, 1, 2, 3, 4, 5, 6] (by decide))) ?_)
        rintro _ wq17 ⟨rfl, H18⟩
        replace H18 : S wq17 [Ob b (.cells #[.map (some m1), .map (some m2), .map (some m3), .map (some m4)] 88 (0, 0)), Mp (Value.int .i64) roV okI m1 nw, Mp (Value.int .i64) roV okI m2 od, Mp (Value.int .i64) Value.bool okI m3 bn, Mp (Value.int .i64) (Value.int .i64) okI m4 sc, RowsI 109 5 e5L rs, RowsI 94 1 rowL ts, Rw 3 1 pz ((whoL ((RA nw od bn sc).nw i)).length) cz (fl intL (whoL ((RA nw od bn sc).nw i))), Old w (fps [Ob b (.cells #[.map (some m1), .map (some m2), .map (some m3), .map (some m4)] 88 (0, 0)), Mp (Value.int .i64) roV okI m1 nw, Mp (Value.int .i64) roV okI m2 od, Mp (Value.int .i64) Value.bool okI m3 bn, Mp (Value.int .i64) (Value.int .i64) okI m4 sc, RowsI 109 5 e5L rs, RowsI 94 1 rowL ts])] := by have h := H15.absorbI [0, 1, 2, 3, 4, 5, 6] H18; exact h
        refine b_ret rfl rfl ?_
        refine w_g (v := .bool (((RA nw od bn sc).par x12))) (nt hb13) (x_pick_f rfl rfl hb16 rfl) ?_
        refine w_v (v := .bool (((RA nw od bn sc).par x12))) (x_pick_t rfl rfl (nt hb13) rfl) ?_
        refine w_e ?_
        refine g_weak [(0, .pointer (some ⟨b, 0, none⟩)), (1, .int .i64 a), (30, .slice pz ((whoL ((RA nw od bn sc).nw i)).length) cz), (31, .int .i64 (((whoL ((RA nw od bn sc).nw i)).length : Int))), (32, .int .i64 ((k : Int))), (48, .bool (((RA nw od bn sc).par x12)))] ⟨rfl, rfl, rfl, rfl, rfl, rfl, trivial⟩ ?_
        rcases Bool.eq_false_or_eq_true (((RA nw od bn sc).par x12)) with hb19 | hb19
        ·
         refine g_cond_t rfl hb19 ?_
         refine w_s ?_
         refine w_a ?_
         refine w_e ?_
         refine g_ret ?_
         refine g_in_ret ?_
         refine g_then_ret ?_
         refine g_then_ret ?_
         refine g_in_ret ?_
         refine g_then_ret ?_
         refine fin_ret [.tmp 6] [.bool false] rfl ⟨rfl, trivial⟩ ?_
         have hme : ((RA nw od bn sc).may a i) = false := by
          have h9 : ((whoL ((RA nw od bn sc).nw i)).all fun x => decide (x = a) || !((RA nw od bn sc).par a || (RA nw od bn sc).par x)) = false := by
           rw [List.all_eq_false]; exact ⟨x12, List.mem_of_getElem? hx12, by simp [hb13, hb16, hb19]⟩
          unfold BS.may; rw [h9, Bool.and_false]
         exact ⟨by rw [hme]; rfl, H18.takes [0, 1, 2, 3, 4, 5, 6, 8] (by decide)⟩
        ·
         refine g_cond_f rfl hb19 ?_
         refine g_skip ?_
         refine g_in ?_
         refine g_then ?_
         refine g_region ?_
         refine w_b (v := .int .i64 (((k + 1 : Nat) : Int))) (hb := (b_add (by rw [w64 (by omega)]; omega))) ?_
         refine w_m ?_
         refine w_e ?_
         refine g_round (i := (k)) ((k + 1)) ?_ ?_ ?_
         · exact ⟨rfl, rfl, rfl, rfl, rfl, trivial⟩
         · exact ⟨by omega, (none_take2 (P := fun x => (decide (x = a) || !((RA nw od bn sc).par a || (RA nw od bn sc).par x)) = true) hal hx12 (by simp [hb13, hb16, hb19])), (H18.takes [7, 0, 1, 2, 3, 4, 5, 6, 8] (by decide))⟩
         · (try dsimp only); omega
     ·
      refine g_cond_f rfl (decide_eq_false hb11) ?_
      refine g_exit ?_
      refine g_then_exit ?_
      refine g_then_exit ?_
      refine g_in_hit ?_
      refine g_then ?_
      refine w_s ?_
      refine w_a ?_
      refine w_e ?_
      refine g_ret ?_
      refine fin_ret [.tmp 6] [.bool true] rfl ⟨rfl, trivial⟩ ?_
      have hpb : peerB a = true := by unfold peerB; simp; omega
      rw [List.take_of_length_le (by omega)] at hal
      have hme : ((RA nw od bn sc).may a i) = true := by unfold BS.may; rw [hpb, hb5, show (RA nw od bn sc).bn a = false from hb6]; simp only [Bool.true_and, Bool.not_false]; exact List.all_eq_true.2 hal
      exact ⟨by rw [hme]; rfl, H10.takes [1, 2, 3, 4, 5, 6, 7, 8] (by decide)⟩
   ·
    refine w_n (neg_of hb5) ?_
    refine w_n (neg_of hb5) ?_
    refine w_n (neg_of hb5) ?_
    refine w_n (neg_of hb5) ?_
    refine w_n (neg_of hb5) ?_
    refine w_n (neg_of hb5) ?_
    refine w_v (v := .bool true) (x_pick_t rfl rfl (neg_of hb5) rfl) ?_
    refine w_e ?_
    refine g_weak [(0, .pointer (some ⟨b, 0, none⟩)), (1, .int .i64 a), (2, .int .i64 i), (27, .bool true)] ⟨rfl, rfl, rfl, rfl, trivial⟩ ?_
    refine g_cond_t rfl rfl ?_
    refine w_s ?_
    refine w_a ?_
    refine w_e ?_
    refine g_ret ?_
    refine g_then_ret ?_
    refine fin_ret [.tmp 6] [.bool false] rfl ⟨rfl, trivial⟩ ?_
    have hme : ((RA nw od bn sc).may a i) = false := by unfold BS.may; rw [hb5]; simp
    exact ⟨by rw [hme]; rfl, H4.takes [0, 1, 2, 3, 4, 5, 6, 7] (by decide)⟩
set_option maxRecDepth 20000 in
set_option maxHeartbeats 4000000 in
theorem rbans_s {b m1 m2 m3 m4 : Nat} {nw : Int → Option (Ro E5)} {od : Int → Option (Ro (Ro E5))} {bn : Int → Option Bool} {sc : Int → Option Int} {rs : List (Ro E5)} {ts : List (Ro (Ro E5))} (hR : RI nw od ⟨rs, ts⟩)  (w : World) (HS : S w [Ob b (.cells #[.map (some m1), .map (some m2), .map (some m3), .map (some m4)] 88 (0, 0)), Mp (Value.int .i64) roV okI m1 nw, Mp (Value.int .i64) roV okI m2 od, Mp (Value.int .i64) Value.bool okI m3 bn, Mp (Value.int .i64) (Value.int .i64) okI m4 sc, RowsI 109 5 e5L rs, RowsI 94 1 rowL ts]) : Calls Try.prog 52 #[.pointer (some ⟨b, 0, none⟩)] w fun e w' => ∃ p' c', e = .returned (.slice p' (bansL (RA nw od bn sc)).length c') ∧ S w' ([Rw 3 1 p' ((bansL (RA nw od bn sc)).length) c' (fl intL (bansL (RA nw od bn sc))), Ob b (.cells #[.map (some m1), .map (some m2), .map (some m3), .map (some m4)] 88 (0, 0)), Mp (Value.int .i64) roV okI m1 nw, Mp (Value.int .i64) roV okI m2 od, Mp (Value.int .i64) Value.bool okI m3 bn, Mp (Value.int .i64) (Value.int .i64) okI m4 sc, RowsI 109 5 e5L rs, RowsI 94 1 rowL ts] ++ [Old w (fps [Ob b (.cells #[.map (some m1), .map (some m2), .map (some m3), .map (some m4)] 88 (0, 0)), Mp (Value.int .i64) roV okI m1 nw, Mp (Value.int .i64) roV okI m2 od, Mp (Value.int .i64) Value.bool okI m3 bn, Mp (Value.int .i64) (Value.int .i64) okI m4 sc, RowsI 109 5 e5L rs, RowsI 94 1 rowL ts])]) := by
 have H0 := HS.beginI
 refine enter 20 Try.func52 rfl rfl rfl ?_
 refine g_weak [(0, .pointer (some ⟨b, 0, none⟩))] ⟨rfl, trivial⟩ ?_
 refine w_s ?_
 refine w_a ?_
 refine w_e ?_
 refine w_s ?_
 have H1 := H0.nilFl 3 1 intL
 refine w_a ?_
 refine w_e ?_
 refine g_seq ?_
 refine w_s ?_
 refine w_a ?_
 refine w_e ?_
 refine g_block ?_
 refine g_loop (ι := Nat × List Int × Option Addr × Nat × Nat) (fun (k, out, po, mo, co) => [(0, .pointer (some ⟨b, 0, none⟩)), (3, .slice po mo co), (4, .int .i64 (((k + 1 : Nat) : Int)))]) (fun (k, out, po, mo, co) wx => (k ≤ 1000) ∧ (out = ((((List.range k).map fun (n : Nat) => ((n + 1 : Nat) : Int))).filter (RA nw od bn sc).bn)) ∧ (mo = out.length ∧ mo ≤ k) ∧ S wx [Rw 3 1 po mo co (fl intL out), Ob b (.cells #[.map (some m1), .map (some m2), .map (some m3), .map (some m4)] 88 (0, 0)), Mp (Value.int .i64) roV okI m1 nw, Mp (Value.int .i64) roV okI m2 od, Mp (Value.int .i64) Value.bool okI m3 bn, Mp (Value.int .i64) (Value.int .i64) okI m4 sc, RowsI 109 5 e5L rs, RowsI 94 1 rowL ts, Old w (fps [Ob b (.cells #[.map (some m1), .map (some m2), .map (some m3), .map (some m4)] 88 (0, 0)), Mp (Value.int .i64) roV okI m1 nw, Mp (Value.int .i64) roV okI m2 od, Mp (Value.int .i64) Value.bool okI m3 bn, Mp (Value.int .i64) (Value.int .i64) okI m4 sc, RowsI 109 5 e5L rs, RowsI 94 1 rowL ts])]) (fun (k, out, po, mo, co) => 1000 - k) (0, [], none, 0, 0) ⟨rfl, rfl, rfl, trivial⟩ ⟨Nat.zero_le _, rfl, ⟨rfl, Nat.le_refl _⟩, (H1.takes [0, 1, 2, 3, 4, 5, 6, 7, 8] (by decide))⟩ ?_
 rintro ⟨k, out, po, mo, co⟩ wq2 ⟨hk, ho, hmo, H3⟩
 refine g_weak [(0, .pointer (some ⟨b, 0, none⟩)), (3, .slice po mo co), (4, .int .i64 (((k + 1 : Nat) : Int)))] ⟨rfl, rfl, rfl, trivial⟩ ?_
 refine g_seq ?_
 refine w_s ?_
 refine w_m ?_
 refine w_b ?_
 refine w_e ?_
 by_cases hb4 : (((k + 1 : Nat) : Int) : Int) ≤ 1000
 ·
  have hok_k1 : okI (((k + 1 : Nat) : Int)) := ok_small (by omega)
  refine g_cond_t rfl (decide_eq_true hb4) ?_
  refine g_skip ?_
  refine g_then ?_
  refine g_seq ?_
  refine g_block ?_
  refine w_s ?_
  refine w_r3 ?_
  refine w_1 H3 1 ?_
  refine w_m ?_
  refine w_v (v := .bool (((bn ((k + 1 : Nat) : Int)).getD false))) (ex_cast (x_lookup1 (x := ((k + 1 : Nat) : Int)) (intTy Try.underlying29 Try.underlying3) H3 4 rfl rfl rfl rfl (hok_k1) ze4) (look_B _)) ?_
  refine w_e ?_
  rcases Bool.eq_false_or_eq_true (((bn ((k + 1 : Nat) : Int)).getD false)) with hb5 | hb5
  ·
   have hbk : (RA nw od bn sc).bn (((k + 1 : Nat) : Int)) = true := hb5
   refine g_cond_t rfl hb5 ?_
   refine g_region ?_
   refine w_r2 ?_
   refine l_of (s_buildSlice H3 (wt0 rfl) rfl rfl rfl (vs := [.int .i64 (((k + 1 : Nat) : Int))]) rfl Try.underlying24 sz3 ze3 rfl rfl (cells := #[.int .i64 (((k + 1 : Nat) : Int))]) (by kernel_rfl) ?_)
   intro g6 wq7 H8
   refine l_of (s_appB (m := 1) (l := out) (l2 := [((k + 1 : Nat) : Int)]) intE H8 1 (j0 := 0) rfl rfl ⟨rfl, Nat.le_refl _⟩ (wt0 rfl) rfl rfl rfl rfl rfl rfl Try.underlying24 inf3 rfl (by decide) (by omega) ?_)
   intro p9 c10 wq11 H12
   refine w_a ?_
   refine g_nil ?_
   refine g_in ?_
   refine g_then ?_
   refine g_weak [(0, .pointer (some ⟨b, 0, none⟩)), (3, .slice p9 (mo + 1) c10), (4, .int .i64 (((k + 1 : Nat) : Int)))] ⟨rfl, rfl, rfl, trivial⟩ ?_
   refine g_region ?_
   refine w_m ?_
   refine w_b (v := .int .i64 (((k + 1 + 1 : Nat) : Int))) (hb := (b_add (by rw [w64 (by omega)]; omega))) ?_
   refine w_a ?_
   refine w_e ?_
   refine g_round (i := (k, out, po, mo, co)) ((k + 1), (out ++ [((k + 1 : Nat) : Int)]), p9, mo + 1, c10) ?_ ?_ ?_
   · exact ⟨rfl, rfl, rfl, trivial⟩
   · exact ⟨by omega, (by rw [List.range_succ, List.map_append, List.filter_append, ← ho, List.map_singleton, filt_one_t hbk]), ⟨by simp only [List.length_append, List.length_singleton]; omega, by omega⟩, (H12.takes [1, 2, 3, 4, 5, 6, 7, 8, 9] (by decide))⟩
   · (try dsimp only); omega
  ·
   have hbk : (RA nw od bn sc).bn (((k + 1 : Nat) : Int)) = false := hb5
   refine g_cond_f rfl hb5 ?_
   refine g_skip ?_
   refine g_in ?_
   refine g_then ?_
   refine g_region ?_
   refine w_m ?_
   refine w_b (v := .int .i64 (((k + 1 + 1 : Nat) : Int))) (hb := (b_add (by rw [w64 (by omega)]; omega))) ?_
   refine w_a ?_
   refine w_e ?_
   refine g_round (i := (k, out, po, mo, co)) ((k + 1), out, po, mo, co) ?_ ?_ ?_
   · exact ⟨rfl, rfl, rfl, trivial⟩
   · exact ⟨by omega, (by rw [List.range_succ, List.map_append, List.filter_append, ← ho, List.map_singleton, filt_one_f hbk, List.append_nil]), ⟨hmo.1, by omega⟩, (H3.takes [0, 1, 2, 3, 4, 5, 6, 7, 8] (by decide))⟩
   · (try dsimp only); omega
 ·
  refine g_cond_f rfl (decide_eq_false hb4) ?_
  refine g_exit ?_
  refine g_then_exit ?_
  refine g_then_exit ?_
  refine g_in_hit ?_
  refine g_then ?_
  refine w_s ?_
  refine w_r2 ?_
  refine w_e ?_
  refine g_ret ?_
  refine fin_ret [.tmp 2] [.slice po mo co] rfl ⟨rfl, trivial⟩ ?_
  have hkk : k = 1000 := by omega
  subst hkk
  have hob : out = bansL (RA nw od bn sc) := ho
  exact ⟨po, co, by rw [← hob, ← hmo.1]; rfl, by rw [← hob, ← hmo.1]; exact H3.takes [0, 1, 2, 3, 4, 5, 6, 7, 8] (by decide)⟩
end Go.Proofs.Ytlikhpfdncidkaa
