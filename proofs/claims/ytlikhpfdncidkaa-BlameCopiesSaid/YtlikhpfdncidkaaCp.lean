import Derived.Test.YtlikhpfdncidkaaFk
import Derived.Test.YtlikhpfdncidkaaCo
set_option linter.unusedSimpArgs false
set_option linter.unusedVariables false
namespace Go.Proofs.Ytlikhpfdncidkaa
open Go.RowKit

theorem cl53 : callable Try.prog 53 = true := by kernel_rfl
theorem cl54 : callable Try.prog 54 = true := by kernel_rfl
theorem cl55 : callable Try.prog 55 = true := by kernel_rfl
theorem mpE : Enc 1 mpL := ⟨by decide, fun _ => rfl, fun _ => rfl⟩
set_option maxRecDepth 20000 in
set_option maxHeartbeats 4000000 in
theorem clone_i (mg : Nat) (M : Int → Option Int) (w : World) (HS : S w [Mp (Value.int .i64) (Value.int .i64) okI mg M]) : Calls Try.prog 53 #[.map (some mg)] w fun e w' => ∃ g2, e = .returned (.map (some g2)) ∧ S w' ([Mp (Value.int .i64) (Value.int .i64) okI g2 M, Mp (Value.int .i64) (Value.int .i64) okI mg M] ++ [Old w (fps [Mp (Value.int .i64) (Value.int .i64) okI mg M])]) := by
 have H0 := HS.beginI
 refine enter 9 Try.func53 rfl rfl rfl ?_
 refine g_weak [(0, .map (some mg))] ⟨rfl, trivial⟩ ?_
 refine w_s ?_
 refine w_a ?_
 refine w_e ?_
 refine g_seq ?_
 refine w_s ?_
 refine w_m ?_
 refine w_b (v := .bool false) (hb := (b_eqlMap Try.underlying60)) ?_
 refine w_e ?_
 refine g_cond_f rfl rfl ?_
 refine g_skip ?_
 refine g_then ?_
 refine w_s ?_
 refine w_m ?_
 refine w_v (v := .iface 60 (.map (some mg))) (x_makeInterface rfl rfl Try.underlying60 rfl) ?_
 refine l_of (s_mapsClone H0 0 (wt0 rfl) rfl rfl rfl rfl rfl rfl Try.func72 (by kernel_rfl) (by kernel_rfl) (by kernel_rfl) (by kernel_rfl) ?_)
 intro mg1 wq2 H3
 refine w_v (v := .map (some mg1)) (x_assert1 rfl rfl Try.underlying60 rfl) ?_
 refine w_a ?_
 refine w_e ?_
 refine g_ret ?_
 refine fin_ret [.tmp 2] [.map (some mg1)] rfl ⟨rfl, trivial⟩ ?_
 exact ⟨mg1, rfl, H3.takes [0, 1, 2] (by decide)⟩
set_option maxRecDepth 20000 in
set_option maxHeartbeats 4000000 in
theorem clone_b (mg : Nat) (M : Int → Option Bool) (w : World) (HS : S w [Mp (Value.int .i64) Value.bool okI mg M]) : Calls Try.prog 54 #[.map (some mg)] w fun e w' => ∃ g2, e = .returned (.map (some g2)) ∧ S w' ([Mp (Value.int .i64) Value.bool okI g2 M, Mp (Value.int .i64) Value.bool okI mg M] ++ [Old w (fps [Mp (Value.int .i64) Value.bool okI mg M])]) := by
 have H0 := HS.beginI
 refine enter 9 Try.func54 rfl rfl rfl ?_
 refine g_weak [(0, .map (some mg))] ⟨rfl, trivial⟩ ?_
 refine w_s ?_
 refine w_a ?_
 refine w_e ?_
 refine g_seq ?_
 refine w_s ?_
 refine w_m ?_
 refine w_b (v := .bool false) (hb := (b_eqlMap Try.underlying29)) ?_
 refine w_e ?_
 refine g_cond_f rfl rfl ?_
 refine g_skip ?_
 refine g_then ?_
 refine w_s ?_
 refine w_m ?_
 refine w_v (v := .iface 29 (.map (some mg))) (x_makeInterface rfl rfl Try.underlying29 rfl) ?_
 refine l_of (s_mapsClone H0 0 (wt0 rfl) rfl rfl rfl rfl rfl rfl Try.func72 (by kernel_rfl) (by kernel_rfl) (by kernel_rfl) (by kernel_rfl) ?_)
 intro mg1 wq2 H3
 refine w_v (v := .map (some mg1)) (x_assert1 rfl rfl Try.underlying29 rfl) ?_
 refine w_a ?_
 refine w_e ?_
 refine g_ret ?_
 refine fin_ret [.tmp 2] [.map (some mg1)] rfl ⟨rfl, trivial⟩ ?_
 exact ⟨mg1, rfl, H3.takes [0, 1, 2] (by decide)⟩
set_option maxRecDepth 20000 in
set_option maxHeartbeats 4000000 in
theorem clone_t (mg : Nat) (M : Tr) (w : World) (HS : S w [Mp spK snV okP mg M]) : Calls Try.prog 55 #[.map (some mg)] w fun e w' => ∃ g2, e = .returned (.map (some g2)) ∧ S w' ([Mp spK snV okP g2 M, Mp spK snV okP mg M] ++ [Old w (fps [Mp spK snV okP mg M])]) := by
 have H0 := HS.beginI
 refine enter 9 Try.func55 rfl rfl rfl ?_
 refine g_weak [(0, .map (some mg))] ⟨rfl, trivial⟩ ?_
 refine w_s ?_
 refine w_a ?_
 refine w_e ?_
 refine g_seq ?_
 refine w_s ?_
 refine w_m ?_
 refine w_b (v := .bool false) (hb := (b_eqlMap Try.underlying70)) ?_
 refine w_e ?_
 refine g_cond_f rfl rfl ?_
 refine g_skip ?_
 refine g_then ?_
 refine w_s ?_
 refine w_m ?_
 refine w_v (v := .iface 70 (.map (some mg))) (x_makeInterface rfl rfl Try.underlying70 rfl) ?_
 refine l_of (s_mapsClone H0 0 (wt0 rfl) rfl rfl rfl rfl rfl rfl Try.func72 (by kernel_rfl) (by kernel_rfl) (by kernel_rfl) (by kernel_rfl) ?_)
 intro mg1 wq2 H3
 refine w_v (v := .map (some mg1)) (x_assert1 rfl rfl Try.underlying70 rfl) ?_
 refine w_a ?_
 refine w_e ?_
 refine g_ret ?_
 refine fin_ret [.tmp 2] [.map (some mg1)] rfl ⟨rfl, trivial⟩ ?_
 exact ⟨mg1, rfl, H3.takes [0, 1, 2] (by decide)⟩
theorem clone_fam {ms : List Nat} {ct : Nat → Tr} {m : Nat} (hm : m ∈ ms) (w : World) (HS : S w [FamM spK snV okP ms ct]) : Calls Try.prog 55 #[.map (some m)] w fun e w' => ∃ g', e = .returned (.map (some g')) ∧ S w' ([Mp spK snV okP g' (ct m), FamM spK snV okP ms ct] ++ [Old w (fps [FamM spK snV okP ms ct])]) := by
  have H := HS.beginI
  have hn := H.famMnodup (k := 0) rfl
  have h1 := S.famMout H hm
  refine (clone_t m (ct m) w (h1.takes [0] (by decide))).mono ?_
  rintro e w' ⟨g', rfl, h⟩
  have h2 := h1.absorbI (new := [_, _]) [0] h
  have h3 := S.famMin (h2.takes [1, 2, 0, 3] (by decide)) hm hn
  rw [upd_self] at h3
  exact ⟨g', rfl, h3.takes [1, 0, 2] (by decide)⟩
theorem copy_snoc {l lst : List Nat} {k m g : Nat} {ct ctc : Nat → Tr} {msc : List Nat} (hm : l[k]? = some m) (hin : ∀ x ∈ lst, x ∈ msc) (hg : g ∉ msc) (h : lst.map ctc = (l.take k).map ct) : (lst ++ [g]).map (upd ctc g (ct m)) = (l.take (k + 1)).map ct := by
  rw [take_snoc hm, List.map_append, List.map_append, ← h]
  congr 1
  · exact List.map_congr_left fun x hx => upd_ne fun e => hg (e ▸ hin x hx)
  · simp [upd_same]
theorem copy_in {nw nwc : Int → Option Nat} {ct ctc : Nat → Tr} {rem0 : List (Int × Nat)} {msc lst : List Nat} {g : Nat} (h : ∀ m ∈ lst, m ∈ msc ∧ ∀ i, nwc i ≠ some m) (hg : g ∉ msc) (hC : CN nw ct rem0 [] nwc msc ctc) : ∀ m ∈ lst ++ [g], m ∈ g :: msc ∧ ∀ i, nwc i ≠ some m := fun m hm => by
  rcases List.mem_append.1 hm with hm | hm
  · exact ⟨List.mem_cons_of_mem _ (h m hm).1, (h m hm).2⟩
  · rw [List.mem_singleton] at hm; subst hm
    exact ⟨List.mem_cons_self .., fun i hi => hg (hC.a i _ hi).2.1⟩
set_option maxRecDepth 20000 in
set_option maxHeartbeats 4000000 in
theorem copy_s {b m1 m2 m3 m4 : Nat} {sc : Int → Option Int} {bn : Int → Option Bool} {nw : Int → Option Nat} {od : Int → Option (Ro Nat)} {rs : List (Ro Nat)} {ms : List Nat} {ct : Nat → Tr} (hB : BI nw od rs ms ct)  (w : World) (HS : S w [Ob b (.cells #[.map (some m1), .map (some m2), .map (some m3), .map (some m4)] 66 (0, 0)), Mp (Value.int .i64) (Value.int .i64) okI m1 sc, Mp (Value.int .i64) Value.bool okI m2 bn, Mp (Value.int .i64) mpV okI m3 nw, Mp (Value.int .i64) roV okI m4 od, FamM spK snV okP ms ct, RowsI 70 1 mpL rs]) : Calls Try.prog 22 #[.pointer (some ⟨b, 0, none⟩)] w fun e w' => ∃ c m5 m6 m7 m8 nwc odc msc ctc rsc, BI nwc odc rsc msc ctc ∧ ((∀ i, okI i → nwA nwc ctc i = nwA nw ct i) ∧ ∀ i, ¬ okI i → nwc i = none) ∧ ((∀ i, okI i → odA odc ctc i = odA od ct i) ∧ ∀ i, ¬ okI i → odc i = none) ∧ e = .returned (.pointer (some ⟨c, 0, none⟩)) ∧ S w' ([Ob c (.cells #[.map (some m5), .map (some m6), .map (some m7), .map (some m8)] 66 (0, 0)), Mp (Value.int .i64) (Value.int .i64) okI m5 sc, Mp (Value.int .i64) Value.bool okI m6 bn, Mp (Value.int .i64) mpV okI m7 nwc, Mp (Value.int .i64) roV okI m8 odc, FamM spK snV okP msc ctc, RowsI 70 1 mpL rsc, Ob b (.cells #[.map (some m1), .map (some m2), .map (some m3), .map (some m4)] 66 (0, 0)), Mp (Value.int .i64) (Value.int .i64) okI m1 sc, Mp (Value.int .i64) Value.bool okI m2 bn, Mp (Value.int .i64) mpV okI m3 nw, Mp (Value.int .i64) roV okI m4 od, FamM spK snV okP ms ct, RowsI 70 1 mpL rs] ++ [Old w (fps [Ob b (.cells #[.map (some m1), .map (some m2), .map (some m3), .map (some m4)] 66 (0, 0)), Mp (Value.int .i64) (Value.int .i64) okI m1 sc, Mp (Value.int .i64) Value.bool okI m2 bn, Mp (Value.int .i64) mpV okI m3 nw, Mp (Value.int .i64) roV okI m4 od, FamM spK snV okP ms ct, RowsI 70 1 mpL rs])]) := by
 have H0 := HS.beginI
 refine enter 79 Try.func22 rfl rfl rfl ?_
 refine g_weak [(0, .pointer (some ⟨b, 0, none⟩))] ⟨rfl, trivial⟩ ?_
 refine w_s ?_
 refine w_a ?_
 refine w_e ?_
 refine g_seq ?_
 refine w_s ?_
 refine w_m ?_
 refine w_b (v := .bool false) (hb := (b_eqN (r := false) Try.underlying28 rfl)) ?_
 refine w_e ?_
 refine g_cond_f rfl rfl ?_
 refine g_skip ?_
 refine g_then ?_
 refine g_seq ?_
 refine g_cut (ι := Nat × Nat × Nat × Nat × Nat) (fun (c, m5, m6, m7, m8) => [(0, .pointer (some ⟨b, 0, none⟩)), (3, .pointer (some ⟨c, 0, none⟩))]) (fun (c, m5, m6, m7, m8) wx => S wx [Ob c (.cells #[.map (some m5), .map (some m6), .map (some m7), .map (some m8)] 66 (0, 0)), Mp (Value.int .i64) (Value.int .i64) okI m5 sc, Mp (Value.int .i64) Value.bool okI m6 bn, Mp (Value.int .i64) mpV okI m7 ((fun _ => none) : Int → Option Nat), Mp (Value.int .i64) roV okI m8 ((fun _ => none) : Int → Option (Ro Nat)), Ob b (.cells #[.map (some m1), .map (some m2), .map (some m3), .map (some m4)] 66 (0, 0)), Mp (Value.int .i64) (Value.int .i64) okI m1 sc, Mp (Value.int .i64) Value.bool okI m2 bn, Mp (Value.int .i64) mpV okI m3 nw, Mp (Value.int .i64) roV okI m4 od, FamM spK snV okP ms ct, RowsI 70 1 mpL rs, Old w (fps [Ob b (.cells #[.map (some m1), .map (some m2), .map (some m3), .map (some m4)] 66 (0, 0)), Mp (Value.int .i64) (Value.int .i64) okI m1 sc, Mp (Value.int .i64) Value.bool okI m2 bn, Mp (Value.int .i64) mpV okI m3 nw, Mp (Value.int .i64) roV okI m4 od, FamM spK snV okP ms ct, RowsI 70 1 mpL rs])]) ?_ ?_
 ·
  refine g_any [] (fun wx => S wx [Ob b (.cells #[.map (some m1), .map (some m2), .map (some m3), .map (some m4)] 66 (0, 0))]) [] (by kernel_rfl) H0 (fun wq1 H2 => ?_)
  have cm1 := H2.mask [true, false, false, false, false, false, false, false]
  refine w_t 0 rfl cm1 (fun _ _ => xm) ?_
  refine w_t 1 rfl cm1 (fun _ _ => xn) ?_
  refine w_t 2 rfl cm1 (fun _ _ => xf 0) ?_
  refine w_t 3 rfl cm1 (fun _ _ => xf 0) ?_
  refine w_t 4 rfl cm1 (fun _ H => xl H 0) ?_
  refine w_t 6 rfl cm1 (fun _ _ => xm) ?_
  refine w_t 7 rfl cm1 (fun _ _ => xn) ?_
  refine w_t 8 rfl cm1 (fun _ _ => xf 0) ?_
  refine w_t 9 rfl cm1 (fun _ _ => xf 1) ?_
  refine w_t 10 rfl cm1 (fun _ H => xl H 0) ?_
  refine a_three (i := 5) (j := 13) (k := 14) (by kernel_rfl) rfl rfl rfl ?_ ?_ ?_
  ·
   refine s_call (wt0 rfl) (x_call' rfl rfl cl53) (clone_i m1 sc _ (H2.takes [1] (by decide))) ?_
   rintro _ wq4 ⟨mg3, rfl, H5⟩
   replace H5 : S wq4 [Mp (Value.int .i64) (Value.int .i64) okI mg3 sc, Mp (Value.int .i64) (Value.int .i64) okI m1 sc, Ob b (.cells #[.map (some m1), .map (some m2), .map (some m3), .map (some m4)] 66 (0, 0)), Mp (Value.int .i64) Value.bool okI m2 bn, Mp (Value.int .i64) mpV okI m3 nw, Mp (Value.int .i64) roV okI m4 od, FamM spK snV okP ms ct, RowsI 70 1 mpL rs, Old w (fps [Ob b (.cells #[.map (some m1), .map (some m2), .map (some m3), .map (some m4)] 66 (0, 0)), Mp (Value.int .i64) (Value.int .i64) okI m1 sc, Mp (Value.int .i64) Value.bool okI m2 bn, Mp (Value.int .i64) mpV okI m3 nw, Mp (Value.int .i64) roV okI m4 od, FamM spK snV okP ms ct, RowsI 70 1 mpL rs])] := by have h := H2.absorbI [1] H5; exact h
   refine b_ret rfl rfl ?_
   refine a_k (H5.mask [false, false, true, false, false, false, false, false, false]) ?_
   refine a_three (i := 11) (j := 13) (k := 14) (by kernel_rfl) rfl rfl rfl ?_ ?_ ?_
   ·
    refine s_call (wt0 rfl) (x_call' rfl rfl cl54) (clone_b m2 bn _ (H5.takes [3] (by decide))) ?_
    rintro _ wq7 ⟨mg6, rfl, H8⟩
    replace H8 : S wq7 [Mp (Value.int .i64) Value.bool okI mg6 bn, Mp (Value.int .i64) Value.bool okI m2 bn, Mp (Value.int .i64) (Value.int .i64) okI mg3 sc, Mp (Value.int .i64) (Value.int .i64) okI m1 sc, Ob b (.cells #[.map (some m1), .map (some m2), .map (some m3), .map (some m4)] 66 (0, 0)), Mp (Value.int .i64) mpV okI m3 nw, Mp (Value.int .i64) roV okI m4 od, FamM spK snV okP ms ct, RowsI 70 1 mpL rs, Old w (fps [Ob b (.cells #[.map (some m1), .map (some m2), .map (some m3), .map (some m4)] 66 (0, 0)), Mp (Value.int .i64) (Value.int .i64) okI m1 sc, Mp (Value.int .i64) Value.bool okI m2 bn, Mp (Value.int .i64) mpV okI m3 nw, Mp (Value.int .i64) roV okI m4 od, FamM spK snV okP ms ct, RowsI 70 1 mpL rs])] := by have h := H5.absorbI [3] H8; exact h
    refine b_ret rfl rfl ?_
    have cm2 := H8.mask [false, false, false, false, true, false, false, false, false, false]
    refine a_k cm2 ?_
    refine w_t (v := .agg #[.map (some mg3), .map (some mg6)]) 12 rfl cm2 (fun _ _ => x_build (vs := [.map (some mg3), .map (some mg6)]) rfl rfl (cells := #[.map (some mg3), .map (some mg6)]) (by kernel_rfl)) ?_
    refine a_two (i := 13) (j := 14) (by kernel_rfl) rfl rfl ?_ ?_
    ·
     refine s_makeMap (α := Nat) (Value.int .i64) mpV okI H8 (wt0 rfl) rfl rfl rfl ?_
     intro mg9 wq10 H11
     refine a_k (H11.mask [false, false, false, false, false, true, false, false, false, false, false]) ?_
     refine a_one (i := 14) (by kernel_rfl) rfl ?_
     refine s_makeMap (α := (Ro Nat)) (Value.int .i64) roV okI H11 (wt0 rfl) rfl rfl rfl ?_
     intro mg12 wq13 H14
     have cm3 := H14.mask [false, false, false, false, false, false, true, false, false, false, false, false]
     refine a_k cm3 ?_
     refine w_t (v := .agg #[.map (some mg3), .map (some mg6), .map (some mg9), .map (some mg12)]) 15 rfl cm3 (fun _ _ => x_build (vs := [.agg #[.map (some mg3), .map (some mg6)], .map (some mg9), .map (some mg12)]) rfl rfl (cells := #[.map (some mg3), .map (some mg6), .map (some mg9), .map (some mg12)]) (by kernel_rfl)) ?_
     refine a_one (i := 16) (by kernel_rfl) rfl ?_
     refine s_box H14 (wt0 rfl) rfl rfl rfl rfl ?_
     intro g15 wq16 H17
     have cm4 := H17.mask [false, false, false, false, false, false, false, true, false, false, false, false, false]
     refine a_k cm4 ?_
     refine w_t 17 rfl cm4 (fun _ _ => xa) ?_
     refine a_done (by kernel_rfl) ?_
     refine g_then ?_
     refine g_mid (g15, mg3, mg6, mg9, mg12) ?_ ?_
     · exact ⟨rfl, rfl, trivial⟩
     · exact (H17.takes [0, 5, 3, 2, 1, 7, 6, 4, 8, 9, 10, 11, 12] (by decide))
    ·
     refine s_makeMap (α := (Ro Nat)) (Value.int .i64) roV okI H8 (wt0 rfl) rfl rfl rfl ?_
     intro mg18 wq19 H20
     refine a_k (H20.mask [false, false, false, false, false, true, false, false, false, false, false]) ?_
     refine a_one (i := 13) (by kernel_rfl) rfl ?_
     refine s_makeMap (α := Nat) (Value.int .i64) mpV okI H20 (wt0 rfl) rfl rfl rfl ?_
     intro mg21 wq22 H23
     have cm5 := H23.mask [false, false, false, false, false, false, true, false, false, false, false, false]
     refine a_k cm5 ?_
     refine w_t (v := .agg #[.map (some mg3), .map (some mg6), .map (some mg21), .map (some mg18)]) 15 rfl cm5 (fun _ _ => x_build (vs := [.agg #[.map (some mg3), .map (some mg6)], .map (some mg21), .map (some mg18)]) rfl rfl (cells := #[.map (some mg3), .map (some mg6), .map (some mg21), .map (some mg18)]) (by kernel_rfl)) ?_
     refine a_one (i := 16) (by kernel_rfl) rfl ?_
     refine s_box H23 (wt0 rfl) rfl rfl rfl rfl ?_
     intro g24 wq25 H26
     have cm6 := H26.mask [false, false, false, false, false, false, false, true, false, false, false, false, false]
     refine a_k cm6 ?_
     refine w_t 17 rfl cm6 (fun _ _ => xa) ?_
     refine a_done (by kernel_rfl) ?_
     refine g_then ?_
     refine g_mid (g24, mg3, mg6, mg21, mg18) ?_ ?_
     · exact ⟨rfl, rfl, trivial⟩
     · exact (H26.takes [0, 5, 3, 1, 2, 7, 6, 4, 8, 9, 10, 11, 12] (by decide))
   ·
    refine s_makeMap (α := Nat) (Value.int .i64) mpV okI H5 (wt0 rfl) rfl rfl rfl ?_
    intro mg27 wq28 H29
    refine a_k (H29.mask [false, false, false, true, false, false, false, false, false, false]) ?_
    refine a_two (i := 11) (j := 14) (by kernel_rfl) rfl rfl ?_ ?_
    ·
     refine s_call (wt0 rfl) (x_call' rfl rfl cl54) (clone_b m2 bn _ (H29.takes [4] (by decide))) ?_
     rintro _ wq31 ⟨mg30, rfl, H32⟩
     replace H32 : S wq31 [Mp (Value.int .i64) Value.bool okI mg30 bn, Mp (Value.int .i64) Value.bool okI m2 bn, Mp (Value.int .i64) mpV okI mg27 (fun _ => none), Mp (Value.int .i64) (Value.int .i64) okI mg3 sc, Mp (Value.int .i64) (Value.int .i64) okI m1 sc, Ob b (.cells #[.map (some m1), .map (some m2), .map (some m3), .map (some m4)] 66 (0, 0)), Mp (Value.int .i64) mpV okI m3 nw, Mp (Value.int .i64) roV okI m4 od, FamM spK snV okP ms ct, RowsI 70 1 mpL rs, Old w (fps [Ob b (.cells #[.map (some m1), .map (some m2), .map (some m3), .map (some m4)] 66 (0, 0)), Mp (Value.int .i64) (Value.int .i64) okI m1 sc, Mp (Value.int .i64) Value.bool okI m2 bn, Mp (Value.int .i64) mpV okI m3 nw, Mp (Value.int .i64) roV okI m4 od, FamM spK snV okP ms ct, RowsI 70 1 mpL rs])] := H29.absorbI (new := [Mp (Value.int .i64) Value.bool okI mg30 bn, Mp (Value.int .i64) Value.bool okI m2 bn]) [4] H32
     refine b_ret rfl rfl ?_
     have cm7 := H32.mask [false, false, false, false, false, true, false, false, false, false, false]
     refine a_k cm7 ?_
     refine w_t (v := .agg #[.map (some mg3), .map (some mg30)]) 12 rfl cm7 (fun _ _ => x_build (vs := [.map (some mg3), .map (some mg30)]) rfl rfl (cells := #[.map (some mg3), .map (some mg30)]) (by kernel_rfl)) ?_
     refine a_one (i := 14) (by kernel_rfl) rfl ?_
     refine s_makeMap (α := (Ro Nat)) (Value.int .i64) roV okI H32 (wt0 rfl) rfl rfl rfl ?_
     intro mg33 wq34 H35
     have cm8 := H35.mask [false, false, false, false, false, false, true, false, false, false, false, false]
     refine a_k cm8 ?_
     refine w_t (v := .agg #[.map (some mg3), .map (some mg30), .map (some mg27), .map (some mg33)]) 15 rfl cm8 (fun _ _ => x_build (vs := [.agg #[.map (some mg3), .map (some mg30)], .map (some mg27), .map (some mg33)]) rfl rfl (cells := #[.map (some mg3), .map (some mg30), .map (some mg27), .map (some mg33)]) (by kernel_rfl)) ?_
     refine a_one (i := 16) (by kernel_rfl) rfl ?_
     refine s_box H35 (wt0 rfl) rfl rfl rfl rfl ?_
     intro g36 wq37 H38
     have cm9 := H38.mask [false, false, false, false, false, false, false, true, false, false, false, false, false]
     refine a_k cm9 ?_
     refine w_t 17 rfl cm9 (fun _ _ => xa) ?_
     refine a_done (by kernel_rfl) ?_
     refine g_then ?_
     refine g_mid (g36, mg3, mg30, mg27, mg33) ?_ ?_
     · exact ⟨rfl, rfl, trivial⟩
     · exact (H38.takes [0, 5, 2, 4, 1, 7, 6, 3, 8, 9, 10, 11, 12] (by decide))
    ·
     refine s_makeMap (α := (Ro Nat)) (Value.int .i64) roV okI H29 (wt0 rfl) rfl rfl rfl ?_
     intro mg39 wq40 H41
     refine a_k (H41.mask [false, false, false, false, true, false, false, false, false, false, false]) ?_
     refine a_one (i := 11) (by kernel_rfl) rfl ?_
     refine s_call (wt0 rfl) (x_call' rfl rfl cl54) (clone_b m2 bn _ (H41.takes [5] (by decide))) ?_
     rintro _ wq43 ⟨mg42, rfl, H44⟩
     replace H44 : S wq43 [Mp (Value.int .i64) Value.bool okI mg42 bn, Mp (Value.int .i64) Value.bool okI m2 bn, Mp (Value.int .i64) roV okI mg39 (fun _ => none), Mp (Value.int .i64) mpV okI mg27 (fun _ => none), Mp (Value.int .i64) (Value.int .i64) okI mg3 sc, Mp (Value.int .i64) (Value.int .i64) okI m1 sc, Ob b (.cells #[.map (some m1), .map (some m2), .map (some m3), .map (some m4)] 66 (0, 0)), Mp (Value.int .i64) mpV okI m3 nw, Mp (Value.int .i64) roV okI m4 od, FamM spK snV okP ms ct, RowsI 70 1 mpL rs, Old w (fps [Ob b (.cells #[.map (some m1), .map (some m2), .map (some m3), .map (some m4)] 66 (0, 0)), Mp (Value.int .i64) (Value.int .i64) okI m1 sc, Mp (Value.int .i64) Value.bool okI m2 bn, Mp (Value.int .i64) mpV okI m3 nw, Mp (Value.int .i64) roV okI m4 od, FamM spK snV okP ms ct, RowsI 70 1 mpL rs])] := H41.absorbI (new := [Mp (Value.int .i64) Value.bool okI mg42 bn, Mp (Value.int .i64) Value.bool okI m2 bn]) [5] H44
     refine b_ret rfl rfl ?_
     have cm10 := H44.mask [false, false, false, false, false, false, true, false, false, false, false, false]
     refine a_k cm10 ?_
     refine w_t (v := .agg #[.map (some mg3), .map (some mg42)]) 12 rfl cm10 (fun _ _ => x_build (vs := [.map (some mg3), .map (some mg42)]) rfl rfl (cells := #[.map (some mg3), .map (some mg42)]) (by kernel_rfl)) ?_
     refine w_t (v := .agg #[.map (some mg3), .map (some mg42), .map (some mg27), .map (some mg39)]) 15 rfl cm10 (fun _ _ => x_build (vs := [.agg #[.map (some mg3), .map (some mg42)], .map (some mg27), .map (some mg39)]) rfl rfl (cells := #[.map (some mg3), .map (some mg42), .map (some mg27), .map (some mg39)]) (by kernel_rfl)) ?_
     refine a_one (i := 16) (by kernel_rfl) rfl ?_
     refine s_box H44 (wt0 rfl) rfl rfl rfl rfl ?_
     intro g45 wq46 H47
     have cm11 := H47.mask [false, false, false, false, false, false, false, true, false, false, false, false, false]
     refine a_k cm11 ?_
     refine w_t 17 rfl cm11 (fun _ _ => xa) ?_
     refine a_done (by kernel_rfl) ?_
     refine g_then ?_
     refine g_mid (g45, mg3, mg42, mg27, mg39) ?_ ?_
     · exact ⟨rfl, rfl, trivial⟩
     · exact (H47.takes [0, 5, 1, 4, 3, 7, 6, 2, 8, 9, 10, 11, 12] (by decide))
   ·
    refine s_makeMap (α := (Ro Nat)) (Value.int .i64) roV okI H5 (wt0 rfl) rfl rfl rfl ?_
    intro mg48 wq49 H50
    refine a_k (H50.mask [false, false, false, true, false, false, false, false, false, false]) ?_
    refine a_two (i := 11) (j := 13) (by kernel_rfl) rfl rfl ?_ ?_
    ·
     refine s_call (wt0 rfl) (x_call' rfl rfl cl54) (clone_b m2 bn _ (H50.takes [4] (by decide))) ?_
     rintro _ wq52 ⟨mg51, rfl, H53⟩
     replace H53 : S wq52 [Mp (Value.int .i64) Value.bool okI mg51 bn, Mp (Value.int .i64) Value.bool okI m2 bn, Mp (Value.int .i64) roV okI mg48 (fun _ => none), Mp (Value.int .i64) (Value.int .i64) okI mg3 sc, Mp (Value.int .i64) (Value.int .i64) okI m1 sc, Ob b (.cells #[.map (some m1), .map (some m2), .map (some m3), .map (some m4)] 66 (0, 0)), Mp (Value.int .i64) mpV okI m3 nw, Mp (Value.int .i64) roV okI m4 od, FamM spK snV okP ms ct, RowsI 70 1 mpL rs, Old w (fps [Ob b (.cells #[.map (some m1), .map (some m2), .map (some m3), .map (some m4)] 66 (0, 0)), Mp (Value.int .i64) (Value.int .i64) okI m1 sc, Mp (Value.int .i64) Value.bool okI m2 bn, Mp (Value.int .i64) mpV okI m3 nw, Mp (Value.int .i64) roV okI m4 od, FamM spK snV okP ms ct, RowsI 70 1 mpL rs])] := H50.absorbI (new := [Mp (Value.int .i64) Value.bool okI mg51 bn, Mp (Value.int .i64) Value.bool okI m2 bn]) [4] H53
     refine b_ret rfl rfl ?_
     have cm12 := H53.mask [false, false, false, false, false, true, false, false, false, false, false]
     refine a_k cm12 ?_
     refine w_t (v := .agg #[.map (some mg3), .map (some mg51)]) 12 rfl cm12 (fun _ _ => x_build (vs := [.map (some mg3), .map (some mg51)]) rfl rfl (cells := #[.map (some mg3), .map (some mg51)]) (by kernel_rfl)) ?_
     refine a_one (i := 13) (by kernel_rfl) rfl ?_
     refine s_makeMap (α := Nat) (Value.int .i64) mpV okI H53 (wt0 rfl) rfl rfl rfl ?_
     intro mg54 wq55 H56
     have cm13 := H56.mask [false, false, false, false, false, false, true, false, false, false, false, false]
     refine a_k cm13 ?_
     refine w_t (v := .agg #[.map (some mg3), .map (some mg51), .map (some mg54), .map (some mg48)]) 15 rfl cm13 (fun _ _ => x_build (vs := [.agg #[.map (some mg3), .map (some mg51)], .map (some mg54), .map (some mg48)]) rfl rfl (cells := #[.map (some mg3), .map (some mg51), .map (some mg54), .map (some mg48)]) (by kernel_rfl)) ?_
     refine a_one (i := 16) (by kernel_rfl) rfl ?_
     refine s_box H56 (wt0 rfl) rfl rfl rfl rfl ?_
     intro g57 wq58 H59
     have cm14 := H59.mask [false, false, false, false, false, false, false, true, false, false, false, false, false]
     refine a_k cm14 ?_
     refine w_t 17 rfl cm14 (fun _ _ => xa) ?_
     refine a_done (by kernel_rfl) ?_
     refine g_then ?_
     refine g_mid (g57, mg3, mg51, mg54, mg48) ?_ ?_
     · exact ⟨rfl, rfl, trivial⟩
     · exact (H59.takes [0, 5, 2, 1, 4, 7, 6, 3, 8, 9, 10, 11, 12] (by decide))
    ·
     refine s_makeMap (α := Nat) (Value.int .i64) mpV okI H50 (wt0 rfl) rfl rfl rfl ?_
     intro mg60 wq61 H62
     refine a_k (H62.mask [false, false, false, false, true, false, false, false, false, false, false]) ?_
     refine a_one (i := 11) (by kernel_rfl) rfl ?_
     refine s_call (wt0 rfl) (x_call' rfl rfl cl54) (clone_b m2 bn _ (H62.takes [5] (by decide))) ?_
     rintro _ wq64 ⟨mg63, rfl, H65⟩
     replace H65 : S wq64 [Mp (Value.int .i64) Value.bool okI mg63 bn, Mp (Value.int .i64) Value.bool okI m2 bn, Mp (Value.int .i64) mpV okI mg60 (fun _ => none), Mp (Value.int .i64) roV okI mg48 (fun _ => none), Mp (Value.int .i64) (Value.int .i64) okI mg3 sc, Mp (Value.int .i64) (Value.int .i64) okI m1 sc, Ob b (.cells #[.map (some m1), .map (some m2), .map (some m3), .map (some m4)] 66 (0, 0)), Mp (Value.int .i64) mpV okI m3 nw, Mp (Value.int .i64) roV okI m4 od, FamM spK snV okP ms ct, RowsI 70 1 mpL rs, Old w (fps [Ob b (.cells #[.map (some m1), .map (some m2), .map (some m3), .map (some m4)] 66 (0, 0)), Mp (Value.int .i64) (Value.int .i64) okI m1 sc, Mp (Value.int .i64) Value.bool okI m2 bn, Mp (Value.int .i64) mpV okI m3 nw, Mp (Value.int .i64) roV okI m4 od, FamM spK snV okP ms ct, RowsI 70 1 mpL rs])] := H62.absorbI (new := [Mp (Value.int .i64) Value.bool okI mg63 bn, Mp (Value.int .i64) Value.bool okI m2 bn]) [5] H65
     refine b_ret rfl rfl ?_
     have cm15 := H65.mask [false, false, false, false, false, false, true, false, false, false, false, false]
     refine a_k cm15 ?_
     refine w_t (v := .agg #[.map (some mg3), .map (some mg63)]) 12 rfl cm15 (fun _ _ => x_build (vs := [.map (some mg3), .map (some mg63)]) rfl rfl (cells := #[.map (some mg3), .map (some mg63)]) (by kernel_rfl)) ?_
     refine w_t (v := .agg #[.map (some mg3), .map (some mg63), .map (some mg60), .map (some mg48)]) 15 rfl cm15 (fun _ _ => x_build (vs := [.agg #[.map (some mg3), .map (some mg63)], .map (some mg60), .map (some mg48)]) rfl rfl (cells := #[.map (some mg3), .map (some mg63), .map (some mg60), .map (some mg48)]) (by kernel_rfl)) ?_
     refine a_one (i := 16) (by kernel_rfl) rfl ?_
     refine s_box H65 (wt0 rfl) rfl rfl rfl rfl ?_
     intro g66 wq67 H68
     have cm16 := H68.mask [false, false, false, false, false, false, false, true, false, false, false, false, false]
     refine a_k cm16 ?_
     refine w_t 17 rfl cm16 (fun _ _ => xa) ?_
     refine a_done (by kernel_rfl) ?_
     refine g_then ?_
     refine g_mid (g66, mg3, mg63, mg60, mg48) ?_ ?_
     · exact ⟨rfl, rfl, trivial⟩
     · exact (H68.takes [0, 5, 1, 3, 4, 7, 6, 2, 8, 9, 10, 11, 12] (by decide))
  ·
   refine s_makeMap (α := Nat) (Value.int .i64) mpV okI H2 (wt0 rfl) rfl rfl rfl ?_
   intro mg69 wq70 H71
   refine a_k (H71.mask [false, true, false, false, false, false, false, false, false]) ?_
   refine a_two (i := 5) (j := 14) (by kernel_rfl) rfl rfl ?_ ?_
   ·
    refine s_call (wt0 rfl) (x_call' rfl rfl cl53) (clone_i m1 sc _ (H71.takes [2] (by decide))) ?_
    rintro _ wq73 ⟨mg72, rfl, H74⟩
    replace H74 : S wq73 [Mp (Value.int .i64) (Value.int .i64) okI mg72 sc, Mp (Value.int .i64) (Value.int .i64) okI m1 sc, Mp (Value.int .i64) mpV okI mg69 (fun _ => none), Ob b (.cells #[.map (some m1), .map (some m2), .map (some m3), .map (some m4)] 66 (0, 0)), Mp (Value.int .i64) Value.bool okI m2 bn, Mp (Value.int .i64) mpV okI m3 nw, Mp (Value.int .i64) roV okI m4 od, FamM spK snV okP ms ct, RowsI 70 1 mpL rs, Old w (fps [Ob b (.cells #[.map (some m1), .map (some m2), .map (some m3), .map (some m4)] 66 (0, 0)), Mp (Value.int .i64) (Value.int .i64) okI m1 sc, Mp (Value.int .i64) Value.bool okI m2 bn, Mp (Value.int .i64) mpV okI m3 nw, Mp (Value.int .i64) roV okI m4 od, FamM spK snV okP ms ct, RowsI 70 1 mpL rs])] := H71.absorbI (new := [Mp (Value.int .i64) (Value.int .i64) okI mg72 sc, Mp (Value.int .i64) (Value.int .i64) okI m1 sc]) [2] H74
    refine b_ret rfl rfl ?_
    refine a_k (H74.mask [false, false, false, true, false, false, false, false, false, false]) ?_
    refine a_two (i := 11) (j := 14) (by kernel_rfl) rfl rfl ?_ ?_
    ·
     refine s_call (wt0 rfl) (x_call' rfl rfl cl54) (clone_b m2 bn _ (H74.takes [4] (by decide))) ?_
     rintro _ wq76 ⟨mg75, rfl, H77⟩
     replace H77 : S wq76 [Mp (Value.int .i64) Value.bool okI mg75 bn, Mp (Value.int .i64) Value.bool okI m2 bn, Mp (Value.int .i64) (Value.int .i64) okI mg72 sc, Mp (Value.int .i64) (Value.int .i64) okI m1 sc, Mp (Value.int .i64) mpV okI mg69 (fun _ => none), Ob b (.cells #[.map (some m1), .map (some m2), .map (some m3), .map (some m4)] 66 (0, 0)), Mp (Value.int .i64) mpV okI m3 nw, Mp (Value.int .i64) roV okI m4 od, FamM spK snV okP ms ct, RowsI 70 1 mpL rs, Old w (fps [Ob b (.cells #[.map (some m1), .map (some m2), .map (some m3), .map (some m4)] 66 (0, 0)), Mp (Value.int .i64) (Value.int .i64) okI m1 sc, Mp (Value.int .i64) Value.bool okI m2 bn, Mp (Value.int .i64) mpV okI m3 nw, Mp (Value.int .i64) roV okI m4 od, FamM spK snV okP ms ct, RowsI 70 1 mpL rs])] := H74.absorbI (new := [Mp (Value.int .i64) Value.bool okI mg75 bn, Mp (Value.int .i64) Value.bool okI m2 bn]) [4] H77
     refine b_ret rfl rfl ?_
     have cm17 := H77.mask [false, false, false, false, false, true, false, false, false, false, false]
     refine a_k cm17 ?_
     refine w_t (v := .agg #[.map (some mg72), .map (some mg75)]) 12 rfl cm17 (fun _ _ => x_build (vs := [.map (some mg72), .map (some mg75)]) rfl rfl (cells := #[.map (some mg72), .map (some mg75)]) (by kernel_rfl)) ?_
     refine a_one (i := 14) (by kernel_rfl) rfl ?_
     refine s_makeMap (α := (Ro Nat)) (Value.int .i64) roV okI H77 (wt0 rfl) rfl rfl rfl ?_
     intro mg78 wq79 H80
     have cm18 := H80.mask [false, false, false, false, false, false, true, false, false, false, false, false]
     refine a_k cm18 ?_
     refine w_t (v := .agg #[.map (some mg72), .map (some mg75), .map (some mg69), .map (some mg78)]) 15 rfl cm18 (fun _ _ => x_build (vs := [.agg #[.map (some mg72), .map (some mg75)], .map (some mg69), .map (some mg78)]) rfl rfl (cells := #[.map (some mg72), .map (some mg75), .map (some mg69), .map (some mg78)]) (by kernel_rfl)) ?_
     refine a_one (i := 16) (by kernel_rfl) rfl ?_
     refine s_box H80 (wt0 rfl) rfl rfl rfl rfl ?_
     intro g81 wq82 H83
     have cm19 := H83.mask [false, false, false, false, false, false, false, true, false, false, false, false, false]
     refine a_k cm19 ?_
     refine w_t 17 rfl cm19 (fun _ _ => xa) ?_
     refine a_done (by kernel_rfl) ?_
     refine g_then ?_
     refine g_mid (g81, mg72, mg75, mg69, mg78) ?_ ?_
     · exact ⟨rfl, rfl, trivial⟩
     · exact (H83.takes [0, 4, 2, 6, 1, 7, 5, 3, 8, 9, 10, 11, 12] (by decide))
    ·
     refine s_makeMap (α := (Ro Nat)) (Value.int .i64) roV okI H74 (wt0 rfl) rfl rfl rfl ?_
     intro mg84 wq85 H86
     refine a_k (H86.mask [false, false, false, false, true, false, false, false, false, false, false]) ?_
     refine a_one (i := 11) (by kernel_rfl) rfl ?_
     refine s_call (wt0 rfl) (x_call' rfl rfl cl54) (clone_b m2 bn _ (H86.takes [5] (by decide))) ?_
     rintro _ wq88 ⟨mg87, rfl, H89⟩
     replace H89 : S wq88 [Mp (Value.int .i64) Value.bool okI mg87 bn, Mp (Value.int .i64) Value.bool okI m2 bn, Mp (Value.int .i64) roV okI mg84 (fun _ => none), Mp (Value.int .i64) (Value.int .i64) okI mg72 sc, Mp (Value.int .i64) (Value.int .i64) okI m1 sc, Mp (Value.int .i64) mpV okI mg69 (fun _ => none), Ob b (.cells #[.map (some m1), .map (some m2), .map (some m3), .map (some m4)] 66 (0, 0)), Mp (Value.int .i64) mpV okI m3 nw, Mp (Value.int .i64) roV okI m4 od, FamM spK snV okP ms ct, RowsI 70 1 mpL rs, Old w (fps [Ob b (.cells #[.map (some m1), .map (some m2), .map (some m3), .map (some m4)] 66 (0, 0)), Mp (Value.int .i64) (Value.int .i64) okI m1 sc, Mp (Value.int .i64) Value.bool okI m2 bn, Mp (Value.int .i64) mpV okI m3 nw, Mp (Value.int .i64) roV okI m4 od, FamM spK snV okP ms ct, RowsI 70 1 mpL rs])] := H86.absorbI (new := [Mp (Value.int .i64) Value.bool okI mg87 bn, Mp (Value.int .i64) Value.bool okI m2 bn]) [5] H89
     refine b_ret rfl rfl ?_
     have cm20 := H89.mask [false, false, false, false, false, false, true, false, false, false, false, false]
     refine a_k cm20 ?_
     refine w_t (v := .agg #[.map (some mg72), .map (some mg87)]) 12 rfl cm20 (fun _ _ => x_build (vs := [.map (some mg72), .map (some mg87)]) rfl rfl (cells := #[.map (some mg72), .map (some mg87)]) (by kernel_rfl)) ?_
     refine w_t (v := .agg #[.map (some mg72), .map (some mg87), .map (some mg69), .map (some mg84)]) 15 rfl cm20 (fun _ _ => x_build (vs := [.agg #[.map (some mg72), .map (some mg87)], .map (some mg69), .map (some mg84)]) rfl rfl (cells := #[.map (some mg72), .map (some mg87), .map (some mg69), .map (some mg84)]) (by kernel_rfl)) ?_
     refine a_one (i := 16) (by kernel_rfl) rfl ?_
     refine s_box H89 (wt0 rfl) rfl rfl rfl rfl ?_
     intro g90 wq91 H92
     have cm21 := H92.mask [false, false, false, false, false, false, false, true, false, false, false, false, false]
     refine a_k cm21 ?_
     refine w_t 17 rfl cm21 (fun _ _ => xa) ?_
     refine a_done (by kernel_rfl) ?_
     refine g_then ?_
     refine g_mid (g90, mg72, mg87, mg69, mg84) ?_ ?_
     · exact ⟨rfl, rfl, trivial⟩
     · exact (H92.takes [0, 4, 1, 6, 3, 7, 5, 2, 8, 9, 10, 11, 12] (by decide))
   ·
    refine s_makeMap (α := (Ro Nat)) (Value.int .i64) roV okI H71 (wt0 rfl) rfl rfl rfl ?_
    intro mg93 wq94 H95
    refine a_k (H95.mask [false, false, true, false, false, false, false, false, false, false]) ?_
    refine a_one (i := 5) (by kernel_rfl) rfl ?_
    refine s_call (wt0 rfl) (x_call' rfl rfl cl53) (clone_i m1 sc _ (H95.takes [3] (by decide))) ?_
    rintro _ wq97 ⟨mg96, rfl, H98⟩
    replace H98 : S wq97 [Mp (Value.int .i64) (Value.int .i64) okI mg96 sc, Mp (Value.int .i64) (Value.int .i64) okI m1 sc, Mp (Value.int .i64) roV okI mg93 (fun _ => none), Mp (Value.int .i64) mpV okI mg69 (fun _ => none), Ob b (.cells #[.map (some m1), .map (some m2), .map (some m3), .map (some m4)] 66 (0, 0)), Mp (Value.int .i64) Value.bool okI m2 bn, Mp (Value.int .i64) mpV okI m3 nw, Mp (Value.int .i64) roV okI m4 od, FamM spK snV okP ms ct, RowsI 70 1 mpL rs, Old w (fps [Ob b (.cells #[.map (some m1), .map (some m2), .map (some m3), .map (some m4)] 66 (0, 0)), Mp (Value.int .i64) (Value.int .i64) okI m1 sc, Mp (Value.int .i64) Value.bool okI m2 bn, Mp (Value.int .i64) mpV okI m3 nw, Mp (Value.int .i64) roV okI m4 od, FamM spK snV okP ms ct, RowsI 70 1 mpL rs])] := H95.absorbI (new := [Mp (Value.int .i64) (Value.int .i64) okI mg96 sc, Mp (Value.int .i64) (Value.int .i64) okI m1 sc]) [3] H98
    refine b_ret rfl rfl ?_
    refine a_k (H98.mask [false, false, false, false, true, false, false, false, false, false, false]) ?_
    refine a_one (i := 11) (by kernel_rfl) rfl ?_
    refine s_call (wt0 rfl) (x_call' rfl rfl cl54) (clone_b m2 bn _ (H98.takes [5] (by decide))) ?_
    rintro _ wq100 ⟨mg99, rfl, H101⟩
    replace H101 : S wq100 [Mp (Value.int .i64) Value.bool okI mg99 bn, Mp (Value.int .i64) Value.bool okI m2 bn, Mp (Value.int .i64) (Value.int .i64) okI mg96 sc, Mp (Value.int .i64) (Value.int .i64) okI m1 sc, Mp (Value.int .i64) roV okI mg93 (fun _ => none), Mp (Value.int .i64) mpV okI mg69 (fun _ => none), Ob b (.cells #[.map (some m1), .map (some m2), .map (some m3), .map (some m4)] 66 (0, 0)), Mp (Value.int .i64) mpV okI m3 nw, Mp (Value.int .i64) roV okI m4 od, FamM spK snV okP ms ct, RowsI 70 1 mpL rs, Old w (fps [Ob b (.cells #[.map (some m1), .map (some m2), .map (some m3), .map (some m4)] 66 (0, 0)), Mp (Value.int .i64) (Value.int .i64) okI m1 sc, Mp (Value.int .i64) Value.bool okI m2 bn, Mp (Value.int .i64) mpV okI m3 nw, Mp (Value.int .i64) roV okI m4 od, FamM spK snV okP ms ct, RowsI 70 1 mpL rs])] := H98.absorbI (new := [Mp (Value.int .i64) Value.bool okI mg99 bn, Mp (Value.int .i64) Value.bool okI m2 bn]) [5] H101
    refine b_ret rfl rfl ?_
    have cm22 := H101.mask [false, false, false, false, false, false, true, false, false, false, false, false]
    refine a_k cm22 ?_
    refine w_t (v := .agg #[.map (some mg96), .map (some mg99)]) 12 rfl cm22 (fun _ _ => x_build (vs := [.map (some mg96), .map (some mg99)]) rfl rfl (cells := #[.map (some mg96), .map (some mg99)]) (by kernel_rfl)) ?_
    refine w_t (v := .agg #[.map (some mg96), .map (some mg99), .map (some mg69), .map (some mg93)]) 15 rfl cm22 (fun _ _ => x_build (vs := [.agg #[.map (some mg96), .map (some mg99)], .map (some mg69), .map (some mg93)]) rfl rfl (cells := #[.map (some mg96), .map (some mg99), .map (some mg69), .map (some mg93)]) (by kernel_rfl)) ?_
    refine a_one (i := 16) (by kernel_rfl) rfl ?_
    refine s_box H101 (wt0 rfl) rfl rfl rfl rfl ?_
    intro g102 wq103 H104
    have cm23 := H104.mask [false, false, false, false, false, false, false, true, false, false, false, false, false]
    refine a_k cm23 ?_
    refine w_t 17 rfl cm23 (fun _ _ => xa) ?_
    refine a_done (by kernel_rfl) ?_
    refine g_then ?_
    refine g_mid (g102, mg96, mg99, mg69, mg93) ?_ ?_
    · exact ⟨rfl, rfl, trivial⟩
    · exact (H104.takes [0, 3, 1, 6, 5, 7, 4, 2, 8, 9, 10, 11, 12] (by decide))
  ·
   refine s_makeMap (α := (Ro Nat)) (Value.int .i64) roV okI H2 (wt0 rfl) rfl rfl rfl ?_
   intro mg105 wq106 H107
   refine a_k (H107.mask [false, true, false, false, false, false, false, false, false]) ?_
   refine a_two (i := 5) (j := 13) (by kernel_rfl) rfl rfl ?_ ?_
   ·
    refine s_call (wt0 rfl) (x_call' rfl rfl cl53) (clone_i m1 sc _ (H107.takes [2] (by decide))) ?_
    rintro _ wq109 ⟨mg108, rfl, H110⟩
    replace H110 : S wq109 [Mp (Value.int .i64) (Value.int .i64) okI mg108 sc, Mp (Value.int .i64) (Value.int .i64) okI m1 sc, Mp (Value.int .i64) roV okI mg105 (fun _ => none), Ob b (.cells #[.map (some m1), .map (some m2), .map (some m3), .map (some m4)] 66 (0, 0)), Mp (Value.int .i64) Value.bool okI m2 bn, Mp (Value.int .i64) mpV okI m3 nw, Mp (Value.int .i64) roV okI m4 od, FamM spK snV okP ms ct, RowsI 70 1 mpL rs, Old w (fps [Ob b (.cells #[.map (some m1), .map (some m2), .map (some m3), .map (some m4)] 66 (0, 0)), Mp (Value.int .i64) (Value.int .i64) okI m1 sc, Mp (Value.int .i64) Value.bool okI m2 bn, Mp (Value.int .i64) mpV okI m3 nw, Mp (Value.int .i64) roV okI m4 od, FamM spK snV okP ms ct, RowsI 70 1 mpL rs])] := H107.absorbI (new := [Mp (Value.int .i64) (Value.int .i64) okI mg108 sc, Mp (Value.int .i64) (Value.int .i64) okI m1 sc]) [2] H110
    refine b_ret rfl rfl ?_
    refine a_k (H110.mask [false, false, false, true, false, false, false, false, false, false]) ?_
    refine a_two (i := 11) (j := 13) (by kernel_rfl) rfl rfl ?_ ?_
    ·
     refine s_call (wt0 rfl) (x_call' rfl rfl cl54) (clone_b m2 bn _ (H110.takes [4] (by decide))) ?_
     rintro _ wq112 ⟨mg111, rfl, H113⟩
     replace H113 : S wq112 [Mp (Value.int .i64) Value.bool okI mg111 bn, Mp (Value.int .i64) Value.bool okI m2 bn, Mp (Value.int .i64) (Value.int .i64) okI mg108 sc, Mp (Value.int .i64) (Value.int .i64) okI m1 sc, Mp (Value.int .i64) roV okI mg105 (fun _ => none), Ob b (.cells #[.map (some m1), .map (some m2), .map (some m3), .map (some m4)] 66 (0, 0)), Mp (Value.int .i64) mpV okI m3 nw, Mp (Value.int .i64) roV okI m4 od, FamM spK snV okP ms ct, RowsI 70 1 mpL rs, Old w (fps [Ob b (.cells #[.map (some m1), .map (some m2), .map (some m3), .map (some m4)] 66 (0, 0)), Mp (Value.int .i64) (Value.int .i64) okI m1 sc, Mp (Value.int .i64) Value.bool okI m2 bn, Mp (Value.int .i64) mpV okI m3 nw, Mp (Value.int .i64) roV okI m4 od, FamM spK snV okP ms ct, RowsI 70 1 mpL rs])] := H110.absorbI (new := [Mp (Value.int .i64) Value.bool okI mg111 bn, Mp (Value.int .i64) Value.bool okI m2 bn]) [4] H113
     refine b_ret rfl rfl ?_
     have cm24 := H113.mask [false, false, false, false, false, true, false, false, false, false, false]
     refine a_k cm24 ?_
     refine w_t (v := .agg #[.map (some mg108), .map (some mg111)]) 12 rfl cm24 (fun _ _ => x_build (vs := [.map (some mg108), .map (some mg111)]) rfl rfl (cells := #[.map (some mg108), .map (some mg111)]) (by kernel_rfl)) ?_
     refine a_one (i := 13) (by kernel_rfl) rfl ?_
     refine s_makeMap (α := Nat) (Value.int .i64) mpV okI H113 (wt0 rfl) rfl rfl rfl ?_
     intro mg114 wq115 H116
     have cm25 := H116.mask [false, false, false, false, false, false, true, false, false, false, false, false]
     refine a_k cm25 ?_
     refine w_t (v := .agg #[.map (some mg108), .map (some mg111), .map (some mg114), .map (some mg105)]) 15 rfl cm25 (fun _ _ => x_build (vs := [.agg #[.map (some mg108), .map (some mg111)], .map (some mg114), .map (some mg105)]) rfl rfl (cells := #[.map (some mg108), .map (some mg111), .map (some mg114), .map (some mg105)]) (by kernel_rfl)) ?_
     refine a_one (i := 16) (by kernel_rfl) rfl ?_
     refine s_box H116 (wt0 rfl) rfl rfl rfl rfl ?_
     intro g117 wq118 H119
     have cm26 := H119.mask [false, false, false, false, false, false, false, true, false, false, false, false, false]
     refine a_k cm26 ?_
     refine w_t 17 rfl cm26 (fun _ _ => xa) ?_
     refine a_done (by kernel_rfl) ?_
     refine g_then ?_
     refine g_mid (g117, mg108, mg111, mg114, mg105) ?_ ?_
     · exact ⟨rfl, rfl, trivial⟩
     · exact (H119.takes [0, 4, 2, 1, 6, 7, 5, 3, 8, 9, 10, 11, 12] (by decide))
    ·
     refine s_makeMap (α := Nat) (Value.int .i64) mpV okI H110 (wt0 rfl) rfl rfl rfl ?_
     intro mg120 wq121 H122
     refine a_k (H122.mask [false, false, false, false, true, false, false, false, false, false, false]) ?_
     refine a_one (i := 11) (by kernel_rfl) rfl ?_
     refine s_call (wt0 rfl) (x_call' rfl rfl cl54) (clone_b m2 bn _ (H122.takes [5] (by decide))) ?_
     rintro _ wq124 ⟨mg123, rfl, H125⟩
     replace H125 : S wq124 [Mp (Value.int .i64) Value.bool okI mg123 bn, Mp (Value.int .i64) Value.bool okI m2 bn, Mp (Value.int .i64) mpV okI mg120 (fun _ => none), Mp (Value.int .i64) (Value.int .i64) okI mg108 sc, Mp (Value.int .i64) (Value.int .i64) okI m1 sc, Mp (Value.int .i64) roV okI mg105 (fun _ => none), Ob b (.cells #[.map (some m1), .map (some m2), .map (some m3), .map (some m4)] 66 (0, 0)), Mp (Value.int .i64) mpV okI m3 nw, Mp (Value.int .i64) roV okI m4 od, FamM spK snV okP ms ct, RowsI 70 1 mpL rs, Old w (fps [Ob b (.cells #[.map (some m1), .map (some m2), .map (some m3), .map (some m4)] 66 (0, 0)), Mp (Value.int .i64) (Value.int .i64) okI m1 sc, Mp (Value.int .i64) Value.bool okI m2 bn, Mp (Value.int .i64) mpV okI m3 nw, Mp (Value.int .i64) roV okI m4 od, FamM spK snV okP ms ct, RowsI 70 1 mpL rs])] := H122.absorbI (new := [Mp (Value.int .i64) Value.bool okI mg123 bn, Mp (Value.int .i64) Value.bool okI m2 bn]) [5] H125
     refine b_ret rfl rfl ?_
     have cm27 := H125.mask [false, false, false, false, false, false, true, false, false, false, false, false]
     refine a_k cm27 ?_
     refine w_t (v := .agg #[.map (some mg108), .map (some mg123)]) 12 rfl cm27 (fun _ _ => x_build (vs := [.map (some mg108), .map (some mg123)]) rfl rfl (cells := #[.map (some mg108), .map (some mg123)]) (by kernel_rfl)) ?_
     refine w_t (v := .agg #[.map (some mg108), .map (some mg123), .map (some mg120), .map (some mg105)]) 15 rfl cm27 (fun _ _ => x_build (vs := [.agg #[.map (some mg108), .map (some mg123)], .map (some mg120), .map (some mg105)]) rfl rfl (cells := #[.map (some mg108), .map (some mg123), .map (some mg120), .map (some mg105)]) (by kernel_rfl)) ?_
     refine a_one (i := 16) (by kernel_rfl) rfl ?_
     refine s_box H125 (wt0 rfl) rfl rfl rfl rfl ?_
     intro g126 wq127 H128
     have cm28 := H128.mask [false, false, false, false, false, false, false, true, false, false, false, false, false]
     refine a_k cm28 ?_
     refine w_t 17 rfl cm28 (fun _ _ => xa) ?_
     refine a_done (by kernel_rfl) ?_
     refine g_then ?_
     refine g_mid (g126, mg108, mg123, mg120, mg105) ?_ ?_
     · exact ⟨rfl, rfl, trivial⟩
     · exact (H128.takes [0, 4, 1, 3, 6, 7, 5, 2, 8, 9, 10, 11, 12] (by decide))
   ·
    refine s_makeMap (α := Nat) (Value.int .i64) mpV okI H107 (wt0 rfl) rfl rfl rfl ?_
    intro mg129 wq130 H131
    refine a_k (H131.mask [false, false, true, false, false, false, false, false, false, false]) ?_
    refine a_one (i := 5) (by kernel_rfl) rfl ?_
    refine s_call (wt0 rfl) (x_call' rfl rfl cl53) (clone_i m1 sc _ (H131.takes [3] (by decide))) ?_
    rintro _ wq133 ⟨mg132, rfl, H134⟩
    replace H134 : S wq133 [Mp (Value.int .i64) (Value.int .i64) okI mg132 sc, Mp (Value.int .i64) (Value.int .i64) okI m1 sc, Mp (Value.int .i64) mpV okI mg129 (fun _ => none), Mp (Value.int .i64) roV okI mg105 (fun _ => none), Ob b (.cells #[.map (some m1), .map (some m2), .map (some m3), .map (some m4)] 66 (0, 0)), Mp (Value.int .i64) Value.bool okI m2 bn, Mp (Value.int .i64) mpV okI m3 nw, Mp (Value.int .i64) roV okI m4 od, FamM spK snV okP ms ct, RowsI 70 1 mpL rs, Old w (fps [Ob b (.cells #[.map (some m1), .map (some m2), .map (some m3), .map (some m4)] 66 (0, 0)), Mp (Value.int .i64) (Value.int .i64) okI m1 sc, Mp (Value.int .i64) Value.bool okI m2 bn, Mp (Value.int .i64) mpV okI m3 nw, Mp (Value.int .i64) roV okI m4 od, FamM spK snV okP ms ct, RowsI 70 1 mpL rs])] := H131.absorbI (new := [Mp (Value.int .i64) (Value.int .i64) okI mg132 sc, Mp (Value.int .i64) (Value.int .i64) okI m1 sc]) [3] H134
    refine b_ret rfl rfl ?_
    refine a_k (H134.mask [false, false, false, false, true, false, false, false, false, false, false]) ?_
    refine a_one (i := 11) (by kernel_rfl) rfl ?_
    refine s_call (wt0 rfl) (x_call' rfl rfl cl54) (clone_b m2 bn _ (H134.takes [5] (by decide))) ?_
    rintro _ wq136 ⟨mg135, rfl, H137⟩
    replace H137 : S wq136 [Mp (Value.int .i64) Value.bool okI mg135 bn, Mp (Value.int .i64) Value.bool okI m2 bn, Mp (Value.int .i64) (Value.int .i64) okI mg132 sc, Mp (Value.int .i64) (Value.int .i64) okI m1 sc, Mp (Value.int .i64) mpV okI mg129 (fun _ => none), Mp (Value.int .i64) roV okI mg105 (fun _ => none), Ob b (.cells #[.map (some m1), .map (some m2), .map (some m3), .map (some m4)] 66 (0, 0)), Mp (Value.int .i64) mpV okI m3 nw, Mp (Value.int .i64) roV okI m4 od, FamM spK snV okP ms ct, RowsI 70 1 mpL rs, Old w (fps [Ob b (.cells #[.map (some m1), .map (some m2), .map (some m3), .map (some m4)] 66 (0, 0)), Mp (Value.int .i64) (Value.int .i64) okI m1 sc, Mp (Value.int .i64) Value.bool okI m2 bn, Mp (Value.int .i64) mpV okI m3 nw, Mp (Value.int .i64) roV okI m4 od, FamM spK snV okP ms ct, RowsI 70 1 mpL rs])] := H134.absorbI (new := [Mp (Value.int .i64) Value.bool okI mg135 bn, Mp (Value.int .i64) Value.bool okI m2 bn]) [5] H137
    refine b_ret rfl rfl ?_
    have cm29 := H137.mask [false, false, false, false, false, false, true, false, false, false, false, false]
    refine a_k cm29 ?_
    refine w_t (v := .agg #[.map (some mg132), .map (some mg135)]) 12 rfl cm29 (fun _ _ => x_build (vs := [.map (some mg132), .map (some mg135)]) rfl rfl (cells := #[.map (some mg132), .map (some mg135)]) (by kernel_rfl)) ?_
    refine w_t (v := .agg #[.map (some mg132), .map (some mg135), .map (some mg129), .map (some mg105)]) 15 rfl cm29 (fun _ _ => x_build (vs := [.agg #[.map (some mg132), .map (some mg135)], .map (some mg129), .map (some mg105)]) rfl rfl (cells := #[.map (some mg132), .map (some mg135), .map (some mg129), .map (some mg105)]) (by kernel_rfl)) ?_
    refine a_one (i := 16) (by kernel_rfl) rfl ?_
    refine s_box H137 (wt0 rfl) rfl rfl rfl rfl ?_
    intro g138 wq139 H140
    have cm30 := H140.mask [false, false, false, false, false, false, false, true, false, false, false, false, false]
    refine a_k cm30 ?_
    refine w_t 17 rfl cm30 (fun _ _ => xa) ?_
    refine a_done (by kernel_rfl) ?_
    refine g_then ?_
    refine g_mid (g138, mg132, mg135, mg129, mg105) ?_ ?_
    · exact ⟨rfl, rfl, trivial⟩
    · exact (H140.takes [0, 3, 1, 5, 6, 7, 4, 2, 8, 9, 10, 11, 12] (by decide))
 rintro ⟨c, m5, m6, m7, m8⟩ wq141 H142
 refine g_weak [(0, .pointer (some ⟨b, 0, none⟩)), (3, .pointer (some ⟨c, 0, none⟩))] ⟨rfl, rfl, trivial⟩ ?_
 refine g_seq ?_
 refine w_s ?_
 refine w_r3 ?_
 refine w_1 H142 5 ?_
 refine l_of (s_rangeN (intTy Try.underlying63 Try.underlying3) H142 8 (wt0 rfl) rfl rfl rfl rfl rfl ?_)
 intro rr143 rem144 wq145 hnrem144 hrem144 H146
 refine w_e ?_
 refine g_block ?_
 have H147 := (H146.rowsNil (α := Nat) (e := 70) (size := 1) (enc := mpL)).famMnil (ek := spK) (va := snV) (ok := okP) (fun _ => noT)
 refine g_loop (ι := List (Int × Nat) × Option (Int × Nat) × (Int → Option Nat) × List Nat × (Nat → Tr)) (fun (rem, cur, nwc, msc, ctc) => [(0, .pointer (some ⟨b, 0, none⟩)), (3, .pointer (some ⟨c, 0, none⟩)), (33, .pointer (some ⟨rr143, 0, none⟩))]) (fun (rem, cur, nwc, msc, ctc) wx => (CN nw ct rem144 rem nwc msc ctc) ∧ S wx [FamM spK snV okP msc ctc, RowsI 70 1 mpL ([] : List (Ro Nat)), Ob c (.cells #[.map (some m5), .map (some m6), .map (some m7), .map (some m8)] 66 (0, 0)), Mp (Value.int .i64) (Value.int .i64) okI m5 sc, Mp (Value.int .i64) Value.bool okI m6 bn, Mp (Value.int .i64) mpV okI m7 nwc, Mp (Value.int .i64) roV okI m8 ((fun _ => none) : Int → Option (Ro Nat)), Ob b (.cells #[.map (some m1), .map (some m2), .map (some m3), .map (some m4)] 66 (0, 0)), Mp (Value.int .i64) (Value.int .i64) okI m1 sc, Mp (Value.int .i64) Value.bool okI m2 bn, MpR (Value.int .i64) mpV okI m3 rr143 nw rem cur, Mp (Value.int .i64) roV okI m4 od, FamM spK snV okP ms ct, RowsI 70 1 mpL rs, Old w (fps [Ob b (.cells #[.map (some m1), .map (some m2), .map (some m3), .map (some m4)] 66 (0, 0)), Mp (Value.int .i64) (Value.int .i64) okI m1 sc, Mp (Value.int .i64) Value.bool okI m2 bn, Mp (Value.int .i64) mpV okI m3 nw, Mp (Value.int .i64) roV okI m4 od, FamM spK snV okP ms ct, RowsI 70 1 mpL rs])]) (fun (rem, cur, nwc, msc, ctc) => rem.length) (rem144, none, (fun _ => none), [], (fun _ => noT)) ⟨rfl, rfl, rfl, trivial⟩ ⟨(CN.start _ _ _), (H147.takes [0, 1, 2, 3, 4, 5, 6, 7, 8, 9, 10, 11, 12, 13, 14] (by decide))⟩ ?_
 rintro ⟨rem, cur, nwc, msc, ctc⟩ wq148 ⟨hCN, H149⟩
 refine g_weak [(0, .pointer (some ⟨b, 0, none⟩)), (3, .pointer (some ⟨c, 0, none⟩)), (33, .pointer (some ⟨rr143, 0, none⟩))] ⟨rfl, rfl, rfl, trivial⟩ ?_
 refine w_s ?_
 refine l_of (s_next H149 10 (wt0 rfl) rfl rfl rfl rfl rfl (fun hnil159 => ?_) (fun q150 rem151 wx152 hp153 hok154 hN155 hm156 hl157 Hx158 => ?_))
 ·
  subst hnil159
  have H160 : S wq148 [FamM spK snV okP msc ctc, RowsI 70 1 mpL ([] : List (Ro Nat)), Ob c (.cells #[.map (some m5), .map (some m6), .map (some m7), .map (some m8)] 66 (0, 0)), Mp (Value.int .i64) (Value.int .i64) okI m5 sc, Mp (Value.int .i64) Value.bool okI m6 bn, Mp (Value.int .i64) mpV okI m7 nwc, Mp (Value.int .i64) roV okI m8 ((fun _ => none) : Int → Option (Ro Nat)), Ob b (.cells #[.map (some m1), .map (some m2), .map (some m3), .map (some m4)] 66 (0, 0)), Mp (Value.int .i64) (Value.int .i64) okI m1 sc, Mp (Value.int .i64) Value.bool okI m2 bn, Mp (Value.int .i64) mpV okI m3 nw, Mp (Value.int .i64) roV okI m4 od, FamM spK snV okP ms ct, RowsI 70 1 mpL rs, Old w (fps [Ob b (.cells #[.map (some m1), .map (some m2), .map (some m3), .map (some m4)] 66 (0, 0)), Mp (Value.int .i64) (Value.int .i64) okI m1 sc, Mp (Value.int .i64) Value.bool okI m2 bn, Mp (Value.int .i64) mpV okI m3 nw, Mp (Value.int .i64) roV okI m4 od, FamM spK snV okP ms ct, RowsI 70 1 mpL rs])] := H149.unR (k0 := 10) rfl
  refine w_v xe ?_
  refine w_e ?_
  refine g_seq ?_
  refine g_cond_f rfl rfl ?_
  refine g_exit ?_
  refine g_then_exit ?_
  refine g_then_exit ?_
  refine g_in_hit ?_
  refine g_then ?_
  refine g_seq ?_
  refine w_s ?_
  refine w_r3 ?_
  refine w_1 H160 7 ?_
  refine l_of (s_rangeN (intTy Try.underlying64 Try.underlying3) H160 11 (wt0 rfl) rfl rfl rfl rfl rfl ?_)
  intro rr161 rem162 wq163 hnrem162 hrem162 H164
  refine w_e ?_
  refine g_block ?_
  refine g_loop (ι := List (Int × Ro Nat) × Option (Int × Ro Nat) × (Int → Option (Ro Nat)) × List (Ro Nat) × List Nat × (Nat → Tr)) (fun (rem, cur, odc, rsc, msc, ctc) => [(3, .pointer (some ⟨c, 0, none⟩)), (50, .pointer (some ⟨rr161, 0, none⟩))]) (fun (rem, cur, odc, rsc, msc, ctc) wx => (CN nw ct rem144 [] nwc msc ctc) ∧ (CO od ct rem162 rem nwc odc rsc msc ctc) ∧ (∀ x ∈ rem, x ∈ rem162) ∧ S wx [FamM spK snV okP msc ctc, RowsI 70 1 mpL rsc, Ob c (.cells #[.map (some m5), .map (some m6), .map (some m7), .map (some m8)] 66 (0, 0)), Mp (Value.int .i64) (Value.int .i64) okI m5 sc, Mp (Value.int .i64) Value.bool okI m6 bn, Mp (Value.int .i64) mpV okI m7 nwc, Mp (Value.int .i64) roV okI m8 odc, Ob b (.cells #[.map (some m1), .map (some m2), .map (some m3), .map (some m4)] 66 (0, 0)), Mp (Value.int .i64) (Value.int .i64) okI m1 sc, Mp (Value.int .i64) Value.bool okI m2 bn, Mp (Value.int .i64) mpV okI m3 nw, MpR (Value.int .i64) roV okI m4 rr161 od rem cur, FamM spK snV okP ms ct, RowsI 70 1 mpL rs, Old w (fps [Ob b (.cells #[.map (some m1), .map (some m2), .map (some m3), .map (some m4)] 66 (0, 0)), Mp (Value.int .i64) (Value.int .i64) okI m1 sc, Mp (Value.int .i64) Value.bool okI m2 bn, Mp (Value.int .i64) mpV okI m3 nw, Mp (Value.int .i64) roV okI m4 od, FamM spK snV okP ms ct, RowsI 70 1 mpL rs])]) (fun (rem, cur, odc, rsc, msc, ctc) => rem.length) (rem162, none, (fun _ => none), [], msc, ctc) ⟨rfl, rfl, trivial⟩ ⟨hCN, (CO.start _ _ _ _ _ _), (fun _ h => h), (H164.takes [0, 1, 2, 3, 4, 5, 6, 7, 8, 9, 10, 11, 12, 13, 14] (by decide))⟩ ?_
  rintro ⟨rem, cur, odc, rsc, msc, ctc⟩ wq165 ⟨hCN, hCO, hsub, H166⟩
  refine g_weak [(3, .pointer (some ⟨c, 0, none⟩)), (50, .pointer (some ⟨rr161, 0, none⟩))] ⟨rfl, rfl, trivial⟩ ?_
  refine w_s ?_
  refine l_of (s_next H166 11 (wt0 rfl) rfl rfl rfl rfl rfl (fun hnil176 => ?_) (fun q167 rem168 wx169 hp170 hok171 hN172 hm173 hl174 Hx175 => ?_))
  ·
   subst hnil176
   have H177 : S wq165 [FamM spK snV okP msc ctc, RowsI 70 1 mpL rsc, Ob c (.cells #[.map (some m5), .map (some m6), .map (some m7), .map (some m8)] 66 (0, 0)), Mp (Value.int .i64) (Value.int .i64) okI m5 sc, Mp (Value.int .i64) Value.bool okI m6 bn, Mp (Value.int .i64) mpV okI m7 nwc, Mp (Value.int .i64) roV okI m8 odc, Ob b (.cells #[.map (some m1), .map (some m2), .map (some m3), .map (some m4)] 66 (0, 0)), Mp (Value.int .i64) (Value.int .i64) okI m1 sc, Mp (Value.int .i64) Value.bool okI m2 bn, Mp (Value.int .i64) mpV okI m3 nw, Mp (Value.int .i64) roV okI m4 od, FamM spK snV okP ms ct, RowsI 70 1 mpL rs, Old w (fps [Ob b (.cells #[.map (some m1), .map (some m2), .map (some m3), .map (some m4)] 66 (0, 0)), Mp (Value.int .i64) (Value.int .i64) okI m1 sc, Mp (Value.int .i64) Value.bool okI m2 bn, Mp (Value.int .i64) mpV okI m3 nw, Mp (Value.int .i64) roV okI m4 od, FamM spK snV okP ms ct, RowsI 70 1 mpL rs])] := H166.unR (k0 := 11) rfl
   refine w_v xe ?_
   refine w_e ?_
   refine g_seq ?_
   refine g_cond_f rfl rfl ?_
   refine g_exit ?_
   refine g_then_exit ?_
   refine g_then_exit ?_
   refine g_in_hit ?_
   refine g_then ?_
   refine w_s ?_
   refine w_r2 ?_
   refine w_e ?_
   refine g_ret ?_
   refine fin_ret [.tmp 2] [.pointer (some ⟨c, 0, none⟩)] rfl ⟨rfl, trivial⟩ ?_
   exact ⟨c, m5, m6, m7, m8, nwc, odc, msc, ctc, rsc, copy_BI hCN hCO, hCN.all hrem144, hCO.all hrem162, rfl, H177.takes [2, 3, 4, 5, 6, 0, 1, 7, 8, 9, 10, 11, 12, 13, 14] (by decide)⟩
  ·
   have H178 : S wx169 [FamM spK snV okP msc ctc, RowsI 70 1 mpL rsc, Ob c (.cells #[.map (some m5), .map (some m6), .map (some m7), .map (some m8)] 66 (0, 0)), Mp (Value.int .i64) (Value.int .i64) okI m5 sc, Mp (Value.int .i64) Value.bool okI m6 bn, Mp (Value.int .i64) mpV okI m7 nwc, Mp (Value.int .i64) roV okI m8 odc, Ob b (.cells #[.map (some m1), .map (some m2), .map (some m3), .map (some m4)] 66 (0, 0)), Mp (Value.int .i64) (Value.int .i64) okI m1 sc, Mp (Value.int .i64) Value.bool okI m2 bn, Mp (Value.int .i64) mpV okI m3 nw, MpR (Value.int .i64) roV okI m4 rr161 od rem168 (some q167), FamM spK snV okP ms ct, RowsI 70 1 mpL rs, Old w (fps [Ob b (.cells #[.map (some m1), .map (some m2), .map (some m3), .map (some m4)] 66 (0, 0)), Mp (Value.int .i64) (Value.int .i64) okI m1 sc, Mp (Value.int .i64) Value.bool okI m2 bn, Mp (Value.int .i64) mpV okI m3 nw, Mp (Value.int .i64) roV okI m4 od, FamM spK snV okP ms ct, RowsI 70 1 mpL rs])] := Hx175
   refine w_v xe ?_
   refine w_e ?_
   refine g_seq ?_
   refine g_cond_t rfl rfl ?_
   refine g_skip ?_
   refine g_then ?_
   refine g_block ?_
   refine w_s ?_
   refine w_v (v := .tuple #[.int .i64 (q167.1), .slice q167.2.p q167.2.l.length q167.2.c]) (x_entry (k := 0) (t := 0) (e0 := 0) H178 11 rfl rfl rfl) ?_
   refine w_r4 ?_
   refine w_e ?_
   refine w_s ?_
   refine w_m ?_
   refine w_v (v := .int .i64 ((q167.2.l.length : Int))) (x_lenl rfl rfl Try.underlying67) ?_
   refine w_m ?_
   refine w_e ?_
   refine g_block ?_
   have H179 := H178.nilFl 70 1 mpL
   have hqz := hCO.c _ hp170
   have hql := hB.rln _ (hB.odr _ _ hN172)
   refine g_loop (ι := Nat × (Int → Option (Ro Nat)) × List Nat × Option Addr × Nat × List Nat × (Nat → Tr)) (fun (k, OC, lst, pp, cc, msc2, ctc2) => [(3, .pointer (some ⟨c, 0, none⟩)), (6, .int .i64 (q167.1)), (50, .pointer (some ⟨rr161, 0, none⟩)), (56, .slice q167.2.p q167.2.l.length q167.2.c), (57, .int .i64 ((q167.2.l.length : Int))), (58, .int .i64 ((k : Int)))]) (fun (k, OC, lst, pp, cc, msc2, ctc2) wx => (k ≤ q167.2.l.length) ∧ (CN nw ct rem144 [] nwc msc2 ctc2) ∧ (CO od ct rem162 rem nwc odc rsc msc2 ctc2) ∧ (∀ j, ¬ j = q167.1 → OC j = odc j) ∧ (roO (OC q167.1) = ⟨pp, cc, lst⟩) ∧ (lst.map ctc2 = (q167.2.l.take k).map ct) ∧ (∀ m ∈ lst, m ∈ msc2 ∧ ∀ i, nwc i ≠ some m) ∧ S wx [Rw 70 1 pp lst.length cc (fl mpL lst), FamM spK snV okP msc2 ctc2, RowsI 70 1 mpL rsc, Ob c (.cells #[.map (some m5), .map (some m6), .map (some m7), .map (some m8)] 66 (0, 0)), Mp (Value.int .i64) (Value.int .i64) okI m5 sc, Mp (Value.int .i64) Value.bool okI m6 bn, Mp (Value.int .i64) mpV okI m7 nwc, Mp (Value.int .i64) roV okI m8 OC, Ob b (.cells #[.map (some m1), .map (some m2), .map (some m3), .map (some m4)] 66 (0, 0)), Mp (Value.int .i64) (Value.int .i64) okI m1 sc, Mp (Value.int .i64) Value.bool okI m2 bn, Mp (Value.int .i64) mpV okI m3 nw, MpR (Value.int .i64) roV okI m4 rr161 od rem168 (some q167), FamM spK snV okP ms ct, RowsI 70 1 mpL rs, Old w (fps [Ob b (.cells #[.map (some m1), .map (some m2), .map (some m3), .map (some m4)] 66 (0, 0)), Mp (Value.int .i64) (Value.int .i64) okI m1 sc, Mp (Value.int .i64) Value.bool okI m2 bn, Mp (Value.int .i64) mpV okI m3 nw, Mp (Value.int .i64) roV okI m4 od, FamM spK snV okP ms ct, RowsI 70 1 mpL rs])]) (fun (k, OC, lst, pp, cc, msc2, ctc2) => q167.2.l.length - k) (0, odc, [], none, 0, msc, ctc) ⟨rfl, rfl, rfl, rfl, rfl, rfl, trivial⟩ ⟨Nat.zero_le _, hCN, hCO, (fun _ _ => rfl), (by rw [hqz]; rfl), rfl, (fun m hm => by cases hm), (H179.takes [0, 1, 2, 3, 4, 5, 6, 7, 8, 9, 10, 11, 12, 13, 14, 15] (by decide))⟩ ?_
   rintro ⟨k, OC, lst, pp, cc, msc2, ctc2⟩ wq180 ⟨hk, hCN2, hCO2, hOj, hOz, hll, hin, H181⟩
   refine g_weak [(3, .pointer (some ⟨c, 0, none⟩)), (6, .int .i64 (q167.1)), (50, .pointer (some ⟨rr161, 0, none⟩)), (56, .slice q167.2.p q167.2.l.length q167.2.c), (57, .int .i64 ((q167.2.l.length : Int))), (58, .int .i64 ((k : Int)))] ⟨rfl, rfl, rfl, rfl, rfl, rfl, trivial⟩ ?_
   refine w_s ?_
   refine w_b ?_
   refine w_e ?_
   refine g_seq ?_
   by_cases hb182 : ((k : Int) : Int) < (q167.2.l.length : Int)
   ·
    refine g_cond_t rfl (decide_eq_true hb182) ?_
    refine g_skip ?_
    refine g_then ?_
    refine g_seq ?_
    refine g_block ?_
    refine w_s ?_
    refine w_v (v := .pointer ((q167.2.p).map fun q => q.add (k * 1))) (x_idxR k ((rows_in (H181.at (k := 14) rfl) (.inl (hB.odr _ _ hN172)))) rfl rfl rfl Try.underlying67 sz70 (by omega)) ?_
    have hlq := ((rows_in (H181.at (k := 14) rfl) (.inl (hB.odr _ _ hN172)))).lenL mpE
    obtain ⟨x183, hx183⟩ := ex_at (l := q167.2.l) (j := k) (by omega)
    clear hlq
    have hlk := congrArg List.length hll
    simp only [List.length_map, List.length_take] at hlk
    refine w_v (v := .map (some x183)) (x_loadR1 k ((rows_in (H181.at (k := 14) rfl) (.inl (hB.odr _ _ hN172)))) (by omega) rfl rfl Try.underlying70 rfl (mpE.flAt1 hx183 rfl)) ?_
    refine w_a ?_
    refine w_e ?_
    refine g_any [] (fun wx => S wx [FamM spK snV okP msc2 ctc2, RowsI 70 1 mpL rsc, Ob c (.cells #[.map (some m5), .map (some m6), .map (some m7), .map (some m8)] 66 (0, 0)), Mp (Value.int .i64) (Value.int .i64) okI m5 sc, Mp (Value.int .i64) Value.bool okI m6 bn, Mp (Value.int .i64) mpV okI m7 nwc, Mp (Value.int .i64) roV okI m8 OC, Ob b (.cells #[.map (some m1), .map (some m2), .map (some m3), .map (some m4)] 66 (0, 0)), Mp (Value.int .i64) (Value.int .i64) okI m1 sc, Mp (Value.int .i64) Value.bool okI m2 bn, Mp (Value.int .i64) mpV okI m3 nw, MpR (Value.int .i64) roV okI m4 rr161 od rem168 (some q167), FamM spK snV okP ms ct, RowsI 70 1 mpL rs, Old w (fps [Ob b (.cells #[.map (some m1), .map (some m2), .map (some m3), .map (some m4)] 66 (0, 0)), Mp (Value.int .i64) (Value.int .i64) okI m1 sc, Mp (Value.int .i64) Value.bool okI m2 bn, Mp (Value.int .i64) mpV okI m3 nw, Mp (Value.int .i64) roV okI m4 od, FamM spK snV okP ms ct, RowsI 70 1 mpL rs])]) [15] (by kernel_rfl) H181 (fun wq184 H185 => ?_)
    have cm31 := H185.mask [false, true, true, true, true, true, true, true, true, true, true, true, true, true, true, true]
    refine w_t 0 rfl cm31 (fun _ _ => xm) ?_
    refine w_t 1 rfl cm31 (fun _ _ => xn) ?_
    refine w_t 2 rfl cm31 (fun _ _ => xf 3) ?_
    refine w_t 3 rfl cm31 (fun _ H => xl H 2) ?_
    refine w_t 4 rfl cm31 (fun _ _ => xm) ?_
    refine w_t 5 rfl cm31 (fun _ _ => xm) ?_
    refine w_t 6 rfl cm31 (fun _ _ => xn) ?_
    refine w_t 7 rfl cm31 (fun _ _ => xf 3) ?_
    refine w_t 8 rfl cm31 (fun _ H => xl H 2) ?_
    refine w_t 9 rfl cm31 (fun _ _ => xm) ?_
    refine w_t (v := .slice pp lst.length cc) 10 rfl cm31 (fun _ H => ex_cast (x_lookup1 (x := q167.1) (intTy Try.underlying64 Try.underlying3) H 6 rfl rfl rfl rfl (hok171) ze67) ((look_R _).trans (by rw [hOz]))) ?_
    refine w_t 11 rfl cm31 (fun _ _ => xm) ?_
    refine a_one (i := 12) (by kernel_rfl) rfl ?_
    refine s_call (wt0 rfl) (x_call' rfl rfl cl55) (clone_fam (hB.rms _ (hB.odr _ _ hN172) _ (List.mem_of_getElem? hx183)) _ (H185.takes [13] (by decide))) ?_
    rintro _ wq187 ⟨mg186, rfl, H188⟩
    replace H188 : S wq187 [Mp spK snV okP mg186 (ct x183), FamM spK snV okP ms ct, Rw 70 1 pp lst.length cc (fl mpL lst), FamM spK snV okP msc2 ctc2, RowsI 70 1 mpL rsc, Ob c (.cells #[.map (some m5), .map (some m6), .map (some m7), .map (some m8)] 66 (0, 0)), Mp (Value.int .i64) (Value.int .i64) okI m5 sc, Mp (Value.int .i64) Value.bool okI m6 bn, Mp (Value.int .i64) mpV okI m7 nwc, Mp (Value.int .i64) roV okI m8 OC, Ob b (.cells #[.map (some m1), .map (some m2), .map (some m3), .map (some m4)] 66 (0, 0)), Mp (Value.int .i64) (Value.int .i64) okI m1 sc, Mp (Value.int .i64) Value.bool okI m2 bn, Mp (Value.int .i64) mpV okI m3 nw, MpR (Value.int .i64) roV okI m4 rr161 od rem168 (some q167), RowsI 70 1 mpL rs, Old w (fps [Ob b (.cells #[.map (some m1), .map (some m2), .map (some m3), .map (some m4)] 66 (0, 0)), Mp (Value.int .i64) (Value.int .i64) okI m1 sc, Mp (Value.int .i64) Value.bool okI m2 bn, Mp (Value.int .i64) mpV okI m3 nw, Mp (Value.int .i64) roV okI m4 od, FamM spK snV okP ms ct, RowsI 70 1 mpL rs])] := by have h := H185.absorbI [13] H188; exact h
    refine b_ret rfl rfl ?_
    refine a_k (H188.takes [3, 4, 5, 6, 7, 8, 9, 10, 11, 12, 13, 14, 1, 15, 16] (by decide)) ?_
    refine a_one (i := 13) (by kernel_rfl) rfl ?_
    refine s_buildSlice H188 (wt0 rfl) rfl rfl rfl (vs := [.map (some mg186)]) rfl Try.underlying67 sz70 ze70 rfl rfl (cells := #[.map (some mg186)]) (by kernel_rfl) ?_
    intro g189 wq190 H191
    refine a_k (H191.takes [4, 5, 6, 7, 8, 9, 10, 11, 12, 13, 14, 15, 2, 16, 17] (by decide)) ?_
    refine a_one (i := 14) (by kernel_rfl) rfl ?_
    have hln196a := (H191.rwReads (k := 3) rfl).lenL mpE
    have hln196 : (lst ++ [mg186]).length = lst.length + 1 := by simp only [List.length_append, List.length_cons, List.length_nil] <;> omega
    refine s_appBn (m := 1) (l := lst) (l2 := [mg186]) mpE H191 3 (j0 := 0) rfl rfl ⟨rfl, Nat.le_refl _⟩ (wt0 rfl) rfl rfl rfl rfl rfl rfl Try.underlying67 inf70 rfl (by decide) (by omega) ?_
    intro p192 c193 wq194 H195
    refine a_k (H195.takes [4, 5, 6, 7, 8, 9, 10, 11, 12, 13, 14, 15, 2, 16, 17] (by decide)) ?_
    refine a_one (i := 15) (by kernel_rfl) rfl ?_
    refine s_mapUpdate (x := q167.1) (a := (⟨p192, c193, (lst ++ [mg186])⟩ : Ro Nat)) (intTy Try.underlying64 Try.underlying3) H195 10 (wt0 rfl) rfl rfl rfl rfl rfl rfl (hok171) ?_
    intro wq197 H198
    refine a_kt rfl ?_
    refine a_done (by kernel_rfl) ?_
    refine g_in ?_
    refine g_then ?_
    refine g_weak [(3, .pointer (some ⟨c, 0, none⟩)), (6, .int .i64 (q167.1)), (50, .pointer (some ⟨rr161, 0, none⟩)), (56, .slice q167.2.p q167.2.l.length q167.2.c), (57, .int .i64 ((q167.2.l.length : Int))), (58, .int .i64 ((k : Int)))] ⟨rfl, rfl, rfl, rfl, rfl, rfl, trivial⟩ ?_
    refine g_region ?_
    refine w_b (v := .int .i64 (((k + 1 : Nat) : Int))) (hb := (b_add (by rw [w64 (by omega)]; omega))) ?_
    refine w_m ?_
    refine w_e ?_
    have hnm199 := H198.famMnew (i := 1) (j := 4) rfl rfl rfl (by decide)
    have H200 : S wq197 [FamM spK snV okP (mg186 :: msc2) (upd ctc2 mg186 (ct x183)), Ob g189 (.cells #[.map (some mg186)] 70 (0, 0)), FamM spK snV okP ms ct, Rw 70 1 p192 ((lst ++ [mg186]).length) c193 (fl mpL (lst ++ [mg186])), RowsI 70 1 mpL rsc, Ob c (.cells #[.map (some m5), .map (some m6), .map (some m7), .map (some m8)] 66 (0, 0)), Mp (Value.int .i64) (Value.int .i64) okI m5 sc, Mp (Value.int .i64) Value.bool okI m6 bn, Mp (Value.int .i64) mpV okI m7 nwc, Mp (Value.int .i64) roV okI m8 (upM OC q167.1 (⟨p192, c193, (lst ++ [mg186])⟩ : Ro Nat)), Ob b (.cells #[.map (some m1), .map (some m2), .map (some m3), .map (some m4)] 66 (0, 0)), Mp (Value.int .i64) (Value.int .i64) okI m1 sc, Mp (Value.int .i64) Value.bool okI m2 bn, Mp (Value.int .i64) mpV okI m3 nw, MpR (Value.int .i64) roV okI m4 rr161 od rem168 (some q167), RowsI 70 1 mpL rs, Old w (fps [Ob b (.cells #[.map (some m1), .map (some m2), .map (some m3), .map (some m4)] 66 (0, 0)), Mp (Value.int .i64) (Value.int .i64) okI m1 sc, Mp (Value.int .i64) Value.bool okI m2 bn, Mp (Value.int .i64) mpV okI m3 nw, Mp (Value.int .i64) roV okI m4 od, FamM spK snV okP ms ct, RowsI 70 1 mpL rs])] := S.famMcons (H198.takes [1, 4, 0, 2, 3, 5, 6, 7, 8, 9, 10, 11, 12, 13, 14, 15, 16, 17] (by decide))
    refine g_round (i := (k, OC, lst, pp, cc, msc2, ctc2)) ((k + 1), (upM OC q167.1 (⟨p192, c193, (lst ++ [mg186])⟩ : Ro Nat)), (lst ++ [mg186]), p192, c193, (mg186 :: msc2), (upd ctc2 mg186 (ct x183))) ?_ ?_ ?_
    · exact ⟨rfl, rfl, rfl, rfl, rfl, rfl, trivial⟩
    · exact ⟨by omega, (hCN2.more hnm199 (hB.tok _ (hB.rms _ (hB.odr _ _ hN172) _ (List.mem_of_getElem? hx183)))), (hCO2.more hnm199), (fun j hj => (if_neg hj).trans (hOj j hj)), (by rw [upM_self]; rfl), (copy_snoc hx183 (fun m hm => (hin m hm).1) hnm199 hll), (copy_in hin hnm199 hCN2), (H200.takes [3, 0, 4, 5, 6, 7, 8, 9, 10, 11, 12, 13, 14, 2, 15, 16] (by decide))⟩
    · (try dsimp only); omega
   ·
    refine g_cond_f rfl (decide_eq_false hb182) ?_
    refine g_exit ?_
    refine g_then_exit ?_
    refine g_then_exit ?_
    refine g_in_hit ?_
    refine g_in ?_
    refine g_then ?_
    have H201 : S wq180 [RowsI 70 1 mpL (rsc ++ [⟨pp, cc, lst⟩]), FamM spK snV okP msc2 ctc2, Ob c (.cells #[.map (some m5), .map (some m6), .map (some m7), .map (some m8)] 66 (0, 0)), Mp (Value.int .i64) (Value.int .i64) okI m5 sc, Mp (Value.int .i64) Value.bool okI m6 bn, Mp (Value.int .i64) mpV okI m7 nwc, Mp (Value.int .i64) roV okI m8 OC, Ob b (.cells #[.map (some m1), .map (some m2), .map (some m3), .map (some m4)] 66 (0, 0)), Mp (Value.int .i64) (Value.int .i64) okI m1 sc, Mp (Value.int .i64) Value.bool okI m2 bn, Mp (Value.int .i64) mpV okI m3 nw, MpR (Value.int .i64) roV okI m4 rr161 od rem168 (some q167), FamM spK snV okP ms ct, RowsI 70 1 mpL rs, Old w (fps [Ob b (.cells #[.map (some m1), .map (some m2), .map (some m3), .map (some m4)] 66 (0, 0)), Mp (Value.int .i64) (Value.int .i64) okI m1 sc, Mp (Value.int .i64) Value.bool okI m2 bn, Mp (Value.int .i64) mpV okI m3 nw, Mp (Value.int .i64) roV okI m4 od, FamM spK snV okP ms ct, RowsI 70 1 mpL rs])] := S.rowsAdd (H181.takes [2, 0, 1, 3, 4, 5, 6, 7, 8, 9, 10, 11, 12, 13, 14, 15] (by decide)) rfl
    refine g_round (i := (rem, cur, odc, rsc, msc, ctc)) (rem168, (some q167), OC, (rsc ++ [⟨pp, cc, lst⟩]), msc2, ctc2) ?_ ?_ ?_
    · exact ⟨rfl, rfl, trivial⟩
    · exact ⟨hCN2, (hCO2.next hp170 hok171 hN172 hrem162 hsub hm173 hOj hOz (by rw [List.take_of_length_le (by omega)] at hll; exact hll) (hB.rln _ (hB.odr _ _ hN172)) hin), (fun x hx => hsub x ((hm173 x).1 hx).1), (H201.takes [1, 0, 2, 3, 4, 5, 6, 7, 8, 9, 10, 11, 12, 13, 14] (by decide))⟩
    · exact hl174
 ·
  have H202 : S wx152 [FamM spK snV okP msc ctc, RowsI 70 1 mpL ([] : List (Ro Nat)), Ob c (.cells #[.map (some m5), .map (some m6), .map (some m7), .map (some m8)] 66 (0, 0)), Mp (Value.int .i64) (Value.int .i64) okI m5 sc, Mp (Value.int .i64) Value.bool okI m6 bn, Mp (Value.int .i64) mpV okI m7 nwc, Mp (Value.int .i64) roV okI m8 ((fun _ => none) : Int → Option (Ro Nat)), Ob b (.cells #[.map (some m1), .map (some m2), .map (some m3), .map (some m4)] 66 (0, 0)), Mp (Value.int .i64) (Value.int .i64) okI m1 sc, Mp (Value.int .i64) Value.bool okI m2 bn, MpR (Value.int .i64) mpV okI m3 rr143 nw rem151 (some q150), Mp (Value.int .i64) roV okI m4 od, FamM spK snV okP ms ct, RowsI 70 1 mpL rs, Old w (fps [Ob b (.cells #[.map (some m1), .map (some m2), .map (some m3), .map (some m4)] 66 (0, 0)), Mp (Value.int .i64) (Value.int .i64) okI m1 sc, Mp (Value.int .i64) Value.bool okI m2 bn, Mp (Value.int .i64) mpV okI m3 nw, Mp (Value.int .i64) roV okI m4 od, FamM spK snV okP ms ct, RowsI 70 1 mpL rs])] := Hx158
  refine w_v xe ?_
  refine w_e ?_
  refine g_seq ?_
  refine g_cond_t rfl rfl ?_
  refine g_skip ?_
  refine g_then ?_
  refine g_block ?_
  refine w_s ?_
  refine w_v (v := .tuple #[.int .i64 (q150.1), .map (some q150.2)]) (x_entry (k := 0) (t := 0) (e0 := 0) H202 10 rfl rfl rfl) ?_
  refine w_r4 ?_
  refine w_e ?_
  refine g_any [] (fun wx => S wx [Ob c (.cells #[.map (some m5), .map (some m6), .map (some m7), .map (some m8)] 66 (0, 0))]) [7] (by kernel_rfl) H202 (fun wq203 H204 => ?_)
  have cm32 := H204.mask [false, false, true, false, false, false, false, false, false, false, false, false, false, false, false]
  refine w_t 0 rfl cm32 (fun _ _ => xm) ?_
  refine w_t 1 rfl cm32 (fun _ _ => xn) ?_
  refine w_t 2 rfl cm32 (fun _ _ => xf 2) ?_
  refine w_t 3 rfl cm32 (fun _ H => xl H 0) ?_
  refine w_t 4 rfl cm32 (fun _ _ => xm) ?_
  refine w_t 5 rfl cm32 (fun _ _ => xm) ?_
  refine a_one (i := 6) (by kernel_rfl) rfl ?_
  refine s_call (wt0 rfl) (x_call' rfl rfl cl55) (clone_fam (hB.nwm _ _ hN155) _ (H204.takes [12] (by decide))) ?_
  rintro _ wq206 ⟨mg205, rfl, H207⟩
  replace H207 : S wq206 [Mp spK snV okP mg205 (ct q150.2), FamM spK snV okP ms ct, FamM spK snV okP msc ctc, RowsI 70 1 mpL ([] : List (Ro Nat)), Ob c (.cells #[.map (some m5), .map (some m6), .map (some m7), .map (some m8)] 66 (0, 0)), Mp (Value.int .i64) (Value.int .i64) okI m5 sc, Mp (Value.int .i64) Value.bool okI m6 bn, Mp (Value.int .i64) mpV okI m7 nwc, Mp (Value.int .i64) roV okI m8 ((fun _ => none) : Int → Option (Ro Nat)), Ob b (.cells #[.map (some m1), .map (some m2), .map (some m3), .map (some m4)] 66 (0, 0)), Mp (Value.int .i64) (Value.int .i64) okI m1 sc, Mp (Value.int .i64) Value.bool okI m2 bn, MpR (Value.int .i64) mpV okI m3 rr143 nw rem151 (some q150), Mp (Value.int .i64) roV okI m4 od, RowsI 70 1 mpL rs, Old w (fps [Ob b (.cells #[.map (some m1), .map (some m2), .map (some m3), .map (some m4)] 66 (0, 0)), Mp (Value.int .i64) (Value.int .i64) okI m1 sc, Mp (Value.int .i64) Value.bool okI m2 bn, Mp (Value.int .i64) mpV okI m3 nw, Mp (Value.int .i64) roV okI m4 od, FamM spK snV okP ms ct, RowsI 70 1 mpL rs])] := H204.absorbI (new := [Mp spK snV okP mg205 (ct q150.2), FamM spK snV okP ms ct]) [12] H207
  refine b_ret rfl rfl ?_
  refine a_k (H207.mask [false, false, false, false, true, false, false, false, false, false, false, false, false, false, false, false]) ?_
  refine a_one (i := 7) (by kernel_rfl) rfl ?_
  refine s_mapUpdate (x := q150.1) (a := mg205) (intTy Try.underlying63 Try.underlying3) H207 7 (wt0 rfl) rfl rfl rfl rfl rfl rfl (hok154) ?_
  intro wq208 H209
  refine a_kt rfl ?_
  refine a_done (by kernel_rfl) ?_
  refine g_in ?_
  refine g_then ?_
  have hnm210 := H209.famMnew (i := 0) (j := 2) rfl rfl rfl (by decide)
  have H211 : S wq208 [FamM spK snV okP (mg205 :: msc) (upd ctc mg205 (ct q150.2)), FamM spK snV okP ms ct, RowsI 70 1 mpL ([] : List (Ro Nat)), Ob c (.cells #[.map (some m5), .map (some m6), .map (some m7), .map (some m8)] 66 (0, 0)), Mp (Value.int .i64) (Value.int .i64) okI m5 sc, Mp (Value.int .i64) Value.bool okI m6 bn, Mp (Value.int .i64) mpV okI m7 (upM nwc q150.1 mg205), Mp (Value.int .i64) roV okI m8 ((fun _ => none) : Int → Option (Ro Nat)), Ob b (.cells #[.map (some m1), .map (some m2), .map (some m3), .map (some m4)] 66 (0, 0)), Mp (Value.int .i64) (Value.int .i64) okI m1 sc, Mp (Value.int .i64) Value.bool okI m2 bn, MpR (Value.int .i64) mpV okI m3 rr143 nw rem151 (some q150), Mp (Value.int .i64) roV okI m4 od, RowsI 70 1 mpL rs, Old w (fps [Ob b (.cells #[.map (some m1), .map (some m2), .map (some m3), .map (some m4)] 66 (0, 0)), Mp (Value.int .i64) (Value.int .i64) okI m1 sc, Mp (Value.int .i64) Value.bool okI m2 bn, Mp (Value.int .i64) mpV okI m3 nw, Mp (Value.int .i64) roV okI m4 od, FamM spK snV okP ms ct, RowsI 70 1 mpL rs])] := S.famMcons (H209.takes [0, 2, 1, 3, 4, 5, 6, 7, 8, 9, 10, 11, 12, 13, 14, 15] (by decide))
  refine g_round (i := (rem, cur, nwc, msc, ctc)) (rem151, (some q150), (upM nwc q150.1 mg205), (mg205 :: msc), (upd ctc mg205 (ct q150.2))) ?_ ?_ ?_
  · exact ⟨rfl, rfl, rfl, trivial⟩
  · exact ⟨(hCN.next hok154 hN155 hm156 hnm210 (hB.tok _ (hB.nwm _ _ hN155))), (H211.takes [0, 2, 3, 4, 5, 6, 7, 8, 9, 10, 11, 12, 1, 13, 14] (by decide))⟩
  · exact hl157
end Go.Proofs.Ytlikhpfdncidkaa
