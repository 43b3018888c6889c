import Derived.Test.YtlikhpfdncidkaaFk
import Derived.Test.YtlikhpfdncidkaaCp
import Derived.Test.YtlikhpfdncidkaaBb
set_option linter.unusedSimpArgs false
set_option linter.unusedVariables false
namespace Go.Proofs.Ytlikhpfdncidkaa
open Go.RowKit

theorem cl23 : callable Try.prog 23 = true := by kernel_rfl
theorem copy_g {X : BM} {A : BS} {g : Nat} (hX : X.ok) (hg : X.b = g) (hA : X.A = A) (w : World) (HS : S w [X.I]) : Calls Try.prog 22 #[.pointer (some ⟨g, 0, none⟩)] w fun e w' => ∃ (Y : BM), Y.ok ∧ Y.A = rst A ∧ e = .returned (.pointer (some ⟨Y.b, 0, none⟩)) ∧ S w' ([Y.I, X.I] ++ [Old w (fps [X.I])]) := by
  subst hg; subst hA
  have hf : fps X.L = fps [X.I] := (fps_big (L := X.L)).symm
  have h0 : S w (X.L ++ []) := S.unbig HS
  rw [List.append_nil] at h0
  refine (copy_s (od := X.od) hX.1 w h0).mono ?_
  rintro e w' ⟨c, m5, m6, m7, m8, nwc, odc, msc, ctc, rsc, hBI, hN, hO, rfl, h⟩
  have h1 := Mp_congr (k0 := 1) (M' := fun x => if okI x then X.sc x else none) h rfl fun x hx => (if_pos hx).symm
  have h2 := Mp_congr (k0 := 2) (M' := fun x => if okI x then X.bn x else none) h1 rfl fun x hx => (if_pos hx).symm
  refine ⟨⟨c, m5, m6, m7, m8, fun x => if okI x then X.sc x else none, fun x => if okI x then X.bn x else none, nwc, odc, rsc, msc, ctc⟩, ⟨hBI, fun y v hy => ?_⟩, ?_, rfl, ?_⟩
  · have hy2 : (if okI y then X.bn y else none) = some v := hy
    split at hy2
    · exact hX.2 y v hy2
    · cases hy2
  · refine BS.ext (funext fun y => ?_) (funext fun y => ?_) (funext fun y => ?_) (funext fun y => ?_)
    · show (if okI y then X.sc y else none).getD 0 = if okI y then (X.sc y).getD 0 else 0
      split <;> rfl
    · show (if okI y then X.bn y else none).getD false = if okI y then (X.bn y).getD false else false
      split <;> rfl
    · show nwA nwc ctc y = if okI y then nwA X.nw X.ct y else noT
      split
      · rename_i hy; exact hN.1 y hy
      · rename_i hy; unfold nwA; rw [hN.2 y hy]; rfl
    · show odA odc ctc y = if okI y then odA X.od X.ct y else []
      split
      · rename_i hy; exact hO.1 y hy
      · rename_i hy; unfold odA odR; rw [hO.2 y hy]; rfl
  · rw [← hf]
    exact (S.big (L := X.L) (B := [_, _]) ((S.big (L := [_, _, _, _, _, _, _]) h2).takes [1, 2, 3, 4, 5, 6, 7, 0, 8] (by decide))).takes [1, 0, 2] (by decide)
theorem rcopy_q {X : RM} {s : RSt} {A : BS} {g : Nat} (hX : X.ok s) (hg : X.b = g) (hA : X.A = A) (w : World) (HS : S w [X.I, stI s]) : Calls Try.prog 23 #[.pointer (some ⟨g, 0, none⟩)] w fun e w' => ∃ (Y : RM) (t : RSt), Y.ok t ∧ X.ok t ∧ Y.A = rst A ∧ e = .returned (.pointer (some ⟨Y.b, 0, none⟩)) ∧ S w' ([Y.I, X.I, stI t] ++ [Old w (fps [X.I, stI s])]) := by
  subst hg; subst hA
  have hf : fps (X.L ++ stL s) = fps [X.I, stI s] := fps_two.symm
  refine (rcopy_s (hR := hX) w (X.open s HS)).mono ?_
  rintro e w' ⟨d, k1, k2, k3, k4, nwc, odc, bnc, scc, rsx, tsx, hRI, hle, hA, rfl, h⟩
  rw [← hf]
  have h2 := S.big (L := [_, _, _, _, _]) h
  have h3 := RM.shut1 X ⟨rsx, tsx⟩ h2
  exact ⟨⟨d, k1, k2, k3, k4, nwc, odc, bnc, scc⟩, ⟨rsx, tsx⟩, hRI, RI.le hX hle, hA, rfl, h3⟩
theorem bans_f {X : BM} {A : BS} {g : Nat} (hX : X.ok) (hg : X.b = g) (hA : X.A = A) (w : World) (HS : S w [X.I]) : Calls Try.prog 24 #[.pointer (some ⟨g, 0, none⟩)] w fun e w' => ∃ p c, e = .returned (.slice p (bansL A).length c) ∧ S w' ([Rw 3 1 p (bansL A).length c (fl intL (bansL A)), X.I] ++ [Old w (fps [X.I])]) := by
  rw [← zV_fl]; exact bans_g hX hg hA rfl w HS
theorem bans_mono {A B : BS} (h : ∀ p, A.bn p = true → B.bn p = true) : (bansL A).length ≤ (bansL B).length :=
  len_sub ((bansL_lt A).imp fun h => by omega) fun x hx => bansL_mem.2 ⟨(bansL_mem.1 hx).1, h x (bansL_mem.1 hx).2⟩
set_option maxRecDepth 20000 in
set_option maxHeartbeats 4000000 in
theorem copies_law (l : List Dd) (p : Option Addr) (n c : Nat) (hl : n ≤ 9223372036854775807) (hok_l : ∀ x ∈ l, okI x.pr ∧ okI x.pc) (l2 : List Dd) (q : Option Addr) (m d : Nat) (hl2 : m ≤ 9223372036854775807) (hok_l2 : ∀ x ∈ l2, okI x.pr ∧ okI x.pc)  (w : World) (hr : Reads w p n c 7 (fl ddL l)) (hr2 : Reads w q m d 7 (fl ddL l2)) : Calls Try.prog 6 #[.slice p n c, .slice q m d] w fun e w' => e = .returned (.bool true) ∧ S w' [Old w no] := by
 have H0 := S.old w
 have hn := hr.lenL ddE
 have hm := hr2.lenL ddE
 refine enter 104 Try.func6 rfl rfl rfl ?_
 refine g_weak [(0, .slice p n c), (1, .slice q m d)] ⟨rfl, rfl, trivial⟩ ?_
 refine w_s ?_
 refine w_a ?_
 refine w_e ?_
 refine g_seq ?_
 refine w_s ?_
 refine w_m ?_
 refine l_of (s_call (wt0 rfl) (x_call' rfl rfl cl18) (light_s l p n c (by omega) _ (H0.oldReads (k := 0) rfl hr)) ?_)
 rintro _ wq3 ⟨lb1, rfl, hlb2, H4⟩
 replace H4 : S wq3 [Old w no] := H0.absorb (new := []) H4
 refine b_ret rfl rfl ?_
 refine w_v (v := .bool (!lb1)) (x_not (b := lb1) rfl rfl) ?_
 refine w_m ?_
 rcases Bool.eq_false_or_eq_true (lb1) with hb5 | hb5
 ·
  refine w_g (neg_of hb5) xm ?_
  refine l_of (s_call (wt1 rfl rfl rfl rfl (neg_of hb5)) (x_call' rfl rfl cl18) (light_s l2 q m d (by omega) _ (H4.oldReads (k := 0) rfl hr2)) ?_)
  rintro _ wq8 ⟨lb6, rfl, hlb7, H9⟩
  replace H9 : S wq8 [Old w no] := H4.absorb (new := []) H9
  refine b_ret rfl rfl ?_
  refine w_g (v := .bool (!lb6)) (neg_of hb5) (x_not (b := lb6) rfl rfl) ?_
  refine w_v (v := .bool (!lb6)) (x_pick_f rfl rfl (neg_of hb5) rfl) ?_
  refine w_e ?_
  rcases Bool.eq_false_or_eq_true (lb6) with hb10 | hb10
  ·
   refine g_cond_f rfl (neg_of hb10) ?_
   refine g_skip ?_
   refine g_then ?_
   refine w_s ?_
   refine l_of (s_call (wt0 rfl) (x_call' rfl rfl cl12) (new_x _) ?_)
   rintro _ wq14 ⟨Y11, hYo12, hYA13, rfl, H15⟩
   replace H15 : S wq14 [Y11.I, Old w no] := H9.absorb (new := [Y11.I]) H15
   refine b_ret rfl rfl ?_
   refine l_of (s_call (wt0 rfl) (x_call' rfl rfl cl19) (rnew_q _) ?_)
   rintro _ wq19 ⟨Z16, hZo17, hZA18, rfl, H20⟩
   replace H20 : S wq19 [Z16.I, stI (⟨[], []⟩ : RSt), Y11.I, Old w no] := H15.absorb (new := [Z16.I, stI (⟨[], []⟩ : RSt)]) H20
   refine b_ret rfl rfl ?_
   refine w_r2 ?_
   refine w_e ?_
   refine g_seq ?_
   refine w_s ?_
   refine w_m ?_
   refine w_v (v := .int .i64 ((n : Int))) (x_lenl rfl rfl Try.underlying47) ?_
   refine w_m ?_
   refine w_e ?_
   refine g_weak [(1, .slice q m d), (5, .pointer (some ⟨Y11.b, 0, none⟩)), (6, .pointer (some ⟨Z16.b, 0, none⟩)), (30, .slice p n c), (31, .int .i64 ((n : Int))), (32, .int .i64 0)] ⟨rfl, rfl, rfl, rfl, rfl, rfl, trivial⟩ ?_
   refine g_block ?_
   refine g_loop (ι := Nat × BM × RM × RSt × BS) (fun (k, X, Z, s, A) => [(1, .slice q m d), (5, .pointer (some ⟨Y11.b, 0, none⟩)), (6, .pointer (some ⟨Z16.b, 0, none⟩)), (30, .slice p n c), (31, .int .i64 ((n : Int))), (32, .int .i64 ((k : Int)))]) (fun (k, X, Z, s, A) wx => (k ≤ n) ∧ (X.ok) ∧ (X.b = Y11.b) ∧ (X.A = A) ∧ (Z.ok s) ∧ (Z.b = Z16.b) ∧ (Z.A = A) ∧ S wx [X.I, Z.I, stI s, Old w no]) (fun (k, X, Z, s, A) => n - k) (0, Y11, Z16, (⟨[], []⟩ : RSt), BS.none) ⟨rfl, rfl, rfl, rfl, rfl, rfl, trivial⟩ ⟨Nat.zero_le _, hYo12, rfl, hYA13, hZo17, rfl, hZA18, (H20.takes [2, 0, 1, 3] (by decide))⟩ ?_
   rintro ⟨k, X, Z, s, A⟩ wq21 ⟨hk, hXo, hXb, hXA, hZo, hZb, hZA, H22⟩
   refine g_weak [(1, .slice q m d), (5, .pointer (some ⟨Y11.b, 0, none⟩)), (6, .pointer (some ⟨Z16.b, 0, none⟩)), (30, .slice p n c), (31, .int .i64 ((n : Int))), (32, .int .i64 ((k : Int)))] ⟨rfl, rfl, rfl, rfl, rfl, rfl, trivial⟩ ?_
   refine w_s ?_
   refine w_b ?_
   refine w_e ?_
   refine g_seq ?_
   by_cases hb23 : ((k : Int) : Int) < (n : Int)
   ·
    refine g_cond_t rfl (decide_eq_true hb23) ?_
    refine g_skip ?_
    refine g_then ?_
    refine g_seq ?_
    refine g_block ?_
    refine w_s ?_
    refine w_v (v := .pointer ((p).map fun q => q.add (k * 7))) (x_idxR k (H22.oldReads (k := 3) rfl hr) rfl rfl rfl Try.underlying47 sz52 (by omega)) ?_
    have hlq := (H22.oldReads (k := 3) rfl hr).lenL ddE
    obtain ⟨x24, hx24⟩ := ex_at (l := l) (j := k) (by omega)
    clear hlq
    have hokx24 := hok_l x24 (List.mem_of_getElem? hx24)
    refine w_v (v := .agg #[.int .i64 (x24.kd), .int .i64 (x24.pr), .int .i64 (x24.pc), .int .i64 (x24.bg), .int .i64 (x24.ln), .string (x24.dt), .bool x24.gd]) (x_loadRA (vs := ddL x24) k (H22.oldReads (k := 3) rfl hr) (by omega) rfl rfl Try.underlying52 rfl sz52 (by rfl) (ddE.flAt hx24)) ?_
    refine l_of (s_alloc H22 (wt0 rfl) rfl rfl rfl ze52 ?_)
    intro g25 wq26 H27
    refine l_of (w_st #[.int .i64 (x24.kd), .int .i64 (x24.pr), .int .i64 (x24.pc), .int .i64 (x24.bg), .int .i64 (x24.ln), .string (x24.dt), .bool x24.gd] H27 0 ?_)
    intro wq28 H29
    refine w_e ?_
    refine w_s ?_
    refine w_r2 ?_
    refine w_v (v := .agg #[.int .i64 (x24.kd), .int .i64 (x24.pr), .int .i64 (x24.pc), .int .i64 (x24.bg), .int .i64 (x24.ln), .string (x24.dt), .bool x24.gd]) (x_loadA H29 0 rfl rfl Try.underlying52 rfl sz52 rfl rfl rfl) ?_
    refine l_of (s_call (wt0 rfl) (x_call' rfl rfl cl20) (does_s (kd := x24.kd) (bg := x24.bg) (ln := x24.ln) (data := x24.dt) (gd := x24.gd) hXo hXb hXA hZo hZb hZA hokx24.1 hokx24.2 _ (H29.takes [1, 2, 3] (by decide))) ?_)
    rintro _ wq42 ⟨X30, Z31, s32, A33, hXo34, hXb35, hXA36, hZo37, hZb38, hZA39, hle40, hgr41, rfl, H43⟩
    replace H43 : S wq42 [X30.I, Z31.I, stI s32, Ob g25 (.cells #[.int .i64 (x24.kd), .int .i64 (x24.pr), .int .i64 (x24.pc), .int .i64 (x24.bg), .int .i64 (x24.ln), .string (x24.dt), .bool x24.gd] 52 (0, 0)), Old w no] := by have h := H29.absorbI [1, 2, 3] H43; exact h
    refine b_ret rfl rfl ?_
    refine w_v (v := .bool false) (x_not (b := true) rfl rfl) ?_
    refine w_e ?_
    refine g_cond_f rfl rfl ?_
    refine g_skip ?_
    refine g_in ?_
    refine g_then ?_
    refine g_region ?_
    refine w_b (v := .int .i64 (((k + 1 : Nat) : Int))) (hb := (b_add (by rw [w64 (by omega)]; omega))) ?_
    refine w_m ?_
    refine w_e ?_
    refine g_round (i := (k, X, Z, s, A)) ((k + 1), X30, Z31, s32, A33) ?_ ?_ ?_
    · exact ⟨rfl, rfl, rfl, rfl, rfl, rfl, trivial⟩
    · exact ⟨by omega, hXo34, hXb35, hXA36, hZo37, hZb38, hZA39, (H43.takes [0, 1, 2, 4] (by decide))⟩
    · (try dsimp only); omega
   ·
    refine g_cond_f rfl (decide_eq_false hb23) ?_
    refine g_exit ?_
    refine g_then_exit ?_
    refine g_then_exit ?_
    refine g_in_hit ?_
    refine g_then ?_
    refine w_s ?_
    refine w_m ?_
    refine l_of (s_call (wt0 rfl) (x_call' rfl rfl cl22) (copy_g hXo hXb hXA _ (H22.takes [0] (by decide))) ?_)
    rintro _ wq47 ⟨Y44, hYo45, hYA46, rfl, H48⟩
    replace H48 : S wq47 [Y44.I, X.I, Z.I, stI s, Old w no] := by have h := H22.absorbI [0] H48; exact h
    refine b_ret rfl rfl ?_
    refine w_a ?_
    refine w_e ?_
    refine g_seq ?_
    refine w_s ?_
    refine w_m ?_
    refine w_b (v := .bool false) (hb := (b_eqN (r := false) Try.underlying28 rfl)) ?_
    refine w_e ?_
    refine g_cond_f rfl rfl ?_
    refine g_skip ?_
    refine g_then ?_
    refine w_s ?_
    refine w_m ?_
    refine l_of (s_call (wt0 rfl) (x_call' rfl rfl cl23) (rcopy_q hZo hZb hZA _ (H48.takes [2, 3] (by decide))) ?_)
    rintro _ wq54 ⟨V49, sto50, hVo51, hZo52, hVA53, rfl, H55⟩
    replace H55 : S wq54 [V49.I, Z.I, stI sto50, Y44.I, X.I, Old w no] := by have h := H48.absorbI [2, 3] H55; exact h
    refine b_ret rfl rfl ?_
    refine w_a ?_
    refine w_e ?_
    refine w_s ?_
    refine w_m ?_
    refine l_of (s_call (wt0 rfl) (x_call' rfl rfl cl24) (bans_f hYo45 rfl hYA46 _ (H55.takes [3] (by decide))) ?_)
    rintro _ wq58 ⟨p56, c57, rfl, H59⟩
    replace H59 : S wq58 [Rw 3 1 p56 ((bansL (rst A)).length) c57 (fl intL (bansL (rst A))), Y44.I, V49.I, Z.I, stI sto50, X.I, Old w no] := by have h := H55.absorbI [3] H59; exact h
    refine b_ret rfl rfl ?_
    refine w_a ?_
    refine w_e ?_
    refine g_weak [(1, .slice q m d), (5, .pointer (some ⟨Y11.b, 0, none⟩)), (6, .pointer (some ⟨Z16.b, 0, none⟩)), (9, .pointer (some ⟨Y44.b, 0, none⟩)), (10, .pointer (some ⟨V49.b, 0, none⟩)), (11, .slice p56 ((bansL (rst A)).length) c57)] ⟨rfl, rfl, rfl, rfl, rfl, rfl, trivial⟩ ?_
    refine g_seq ?_
    refine w_s ?_
    refine w_m ?_
    refine w_v (v := .int .i64 ((m : Int))) (x_lenl rfl rfl Try.underlying47) ?_
    refine w_m ?_
    refine w_e ?_
    refine g_block ?_
    refine g_loop (ι := Nat × BM × RM × RSt × BS × Option Addr × Nat) (fun (j, Y, V, s2, A2, pl, cl) => [(5, .pointer (some ⟨Y11.b, 0, none⟩)), (6, .pointer (some ⟨Z16.b, 0, none⟩)), (9, .pointer (some ⟨Y44.b, 0, none⟩)), (10, .pointer (some ⟨V49.b, 0, none⟩)), (11, .slice pl ((bansL A2).length) cl), (50, .slice q m d), (51, .int .i64 ((m : Int))), (52, .int .i64 ((j : Int)))]) (fun (j, Y, V, s2, A2, pl, cl) wx => (j ≤ m) ∧ (Y.ok) ∧ (Y.b = Y44.b) ∧ (Y.A = A2) ∧ (V.ok s2) ∧ (V.b = V49.b) ∧ (V.A = A2) ∧ (Z.ok s2) ∧ S wx [X.I, Y.I, Z.I, V.I, stI s2, Rw 3 1 pl ((bansL A2).length) cl (fl intL (bansL A2)), Old w no]) (fun (j, Y, V, s2, A2, pl, cl) => m - j) (0, Y44, V49, sto50, (rst A), p56, c57) ⟨rfl, rfl, rfl, rfl, rfl, rfl, rfl, rfl, trivial⟩ ⟨Nat.zero_le _, hYo45, rfl, hYA46, hVo51, rfl, hVA53, hZo52, (H59.takes [5, 1, 3, 2, 4, 0, 6] (by decide))⟩ ?_
    rintro ⟨j, Y, V, s2, A2, pl, cl⟩ wq60 ⟨hj, hYo, hYb, hYA, hVo, hVb, hVA, hZo2, H61⟩
    refine g_weak [(5, .pointer (some ⟨Y11.b, 0, none⟩)), (6, .pointer (some ⟨Z16.b, 0, none⟩)), (9, .pointer (some ⟨Y44.b, 0, none⟩)), (10, .pointer (some ⟨V49.b, 0, none⟩)), (11, .slice pl ((bansL A2).length) cl), (50, .slice q m d), (51, .int .i64 ((m : Int))), (52, .int .i64 ((j : Int)))] ⟨rfl, rfl, rfl, rfl, rfl, rfl, rfl, rfl, trivial⟩ ?_
    refine w_s ?_
    refine w_b ?_
    refine w_e ?_
    refine g_seq ?_
    by_cases hb62 : ((j : Int) : Int) < (m : Int)
    ·
     refine g_cond_t rfl (decide_eq_true hb62) ?_
     refine g_skip ?_
     refine g_then ?_
     refine g_seq ?_
     refine g_block ?_
     refine w_s ?_
     refine w_v (v := .pointer ((q).map fun q => q.add (j * 7))) (x_idxR j (H61.oldReads (k := 6) rfl hr2) rfl rfl rfl Try.underlying47 sz52 (by omega)) ?_
     have hlq := (H61.oldReads (k := 6) rfl hr2).lenL ddE
     obtain ⟨x63, hx63⟩ := ex_at (l := l2) (j := j) (by omega)
     clear hlq
     have hokx63 := hok_l2 x63 (List.mem_of_getElem? hx63)
     refine w_v (v := .agg #[.int .i64 (x63.kd), .int .i64 (x63.pr), .int .i64 (x63.pc), .int .i64 (x63.bg), .int .i64 (x63.ln), .string (x63.dt), .bool x63.gd]) (x_loadRA (vs := ddL x63) j (H61.oldReads (k := 6) rfl hr2) (by omega) rfl rfl Try.underlying52 rfl sz52 (by rfl) (ddE.flAt hx63)) ?_
     refine l_of (s_alloc H61 (wt0 rfl) rfl rfl rfl ze52 ?_)
     intro g64 wq65 H66
     refine l_of (w_st #[.int .i64 (x63.kd), .int .i64 (x63.pr), .int .i64 (x63.pc), .int .i64 (x63.bg), .int .i64 (x63.ln), .string (x63.dt), .bool x63.gd] H66 0 ?_)
     intro wq67 H68
     refine w_e ?_
     refine g_seq ?_
     refine w_s ?_
     refine w_r2 ?_
     refine w_v (v := .agg #[.int .i64 (x63.kd), .int .i64 (x63.pr), .int .i64 (x63.pc), .int .i64 (x63.bg), .int .i64 (x63.ln), .string (x63.dt), .bool x63.gd]) (x_loadA H68 0 rfl rfl Try.underlying52 rfl sz52 rfl rfl rfl) ?_
     refine l_of (s_call (wt0 rfl) (x_call' rfl rfl cl20) (does_s (kd := x63.kd) (bg := x63.bg) (ln := x63.ln) (data := x63.dt) (gd := x63.gd) hYo hYb hYA hVo hVb hVA hokx63.1 hokx63.2 _ (H68.takes [2, 4, 5] (by decide))) ?_)
     rintro _ wq81 ⟨X69, Z70, s71, A72, hXo73, hXb74, hXA75, hZo76, hZb77, hZA78, hle79, hgr80, rfl, H82⟩
     replace H82 : S wq81 [X69.I, Z70.I, stI s71, Ob g64 (.cells #[.int .i64 (x63.kd), .int .i64 (x63.pr), .int .i64 (x63.pc), .int .i64 (x63.bg), .int .i64 (x63.ln), .string (x63.dt), .bool x63.gd] 52 (0, 0)), X.I, Z.I, Rw 3 1 pl ((bansL A2).length) cl (fl intL (bansL A2)), Old w no] := by have h := H68.absorbI [2, 4, 5] H82; exact h
     refine b_ret rfl rfl ?_
     refine w_v (v := .bool false) (x_not (b := true) rfl rfl) ?_
     refine w_e ?_
     refine g_cond_f rfl rfl ?_
     refine g_skip ?_
     refine g_then ?_
     refine w_s ?_
     refine w_m ?_
     refine l_of (s_call (wt0 rfl) (x_call' rfl rfl cl24) (bans_f hXo73 hXb74 hXA75 _ (H82.takes [0] (by decide))) ?_)
     rintro _ wq85 ⟨p83, c84, rfl, H86⟩
     replace H86 : S wq85 [Rw 3 1 p83 ((bansL A72).length) c84 (fl intL (bansL A72)), X69.I, Z70.I, stI s71, Ob g64 (.cells #[.int .i64 (x63.kd), .int .i64 (x63.pr), .int .i64 (x63.pc), .int .i64 (x63.bg), .int .i64 (x63.ln), .string (x63.dt), .bool x63.gd] 52 (0, 0)), X.I, Z.I, Rw 3 1 pl ((bansL A2).length) cl (fl intL (bansL A2)), Old w no] := by have h := H82.absorbI [0] H86; exact h
     refine b_ret rfl rfl ?_
     refine w_a ?_
     refine w_e ?_
     refine g_seq ?_
     refine w_s ?_
     refine w_m ?_
     refine w_v (v := .int .i64 (((bansL A2).length : Int))) (x_lenl rfl rfl Try.underlying24) ?_
     refine w_m ?_
     refine w_e ?_
     refine g_block ?_
     refine g_loop (ι := Nat) (fun a => [(5, .pointer (some ⟨Y11.b, 0, none⟩)), (6, .pointer (some ⟨Z16.b, 0, none⟩)), (9, .pointer (some ⟨Y44.b, 0, none⟩)), (10, .pointer (some ⟨V49.b, 0, none⟩)), (11, .slice pl ((bansL A2).length) cl), (14, .slice p83 ((bansL A72).length) c84), (50, .slice q m d), (51, .int .i64 ((m : Int))), (52, .int .i64 ((j : Int))), (63, .slice pl ((bansL A2).length) cl), (64, .int .i64 (((bansL A2).length : Int))), (65, .int .i64 ((a : Int)))]) (fun a wx => (a ≤ (bansL A2).length) ∧ S wx [Rw 3 1 p83 ((bansL A72).length) c84 (fl intL (bansL A72)), X69.I, Z70.I, stI s71, Ob g64 (.cells #[.int .i64 (x63.kd), .int .i64 (x63.pr), .int .i64 (x63.pc), .int .i64 (x63.bg), .int .i64 (x63.ln), .string (x63.dt), .bool x63.gd] 52 (0, 0)), X.I, Z.I, Rw 3 1 pl ((bansL A2).length) cl (fl intL (bansL A2)), Old w no]) (fun a => ((bansL A2).length) - a) (0) ⟨rfl, rfl, rfl, rfl, rfl, rfl, rfl, rfl, rfl, rfl, rfl, rfl, trivial⟩ ⟨Nat.zero_le _, (H86.takes [0, 1, 2, 3, 4, 5, 6, 7, 8] (by decide))⟩ ?_
     rintro a wq87 ⟨ha, H88⟩
     refine g_weak [(5, .pointer (some ⟨Y11.b, 0, none⟩)), (6, .pointer (some ⟨Z16.b, 0, none⟩)), (9, .pointer (some ⟨Y44.b, 0, none⟩)), (10, .pointer (some ⟨V49.b, 0, none⟩)), (11, .slice pl ((bansL A2).length) cl), (14, .slice p83 ((bansL A72).length) c84), (50, .slice q m d), (51, .int .i64 ((m : Int))), (52, .int .i64 ((j : Int))), (63, .slice pl ((bansL A2).length) cl), (64, .int .i64 (((bansL A2).length : Int))), (65, .int .i64 ((a : Int)))] ⟨rfl, rfl, rfl, rfl, rfl, rfl, rfl, rfl, rfl, rfl, rfl, rfl, trivial⟩ ?_
     refine w_s ?_
     refine w_b ?_
     refine w_e ?_
     refine g_seq ?_
     by_cases hb89 : ((a : Int) : Int) < ((bansL A2).length : Int)
     ·
      refine g_cond_t rfl (decide_eq_true hb89) ?_
      refine g_skip ?_
      refine g_then ?_
      refine g_seq ?_
      refine g_block ?_
      refine w_s ?_
      refine w_v (v := .pointer ((pl).map fun q => q.add (a * 1))) (x_idxR a (H88.rwReads (k := 7) rfl) rfl rfl rfl Try.underlying24 sz3 (by omega)) ?_
      have hlq := (H88.rwReads (k := 7) rfl).lenL intE
      obtain ⟨x90, hx90⟩ := ex_at (l := (bansL A2)) (j := a) (by omega)
      clear hlq
      have hbm := bansL_mem.1 (List.mem_of_getElem? hx90)
      have hok_x90 : okI x90 := okI_in hbm.1
      have hbb := hgr80 x90 hbm.2
      have hbl := bans_len A2
      refine w_v (v := .int .i64 x90) (x_loadR1 a (H88.rwReads (k := 7) rfl) (by omega) rfl rfl Try.underlying3 rfl (intE.flAt1 hx90 rfl)) ?_
      refine w_a ?_
      refine w_e ?_
      refine w_s ?_
      refine w_r2 ?_
      refine l_of (s_call (wt0 rfl) (x_call' rfl rfl cl10) (banned_g hXo73 hXb74 hXA75 hok_x90 rfl _ (H88.takes [1] (by decide))) ?_)
      rintro _ wq91 ⟨rfl, H92⟩
      replace H92 : S wq91 [X69.I, Rw 3 1 p83 ((bansL A72).length) c84 (fl intL (bansL A72)), Z70.I, stI s71, Ob g64 (.cells #[.int .i64 (x63.kd), .int .i64 (x63.pr), .int .i64 (x63.pc), .int .i64 (x63.bg), .int .i64 (x63.ln), .string (x63.dt), .bool x63.gd] 52 (0, 0)), X.I, Z.I, Rw 3 1 pl ((bansL A2).length) cl (fl intL (bansL A2)), Old w no] := by have h := H88.absorbI [1] H92; exact h
      refine b_ret rfl rfl ?_
      refine w_v (v := .bool (!((A72.bn x90)))) (x_not (b := (A72.bn x90)) rfl rfl) ?_
      refine w_e ?_
      refine g_cond_f rfl (neg_of hbb) ?_
      refine g_skip ?_
      refine g_in ?_
      refine g_then ?_
      refine g_region ?_
      refine w_b (v := .int .i64 (((a + 1 : Nat) : Int))) (hb := (b_add (by rw [w64 (by omega)]; omega))) ?_
      refine w_m ?_
      refine w_e ?_
      refine g_round (i := (a)) ((a + 1)) ?_ ?_ ?_
      · exact ⟨rfl, rfl, rfl, rfl, rfl, rfl, rfl, rfl, rfl, rfl, rfl, rfl, trivial⟩
      · exact ⟨by omega, (H92.takes [1, 0, 2, 3, 4, 5, 6, 7, 8] (by decide))⟩
      · (try dsimp only); omega
     ·
      refine g_cond_f rfl (decide_eq_false hb89) ?_
      refine g_exit ?_
      refine g_then_exit ?_
      refine g_then_exit ?_
      refine g_in_hit ?_
      refine g_then ?_
      refine g_seq ?_
      refine w_s ?_
      refine w_m ?_
      refine w_v (v := .int .i64 (((bansL A72).length : Int))) (x_lenl rfl rfl Try.underlying24) ?_
      refine w_m ?_
      refine w_v (v := .int .i64 (((bansL A2).length : Int))) (x_lenl rfl rfl Try.underlying24) ?_
      refine w_b ?_
      refine w_e ?_
      refine g_cond_f rfl (decide_eq_false (by have := bans_mono hgr80; omega)) ?_
      refine g_skip ?_
      refine g_then ?_
      refine g_region ?_
      refine w_r2 ?_
      refine g_nil ?_
      refine g_in ?_
      refine g_then ?_
      refine g_region ?_
      refine w_b (v := .int .i64 (((j + 1 : Nat) : Int))) (hb := (b_add (by rw [w64 (by omega)]; omega))) ?_
      refine w_m ?_
      refine w_e ?_
      refine g_round (i := (j, Y, V, s2, A2, pl, cl)) ((j + 1), X69, Z70, s71, A72, p83, c84) ?_ ?_ ?_
      · exact ⟨rfl, rfl, rfl, rfl, rfl, rfl, rfl, rfl, trivial⟩
      · exact ⟨by omega, hXo73, hXb74, hXA75, hZo76, hZb77, hZA78, (RI.le hZo2 hle79), (H88.takes [5, 1, 6, 2, 3, 0, 8] (by decide))⟩
      · (try dsimp only); omega
    ·
     refine g_cond_f rfl (decide_eq_false hb62) ?_
     refine g_exit ?_
     refine g_then_exit ?_
     refine g_then_exit ?_
     refine g_in_hit ?_
     refine g_then ?_
     refine g_seq ?_
     refine w_s ?_
     refine w_m ?_
     refine w_e ?_
     refine g_block ?_
     refine g_loop (ι := Nat) (fun a => [(5, .pointer (some ⟨Y11.b, 0, none⟩)), (6, .pointer (some ⟨Z16.b, 0, none⟩)), (9, .pointer (some ⟨Y44.b, 0, none⟩)), (10, .pointer (some ⟨V49.b, 0, none⟩)), (81, .int .i64 ((a : Int)))]) (fun a wx => (a ≤ 9) ∧ S wx [X.I, Y.I, Z.I, V.I, stI s2, Old w no]) (fun a => 9 - a) (0) ⟨rfl, rfl, rfl, rfl, rfl, trivial⟩ ⟨Nat.zero_le _, (H61.takes [0, 1, 2, 3, 4, 6] (by decide))⟩ ?_
     rintro a wq93 ⟨ha, H94⟩
     refine g_weak [(5, .pointer (some ⟨Y11.b, 0, none⟩)), (6, .pointer (some ⟨Z16.b, 0, none⟩)), (9, .pointer (some ⟨Y44.b, 0, none⟩)), (10, .pointer (some ⟨V49.b, 0, none⟩)), (81, .int .i64 ((a : Int)))] ⟨rfl, rfl, rfl, rfl, rfl, trivial⟩ ?_
     refine w_s ?_
     refine w_b ?_
     refine w_e ?_
     refine g_seq ?_
     by_cases hb95 : ((a : Int) : Int) < 9
     ·
      refine g_cond_t rfl (decide_eq_true hb95) ?_
      refine g_skip ?_
      refine g_then ?_
      refine g_seq ?_
      refine g_block ?_
      refine w_s ?_
      refine w_r2 ?_
      refine w_e ?_
      refine w_s ?_
      refine w_m ?_
      refine w_e ?_
      refine g_block ?_
      refine g_loop (ι := Nat) (fun b => [(5, .pointer (some ⟨Y11.b, 0, none⟩)), (6, .pointer (some ⟨Z16.b, 0, none⟩)), (9, .pointer (some ⟨Y44.b, 0, none⟩)), (10, .pointer (some ⟨V49.b, 0, none⟩)), (17, .int .i64 ((a : Int))), (81, .int .i64 ((a : Int))), (84, .int .i64 ((b : Int)))]) (fun b wx => (b ≤ 4) ∧ S wx [X.I, Y.I, Z.I, V.I, stI s2, Old w no]) (fun b => 4 - b) (0) ⟨rfl, rfl, rfl, rfl, rfl, rfl, rfl, trivial⟩ ⟨Nat.zero_le _, (H94.takes [0, 1, 2, 3, 4, 5] (by decide))⟩ ?_
      rintro b wq96 ⟨hb, H97⟩
      refine g_weak [(5, .pointer (some ⟨Y11.b, 0, none⟩)), (6, .pointer (some ⟨Z16.b, 0, none⟩)), (9, .pointer (some ⟨Y44.b, 0, none⟩)), (10, .pointer (some ⟨V49.b, 0, none⟩)), (17, .int .i64 ((a : Int))), (81, .int .i64 ((a : Int))), (84, .int .i64 ((b : Int)))] ⟨rfl, rfl, rfl, rfl, rfl, rfl, rfl, trivial⟩ ?_
      refine w_s ?_
      refine w_b ?_
      refine w_e ?_
      refine g_seq ?_
      by_cases hb98 : ((b : Int) : Int) < 4
      ·
       refine g_cond_t rfl (decide_eq_true hb98) ?_
       refine g_skip ?_
       refine g_then ?_
       refine g_seq ?_
       refine g_block ?_
       refine w_s ?_
       refine w_r2 ?_
       refine w_e ?_
       refine w_s ?_
       refine w_r4 ?_
       refine l_of (s_call (wt0 rfl) (x_call' rfl rfl cl21) (same_s hXo hXb hXA hZo2 hZb hZA ⟨by omega, by omega⟩ ⟨by omega, by omega⟩ _ (H97.takes [0, 2, 4] (by decide))) ?_)
       rintro _ wq99 ⟨rfl, H100⟩
       replace H100 : S wq99 [X.I, Z.I, stI s2, Y.I, V.I, Old w no] := by have h := H97.absorbI [0, 2, 4] H100; exact h
       refine b_ret rfl rfl ?_
       refine w_v (v := .bool false) (x_not (b := true) rfl rfl) ?_
       refine w_m ?_
       refine w_g rfl xm ?_
       refine w_g rfl xm ?_
       refine w_g rfl xm ?_
       refine w_g rfl xm ?_
       refine l_of (s_call (wt1 rfl rfl rfl rfl rfl) (x_call' rfl rfl cl21) (same_s hYo hYb hYA hVo hVb hVA ⟨by omega, by omega⟩ ⟨by omega, by omega⟩ _ (H100.takes [3, 4, 2] (by decide))) ?_)
       rintro _ wq101 ⟨rfl, H102⟩
       replace H102 : S wq101 [Y.I, V.I, stI s2, X.I, Z.I, Old w no] := by have h := H100.absorbI [3, 4, 2] H102; exact h
       refine b_ret rfl rfl ?_
       refine w_g (v := .bool false) rfl (x_not (b := true) rfl rfl) ?_
       refine w_v (v := .bool false) (x_pick_f rfl rfl rfl rfl) ?_
       refine w_e ?_
       refine g_weak [(5, .pointer (some ⟨Y11.b, 0, none⟩)), (6, .pointer (some ⟨Z16.b, 0, none⟩)), (9, .pointer (some ⟨Y44.b, 0, none⟩)), (10, .pointer (some ⟨V49.b, 0, none⟩)), (17, .int .i64 ((a : Int))), (81, .int .i64 ((a : Int))), (84, .int .i64 ((b : Int))), (100, .bool false)] ⟨rfl, rfl, rfl, rfl, rfl, rfl, rfl, rfl, trivial⟩ ?_
       refine g_cond_f rfl rfl ?_
       refine g_skip ?_
       refine g_in ?_
       refine g_then ?_
       refine g_region ?_
       refine w_b (v := .int .i64 (((b + 1 : Nat) : Int))) (hb := (b_add (by rw [w64 (by omega)]; omega))) ?_
       refine w_m ?_
       refine w_e ?_
       refine g_round (i := (b)) ((b + 1)) ?_ ?_ ?_
       · exact ⟨rfl, rfl, rfl, rfl, rfl, rfl, rfl, trivial⟩
       · exact ⟨by omega, (H102.takes [3, 0, 4, 1, 2, 5] (by decide))⟩
       · (try dsimp only); omega
      ·
       refine g_cond_f rfl (decide_eq_false hb98) ?_
       refine g_exit ?_
       refine g_then_exit ?_
       refine g_then_exit ?_
       refine g_in_hit ?_
       refine g_in ?_
       refine g_then ?_
       refine g_region ?_
       refine w_b (v := .int .i64 (((a + 1 : Nat) : Int))) (hb := (b_add (by rw [w64 (by omega)]; omega))) ?_
       refine w_m ?_
       refine w_e ?_
       refine g_round (i := (a)) ((a + 1)) ?_ ?_ ?_
       · exact ⟨rfl, rfl, rfl, rfl, rfl, trivial⟩
       · exact ⟨by omega, (H97.takes [0, 1, 2, 3, 4, 5] (by decide))⟩
       · (try dsimp only); omega
     ·
      refine g_cond_f rfl (decide_eq_false hb95) ?_
      refine g_exit ?_
      refine g_then_exit ?_
      refine g_then_exit ?_
      refine g_in_hit ?_
      refine g_then ?_
      refine w_s ?_
      refine l_of (s_call0 H94 (wt0 rfl) (x_call' rfl rfl cl8) (awake_s _) rfl rfl ?_)
      intro wq103 H104
      refine w_a ?_
      refine w_e ?_
      refine g_ret ?_
      refine fin_ret [.tmp 4] [.bool true] rfl ⟨rfl, trivial⟩ ?_
      exact ⟨rfl, H104.mask [false, false, false, false, false, true]⟩
  ·
   refine g_cond_t rfl (neg_of hb10) ?_
   refine w_s ?_
   refine l_of (s_call0 H9 (wt0 rfl) (x_call' rfl rfl cl8) (awake_s _) rfl rfl ?_)
   intro wq105 H106
   refine w_a ?_
   refine w_e ?_
   refine g_ret ?_
   refine g_then_ret ?_
   refine fin_ret [.tmp 4] [.bool true] rfl ⟨rfl, trivial⟩ ?_
   exact ⟨rfl, H106.mask [true]⟩
 ·
  refine w_n (neg_of hb5) ?_
  refine w_n (neg_of hb5) ?_
  refine w_n (neg_of hb5) ?_
  refine w_v (v := .bool true) (x_pick_t rfl rfl (neg_of hb5) rfl) ?_
  refine w_e ?_
  refine g_cond_t rfl rfl ?_
  refine w_s ?_
  refine l_of (s_call0 H4 (wt0 rfl) (x_call' rfl rfl cl8) (awake_s _) rfl rfl ?_)
  intro wq107 H108
  refine w_a ?_
  refine w_e ?_
  refine g_ret ?_
  refine g_then_ret ?_
  refine fin_ret [.tmp 4] [.bool true] rfl ⟨rfl, trivial⟩ ?_
  exact ⟨rfl, H108.mask [true]⟩
end Go.Proofs.Ytlikhpfdncidkaa
