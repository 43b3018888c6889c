import Derived.Test.YtpbjekdjebjbkaaGreatFk
import Derived.Test.YtpbjekdjebjbkaaGreatTy
set_option linter.unusedSimpArgs false
set_option linter.unusedVariables false
namespace Go.Proofs.YtpbjekdjebjbkaaGreat
open Go.RowKit

theorem cl26 : callable Tryz.prog 26 = true := by kernel_rfl
theorem kr_of {X : GM} (hA : GOK X.A) : ∀ s ∈ X.ss, 1 ≤ s.k ∧ s.k ≤ 7 := fun s hs => by
  have h1 : s.k ∈ X.A.ss.map Sp.k := List.mem_map.2 ⟨s.sp, List.mem_map.2 ⟨s, hs, rfl⟩, rfl⟩
  rw [hA.sk] at h1
  obtain ⟨p, hp, e⟩ := List.mem_map.1 h1
  rw [← e]
  exact (hA.pv p hp).1
set_option maxRecDepth 20000 in
set_option maxHeartbeats 4000000 in
theorem clone_g_s (l : List Rd) (a : Addr) (c : Nat) (hm : l.length ≤ 1099511627776)  (w : World) (hr : Reads w (some a) l.length c 1 (fl rowL l)) : Calls Tryz.prog 26 #[.slice (some a) l.length c] w fun e w' => ∃ p' c', e = .returned (.slice p' l.length c') ∧ S w' ([Rw 29 1 p' l.length c' (fl rowL l)] ++ [Old w no]) := by
 have H0 := S.old w
 refine enter 8 Tryz.func26 rfl rfl rfl ?_
 refine g_weak [(0, .slice (some a) l.length c)] ⟨rfl, trivial⟩ ?_
 refine w_s ?_
 refine w_a ?_
 refine w_e ?_
 refine g_seq ?_
 refine w_s ?_
 refine w_m ?_
 refine w_b (v := .bool false) (hb := (b_eqN (r := false) Tryz.underlying47 rfl)) ?_
 refine w_e ?_
 refine g_cond_f rfl rfl ?_
 refine g_skip ?_
 refine g_then ?_
 refine w_s ?_
 refine l_of (s_buildSlice0 H0 (wt0 rfl) rfl rfl rfl Tryz.underlying47 sz29 ?_)
 intro g1 wq2 H3
 replace H3 : S wq2 [Rw 29 1 (some ⟨g1, 0, none⟩) 0 0 (fl rowL ([] : List Rd)), Old w no] := S.obFl rowE H3 (k := 0) rfl rfl (by decide) rfl
 refine w_m ?_
 have hln8a := (H3.rwReads (k := 0) rfl).lenL rowE
 have hln8b := (H3.exReads (k := 1) rfl hr (fun _ _ _ h => h)).lenL rowE
 have hln8 : l.length = 0 + l.length := by omega
 refine l_of (s_appLn (l := []) (l2 := l) rowE H3 0 (wt0 rfl) rfl rfl rfl rfl rfl rfl Tryz.underlying47 inf29 rfl (by decide) (H3.exReads (k := 1) rfl hr (fun _ _ _ h => h)) (by omega) ?_)
 intro p4 c5 wq6 H7
 rw [List.nil_append] at H7 ⊢
 replace H7 : S wq6 [Rw 29 1 p4 l.length c5 (fl rowL l), Old w no] := H7
 refine w_a ?_
 refine w_e ?_
 refine g_ret ?_
 refine fin_ret [.tmp 2] [.slice p4 l.length c5] rfl ⟨rfl, trivial⟩ ?_
 exact ⟨_, _, rfl, H7⟩
set_option maxRecDepth 20000 in
set_option maxHeartbeats 4000000 in
theorem clone_g_n (n c : Nat)  (w : World) : Calls Tryz.prog 26 #[.slice none n c] w fun e w' => ∃ p' c', e = .returned (.slice p' 0 c') ∧ S w' ([Rw 29 1 p' 0 c' (fl rowL ([] : List Rd))] ++ [Old w no]) := by
 have H0 := S.old w
 refine enter 8 Tryz.func26 rfl rfl rfl ?_
 refine g_weak [(0, .slice none n c)] ⟨rfl, trivial⟩ ?_
 refine w_s ?_
 refine w_a ?_
 refine w_e ?_
 refine g_seq ?_
 refine w_s ?_
 refine w_m ?_
 refine w_b (v := .bool true) (hb := (b_eqN (r := true) Tryz.underlying47 rfl)) ?_
 refine w_e ?_
 refine g_cond_t rfl rfl ?_
 refine w_s ?_
 refine w_a ?_
 refine w_e ?_
 refine g_ret ?_
 refine g_then_ret ?_
 refine fin_ret [.tmp 2] [.slice none 0 0] rfl ⟨rfl, trivial⟩ ?_
 exact ⟨none, 0, rfl, H0.nilFl 29 1 rowL⟩
theorem clone_g (l : List Rd) (p : Option Addr) (n c : Nat) (hm : l.length ≤ 1099511627776) (w : World) (hr : Reads w p n c 1 (fl rowL l)) : Calls Tryz.prog 26 #[.slice p n c] w fun e w' => ∃ p' c', e = .returned (.slice p' l.length c') ∧ S w' ([Rw 29 1 p' l.length c' (fl rowL l)] ++ [Old w no]) := by
  have hn := hr.lenL rowE
  subst hn
  cases p with
  | some a => exact clone_g_s l a c hm w hr
  | none =>
    have h0 : l.length = 0 := by
      refine Decidable.byContradiction fun hn => ?_
      obtain ⟨a, ha, _⟩ := hr.2.2 (by omega)
      cases ha
    obtain rfl : l = [] := List.length_eq_zero_iff.1 h0
    exact clone_g_n 0 c w
set_option maxRecDepth 20000 in
set_option maxHeartbeats 4000000 in
theorem copy_x (pl : List Rd) (X : GM) (hX : MOK pl X) (hgl : X.gs.length ≤ 1000)  (w : World) (HS : S w [X.I, Pool pl]) : Calls Tryz.prog 14 #[.pointer (some ⟨X.g, 0, none⟩)] w fun e w' => ∃ Y : GM, e = .returned (.pointer (some ⟨Y.g, 0, none⟩)) ∧ Y.A = X.A ∧ Y.gs = X.gs ∧ S w' ([Y.I, X.I, Pool pl] ++ [Old w (fps [X.I, Pool pl])]) := by
 have H0 := HS.beginI
 replace H0 : S w [Ob X.g (.cells #[.slice X.gp X.gs.length X.gc, .string (X.sd), .slice X.pp X.ps.length X.pc, .slice X.sp X.ss.length X.sc, .slice X.tp X.got.length X.tc, .slice X.vp X.gave.length X.vc, .slice X.bp X.bs.length X.bc] 52 (0, 0)), Rw 29 1 X.gp X.gs.length X.gc (fl rowL X.gs), Rw 33 2 X.pp X.ps.length X.pc (fl plL X.ps), Rw 54 1 X.sp X.ss.length X.sc (fl sgL X.ss), Rw 3 1 X.tp X.got.length X.tc (fl intL X.got), Rw 3 1 X.vp X.gave.length X.vc (fl intL X.gave), Rw 34 1 X.bp X.bs.length X.bc (fl rowL X.bs), (Lst BwI X.bs), (Lst SgI X.ss), (Pool pl), Old w (fps [X.I, Pool pl])] := S.unbig (L := [_, _, _, _, _, _, _, _, _]) H0
 have hL := hX.ok.lens
 have hn9 : X.ps.length ≤ 9 := hX.ok.n9
 have hkr := kr_of hX.ok
 have hL1 := hL.1
 have hL2 := hL.2.1
 have hL3 := hL.2.2.1
 have hL4 := hL.2.2.2.1
 refine enter 63 Tryz.func14 rfl rfl rfl ?_
 refine g_weak [(0, .pointer (some ⟨X.g, 0, none⟩))] ⟨rfl, trivial⟩ ?_
 refine w_s ?_
 refine w_a ?_
 refine w_e ?_
 refine g_seq ?_
 refine w_s ?_
 refine w_m ?_
 refine w_b (v := .bool false) (hb := (b_eqN (r := false) Tryz.underlying25 rfl)) ?_
 refine w_e ?_
 refine g_cond_f rfl rfl ?_
 refine g_skip ?_
 refine g_then ?_
 refine g_seq ?_
 refine g_cut (ι := Nat × Option Addr × Nat × Option Addr × Nat × Option Addr × Nat × Option Addr × Nat × Option Addr × Nat × List (Ro Int)) (fun (y, a1, c1, a2, c2, a3, c3, a4, c4, a5, c5, zz) => [(0, .pointer (some ⟨X.g, 0, none⟩)), (3, .pointer (some ⟨y, 0, none⟩))]) (fun (y, a1, c1, a2, c2, a3, c3, a4, c4, a5, c5, zz) wx => (zz.map Ro.l = X.bs.map Ro.l) ∧ S wx [Ob y (.cells #[.slice a1 X.gs.length c1, .string (X.sd), .slice a2 X.ps.length c2, .slice none 0 0, .slice a3 X.got.length c3, .slice a4 X.gave.length c4, .slice a5 zz.length c5] 52 (0, 0)), Rw 29 1 a1 X.gs.length c1 (fl rowL X.gs), Rw 33 2 a2 X.ps.length c2 (fl plL X.ps), Rw 3 1 a3 X.got.length c3 (fl intL X.got), Rw 3 1 a4 X.gave.length c4 (fl intL X.gave), Rw 34 1 a5 zz.length c5 (fl rowL zz), (Lst BwI zz), Ob X.g (.cells #[.slice X.gp X.gs.length X.gc, .string (X.sd), .slice X.pp X.ps.length X.pc, .slice X.sp X.ss.length X.sc, .slice X.tp X.got.length X.tc, .slice X.vp X.gave.length X.vc, .slice X.bp X.bs.length X.bc] 52 (0, 0)), Rw 29 1 X.gp X.gs.length X.gc (fl rowL X.gs), Rw 33 2 X.pp X.ps.length X.pc (fl plL X.ps), Rw 54 1 X.sp X.ss.length X.sc (fl sgL X.ss), Rw 3 1 X.tp X.got.length X.tc (fl intL X.got), Rw 3 1 X.vp X.gave.length X.vc (fl intL X.gave), Rw 34 1 X.bp X.bs.length X.bc (fl rowL X.bs), (Lst BwI X.bs), (Lst SgI X.ss), (Pool pl), Old w (fps [X.I, Pool pl])]) ?_ ?_
 ·
  refine g_anyY [] (fun wx => S wx [Ob X.g (.cells #[.slice X.gp X.gs.length X.gc, .string (X.sd), .slice X.pp X.ps.length X.pc, .slice X.sp X.ss.length X.sc, .slice X.tp X.got.length X.tc, .slice X.vp X.gave.length X.vc, .slice X.bp X.bs.length X.bc] 52 (0, 0))]) (fun wx => S wx [Ob X.g (.cells #[.slice X.gp X.gs.length X.gc, .string (X.sd), .slice X.pp X.ps.length X.pc, .slice X.sp X.ss.length X.sc, .slice X.tp X.got.length X.tc, .slice X.vp X.gave.length X.vc, .slice X.bp X.bs.length X.bc] 52 (0, 0))]) [] (by kernel_rfl) H0 (fun wq1 H2 => ?_)
  refine w_y 0 rfl (wt0 rfl) rfl rfl rfl (by kernel_rfl) (fun _ => x_move rfl rfl) ?_
  refine w_y 1 rfl (wt0 rfl) rfl rfl rfl (by kernel_rfl) (fun _ => x_nilCheck rfl rfl) ?_
  refine w_y 2 rfl (wt0 rfl) rfl rfl rfl (by kernel_rfl) (fun _ => x_fieldAddr (off' := 0) rfl rfl fo52_0 rfl) ?_
  refine w_y 3 rfl (wt0 rfl) rfl rfl rfl (by kernel_rfl) (fun _ => x_fieldAddr (off' := 0) rfl rfl fo49_0 rfl) ?_
  have cm1 := H2.mask [true, false, false, false, false, false, false, false, false, false, false]
  refine y_take (v := .slice X.gp X.gs.length X.gc) 4 rfl (wt0 rfl) rfl rfl rfl (by kernel_rfl) (by kernel_rfl) (by kernel_rfl) (by kernel_rfl) (by kernel_rfl) cm1 (fun wx H => x_load1 H 0 rfl rfl Tryz.underlying47 rfl rfl rfl) ?_
  refine w_y 7 rfl (wt0 rfl) rfl rfl rfl (by kernel_rfl) (fun _ => x_move rfl rfl) ?_
  refine w_y 8 rfl (wt0 rfl) rfl rfl rfl (by kernel_rfl) (fun _ => x_nilCheck rfl rfl) ?_
  refine w_y 9 rfl (wt0 rfl) rfl rfl rfl (by kernel_rfl) (fun _ => x_fieldAddr (off' := 1) rfl rfl fo52_1 rfl) ?_
  refine y_take (v := .string (X.sd)) 10 rfl (wt0 rfl) rfl rfl rfl (by kernel_rfl) (by kernel_rfl) (by kernel_rfl) (by kernel_rfl) (by kernel_rfl) cm1 (fun wx H => x_load1 H 0 rfl rfl Tryz.underlying9 rfl rfl rfl) ?_
  refine w_y 11 rfl (wt0 rfl) rfl rfl rfl (by kernel_rfl) (fun _ => x_move rfl rfl) ?_
  refine w_y 12 rfl (wt0 rfl) rfl rfl rfl (by kernel_rfl) (fun _ => x_nilCheck rfl rfl) ?_
  refine w_y 13 rfl (wt0 rfl) rfl rfl rfl (by kernel_rfl) (fun _ => x_fieldAddr (off' := 2) rfl rfl fo52_2 rfl) ?_
  refine y_take (v := .slice X.pp X.ps.length X.pc) 14 rfl (wt0 rfl) rfl rfl rfl (by kernel_rfl) (by kernel_rfl) (by kernel_rfl) (by kernel_rfl) (by kernel_rfl) cm1 (fun wx H => x_load1 H 0 rfl rfl Tryz.underlying22 rfl rfl rfl) ?_
  refine w_y 16 rfl (wt0 rfl) rfl rfl rfl (by kernel_rfl) (fun _ => x_move rfl rfl) ?_
  refine w_y 17 rfl (wt0 rfl) rfl rfl rfl (by kernel_rfl) (fun _ => x_nilCheck rfl rfl) ?_
  refine w_y 18 rfl (wt0 rfl) rfl rfl rfl (by kernel_rfl) (fun _ => x_fieldAddr (off' := 4) rfl rfl fo52_4 rfl) ?_
  refine y_take (v := .slice X.tp X.got.length X.tc) 19 rfl (wt0 rfl) rfl rfl rfl (by kernel_rfl) (by kernel_rfl) (by kernel_rfl) (by kernel_rfl) (by kernel_rfl) cm1 (fun wx H => x_load1 H 0 rfl rfl Tryz.underlying34 rfl rfl rfl) ?_
  refine w_y 21 rfl (wt0 rfl) rfl rfl rfl (by kernel_rfl) (fun _ => x_move rfl rfl) ?_
  refine w_y 22 rfl (wt0 rfl) rfl rfl rfl (by kernel_rfl) (fun _ => x_nilCheck rfl rfl) ?_
  refine w_y 23 rfl (wt0 rfl) rfl rfl rfl (by kernel_rfl) (fun _ => x_fieldAddr (off' := 5) rfl rfl fo52_5 rfl) ?_
  refine y_take (v := .slice X.vp X.gave.length X.vc) 24 rfl (wt0 rfl) rfl rfl rfl (by kernel_rfl) (by kernel_rfl) (by kernel_rfl) (by kernel_rfl) (by kernel_rfl) cm1 (fun wx H => x_load1 H 0 rfl rfl Tryz.underlying34 rfl rfl rfl) ?_
  refine w_y 26 rfl (wt0 rfl) rfl rfl rfl (by kernel_rfl) (fun _ => x_move rfl rfl) ?_
  refine w_y 27 rfl (wt0 rfl) rfl rfl rfl (by kernel_rfl) (fun _ => x_nilCheck rfl rfl) ?_
  refine w_y 28 rfl (wt0 rfl) rfl rfl rfl (by kernel_rfl) (fun _ => x_fieldAddr (off' := 6) rfl rfl fo52_6 rfl) ?_
  refine y_take (v := .slice X.bp X.bs.length X.bc) 29 rfl (wt0 rfl) rfl rfl rfl (by kernel_rfl) (by kernel_rfl) (by kernel_rfl) (by kernel_rfl) (by kernel_rfl) cm1 (fun wx H => x_load1 H 0 rfl rfl Tryz.underlying29 rfl rfl rfl) ?_
  refine y_one (i := 5) (by kernel_rfl) rfl ?_
  refine s_call (wt0 rfl) (x_call' rfl rfl cl26) (clone_g X.gs X.gp X.gs.length X.gc (by omega) _ (H2.rwReads (k := 1) rfl)) ?_
  rintro _ wq5 ⟨pz3, cz4, rfl, H6⟩
  replace H6 : S wq5 [Rw 29 1 pz3 X.gs.length cz4 (fl rowL X.gs), Ob X.g (.cells #[.slice X.gp X.gs.length X.gc, .string (X.sd), .slice X.pp X.ps.length X.pc, .slice X.sp X.ss.length X.sc, .slice X.tp X.got.length X.tc, .slice X.vp X.gave.length X.vc, .slice X.bp X.bs.length X.bc] 52 (0, 0)), Rw 29 1 X.gp X.gs.length X.gc (fl rowL X.gs), Rw 33 2 X.pp X.ps.length X.pc (fl plL X.ps), Rw 54 1 X.sp X.ss.length X.sc (fl sgL X.ss), Rw 3 1 X.tp X.got.length X.tc (fl intL X.got), Rw 3 1 X.vp X.gave.length X.vc (fl intL X.gave), Rw 34 1 X.bp X.bs.length X.bc (fl rowL X.bs), (Lst BwI X.bs), (Lst SgI X.ss), (Pool pl), Old w (fps [X.I, Pool pl])] := H2.absorb (new := [Rw 29 1 pz3 X.gs.length cz4 (fl rowL X.gs)]) H6
  refine b_ret rfl rfl ?_
  have cm2 := H6.mask [false, true, false, false, false, false, false, false, false, false, false, false]
  refine y_k cm2 cm2 ?_
  refine w_y (v := .agg #[.slice pz3 X.gs.length cz4]) 6 rfl (wt0 rfl) rfl rfl rfl (by kernel_rfl) (fun _ => x_build (vs := [.slice pz3 X.gs.length cz4]) rfl rfl (cells := #[.slice pz3 X.gs.length cz4]) (by kernel_rfl)) ?_
  refine y_one (i := 15) (by kernel_rfl) rfl ?_
  refine s_call (wt0 rfl) (x_call' rfl rfl cl20) (clone_p X.ps X.pp X.ps.length X.pc (by omega) _ (H6.rwReads (k := 3) rfl)) ?_
  rintro _ wq9 ⟨pz7, cz8, rfl, H10⟩
  replace H10 : S wq9 [Rw 33 2 pz7 X.ps.length cz8 (fl plL X.ps), Rw 29 1 pz3 X.gs.length cz4 (fl rowL X.gs), Ob X.g (.cells #[.slice X.gp X.gs.length X.gc, .string (X.sd), .slice X.pp X.ps.length X.pc, .slice X.sp X.ss.length X.sc, .slice X.tp X.got.length X.tc, .slice X.vp X.gave.length X.vc, .slice X.bp X.bs.length X.bc] 52 (0, 0)), Rw 29 1 X.gp X.gs.length X.gc (fl rowL X.gs), Rw 33 2 X.pp X.ps.length X.pc (fl plL X.ps), Rw 54 1 X.sp X.ss.length X.sc (fl sgL X.ss), Rw 3 1 X.tp X.got.length X.tc (fl intL X.got), Rw 3 1 X.vp X.gave.length X.vc (fl intL X.gave), Rw 34 1 X.bp X.bs.length X.bc (fl rowL X.bs), (Lst BwI X.bs), (Lst SgI X.ss), (Pool pl), Old w (fps [X.I, Pool pl])] := H6.absorb (new := [Rw 33 2 pz7 X.ps.length cz8 (fl plL X.ps)]) H10
  refine b_ret rfl rfl ?_
  have cm3 := H10.mask [false, false, true, false, false, false, false, false, false, false, false, false, false]
  refine y_k cm3 cm3 ?_
  refine y_one (i := 20) (by kernel_rfl) rfl ?_
  refine s_call (wt0 rfl) (x_call' rfl rfl cl27) (clone_i X.got X.tp X.got.length X.tc (by omega) _ (H10.rwReads (k := 6) rfl)) ?_
  rintro _ wq13 ⟨pz11, cz12, rfl, H14⟩
  replace H14 : S wq13 [Rw 3 1 pz11 X.got.length cz12 (fl intL X.got), Rw 33 2 pz7 X.ps.length cz8 (fl plL X.ps), Rw 29 1 pz3 X.gs.length cz4 (fl rowL X.gs), Ob X.g (.cells #[.slice X.gp X.gs.length X.gc, .string (X.sd), .slice X.pp X.ps.length X.pc, .slice X.sp X.ss.length X.sc, .slice X.tp X.got.length X.tc, .slice X.vp X.gave.length X.vc, .slice X.bp X.bs.length X.bc] 52 (0, 0)), Rw 29 1 X.gp X.gs.length X.gc (fl rowL X.gs), Rw 33 2 X.pp X.ps.length X.pc (fl plL X.ps), Rw 54 1 X.sp X.ss.length X.sc (fl sgL X.ss), Rw 3 1 X.tp X.got.length X.tc (fl intL X.got), Rw 3 1 X.vp X.gave.length X.vc (fl intL X.gave), Rw 34 1 X.bp X.bs.length X.bc (fl rowL X.bs), (Lst BwI X.bs), (Lst SgI X.ss), (Pool pl), Old w (fps [X.I, Pool pl])] := H10.absorb (new := [Rw 3 1 pz11 X.got.length cz12 (fl intL X.got)]) H14
  refine b_ret rfl rfl ?_
  have cm4 := H14.mask [false, false, false, true, false, false, false, false, false, false, false, false, false, false]
  refine y_k cm4 cm4 ?_
  refine y_one (i := 25) (by kernel_rfl) rfl ?_
  refine s_call (wt0 rfl) (x_call' rfl rfl cl27) (clone_i X.gave X.vp X.gave.length X.vc (by omega) _ (H14.rwReads (k := 8) rfl)) ?_
  rintro _ wq17 ⟨pz15, cz16, rfl, H18⟩
  replace H18 : S wq17 [Rw 3 1 pz15 X.gave.length cz16 (fl intL X.gave), Rw 3 1 pz11 X.got.length cz12 (fl intL X.got), Rw 33 2 pz7 X.ps.length cz8 (fl plL X.ps), Rw 29 1 pz3 X.gs.length cz4 (fl rowL X.gs), Ob X.g (.cells #[.slice X.gp X.gs.length X.gc, .string (X.sd), .slice X.pp X.ps.length X.pc, .slice X.sp X.ss.length X.sc, .slice X.tp X.got.length X.tc, .slice X.vp X.gave.length X.vc, .slice X.bp X.bs.length X.bc] 52 (0, 0)), Rw 29 1 X.gp X.gs.length X.gc (fl rowL X.gs), Rw 33 2 X.pp X.ps.length X.pc (fl plL X.ps), Rw 54 1 X.sp X.ss.length X.sc (fl sgL X.ss), Rw 3 1 X.tp X.got.length X.tc (fl intL X.got), Rw 3 1 X.vp X.gave.length X.vc (fl intL X.gave), Rw 34 1 X.bp X.bs.length X.bc (fl rowL X.bs), (Lst BwI X.bs), (Lst SgI X.ss), (Pool pl), Old w (fps [X.I, Pool pl])] := H14.absorb (new := [Rw 3 1 pz15 X.gave.length cz16 (fl intL X.gave)]) H18
  refine b_ret rfl rfl ?_
  have cm5 := H18.mask [false, false, false, false, true, false, false, false, false, false, false, false, false, false, false]
  refine y_k cm5 cm5 ?_
  refine y_one (i := 30) (by kernel_rfl) rfl ?_
  refine s_call (wt0 rfl) (x_call' rfl rfl cl24) (cloned_s X.bs X.bp X.bs.length X.bc (by omega) (fun x hx => by have h9 := hL.2.2.2.2 x hx; omega) _ (H18.rwReads (k := 10) rfl) (fun x hx => (by obtain ⟨j9, hj9⟩ := List.getElem?_of_mem hx; exact H18.bwRd (k := 11) rfl hj9))) ?_
  rintro _ wq19 ⟨pz, cz, zz, rfl, hzz, H20⟩
  replace H20 : S wq19 [Rw 34 1 pz zz.length cz (fl rowL zz), (Lst BwI zz), Rw 3 1 pz15 X.gave.length cz16 (fl intL X.gave), Rw 3 1 pz11 X.got.length cz12 (fl intL X.got), Rw 33 2 pz7 X.ps.length cz8 (fl plL X.ps), Rw 29 1 pz3 X.gs.length cz4 (fl rowL X.gs), Ob X.g (.cells #[.slice X.gp X.gs.length X.gc, .string (X.sd), .slice X.pp X.ps.length X.pc, .slice X.sp X.ss.length X.sc, .slice X.tp X.got.length X.tc, .slice X.vp X.gave.length X.vc, .slice X.bp X.bs.length X.bc] 52 (0, 0)), Rw 29 1 X.gp X.gs.length X.gc (fl rowL X.gs), Rw 33 2 X.pp X.ps.length X.pc (fl plL X.ps), Rw 54 1 X.sp X.ss.length X.sc (fl sgL X.ss), Rw 3 1 X.tp X.got.length X.tc (fl intL X.got), Rw 3 1 X.vp X.gave.length X.vc (fl intL X.gave), Rw 34 1 X.bp X.bs.length X.bc (fl rowL X.bs), (Lst BwI X.bs), (Lst SgI X.ss), (Pool pl), Old w (fps [X.I, Pool pl])] := H18.absorb (new := [Rw 34 1 pz zz.length cz (fl rowL zz), (Lst BwI zz)]) H20
  refine b_ret rfl rfl ?_
  have cm6 := H20.mask [false, false, false, false, false, false, true, false, false, false, false, false, false, false, false, false, false]
  refine y_k cm6 cm6 ?_
  refine w_y (v := .agg #[.slice pz3 X.gs.length cz4, .string (X.sd), .slice pz7 X.ps.length cz8, .slice none 0 0, .slice pz11 X.got.length cz12, .slice pz15 X.gave.length cz16, .slice pz zz.length cz]) 31 rfl (wt0 rfl) rfl rfl rfl (by kernel_rfl) (fun _ => x_build (vs := [.agg #[.slice pz3 X.gs.length cz4], .string (X.sd), .slice pz7 X.ps.length cz8, .slice pz11 X.got.length cz12, .slice pz15 X.gave.length cz16, .slice pz zz.length cz]) rfl rfl (cells := #[.slice pz3 X.gs.length cz4, .string (X.sd), .slice pz7 X.ps.length cz8, .slice none 0 0, .slice pz11 X.got.length cz12, .slice pz15 X.gave.length cz16, .slice pz zz.length cz]) (by kernel_rfl)) ?_
  refine y_one (i := 32) (by kernel_rfl) rfl ?_
  refine s_box H20 (wt0 rfl) rfl rfl rfl rfl ?_
  intro g21 wq22 H23
  have cm7 := H23.mask [false, false, false, false, false, false, false, true, false, false, false, false, false, false, false, false, false, false]
  refine y_k cm7 cm7 ?_
  refine w_y 33 rfl (wt0 rfl) rfl rfl rfl (by kernel_rfl) (fun _ => x_assign rfl rfl) ?_
  refine y_done (by kernel_rfl) ?_
  refine g_then ?_
  refine g_mid (g21, pz3, cz4, pz7, cz8, pz11, cz12, pz15, cz16, pz, cz, zz) ?_ ?_
  · exact ⟨rfl, rfl, trivial⟩
  · exact ⟨hzz, (H23.takes [0, 6, 5, 4, 3, 1, 2, 7, 8, 9, 10, 11, 12, 13, 14, 15, 16, 17] (by decide))⟩
 rintro ⟨y, a1, c1, a2, c2, a3, c3, a4, c4, a5, c5, zz⟩ wq24 ⟨hzz, H25⟩
 refine g_weak [(0, .pointer (some ⟨X.g, 0, none⟩)), (3, .pointer (some ⟨y, 0, none⟩))] ⟨rfl, rfl, trivial⟩ ?_
 refine g_seq ?_
 refine w_s ?_
 refine w_r3 ?_
 refine w_1 H25 7 ?_
 refine w_v (v := .int .i64 ((X.ss.length : Int))) (x_lenl rfl rfl Tryz.underlying50) ?_
 refine w_m ?_
 refine w_e ?_
 refine g_block ?_
 refine g_loop (ι := Nat × Option Addr × Nat × List Sg) (fun (i, sq, sc, ssl) => [(3, .pointer (some ⟨y, 0, none⟩)), (44, .slice X.sp X.ss.length X.sc), (45, .int .i64 ((X.ss.length : Int))), (46, .int .i64 ((i : Int)))]) (fun (i, sq, sc, ssl) wx => (i ≤ X.ss.length) ∧ (ssl.map Sg.sp = (X.ss.take i).map Sg.sp) ∧ S wx [Rw 54 1 sq ssl.length sc (fl sgL ssl), (Lst SgI ssl), Ob y (.cells #[.slice a1 X.gs.length c1, .string (X.sd), .slice a2 X.ps.length c2, .slice sq ssl.length sc, .slice a3 X.got.length c3, .slice a4 X.gave.length c4, .slice a5 zz.length c5] 52 (0, 0)), Rw 29 1 a1 X.gs.length c1 (fl rowL X.gs), Rw 33 2 a2 X.ps.length c2 (fl plL X.ps), Rw 3 1 a3 X.got.length c3 (fl intL X.got), Rw 3 1 a4 X.gave.length c4 (fl intL X.gave), Rw 34 1 a5 zz.length c5 (fl rowL zz), (Lst BwI zz), Ob X.g (.cells #[.slice X.gp X.gs.length X.gc, .string (X.sd), .slice X.pp X.ps.length X.pc, .slice X.sp X.ss.length X.sc, .slice X.tp X.got.length X.tc, .slice X.vp X.gave.length X.vc, .slice X.bp X.bs.length X.bc] 52 (0, 0)), Rw 29 1 X.gp X.gs.length X.gc (fl rowL X.gs), Rw 33 2 X.pp X.ps.length X.pc (fl plL X.ps), Rw 54 1 X.sp X.ss.length X.sc (fl sgL X.ss), Rw 3 1 X.tp X.got.length X.tc (fl intL X.got), Rw 3 1 X.vp X.gave.length X.vc (fl intL X.gave), Rw 34 1 X.bp X.bs.length X.bc (fl rowL X.bs), (Lst BwI X.bs), (Lst SgI X.ss), (Pool pl), Old w (fps [X.I, Pool pl])]) (fun (i, sq, sc, ssl) => X.ss.length - i) (0, none, 0, []) ⟨rfl, rfl, rfl, rfl, trivial⟩ ⟨Nat.zero_le _, rfl, ((S.lstNil (H25.nilFl 54 1 sgL) SgI).takes [1, 0, 2, 3, 4, 5, 6, 7, 8, 9, 10, 11, 12, 13, 14, 15, 16, 17, 18, 19] (by decide))⟩ ?_
 rintro ⟨i, sq, sc, ssl⟩ wq26 ⟨hi, hss, H27⟩
 refine g_weak [(3, .pointer (some ⟨y, 0, none⟩)), (44, .slice X.sp X.ss.length X.sc), (45, .int .i64 ((X.ss.length : Int))), (46, .int .i64 ((i : Int)))] ⟨rfl, rfl, rfl, rfl, trivial⟩ ?_
 have hsln : ssl.length = i := (by have h9 := congrArg List.length hss; rw [List.length_map, List.length_map, List.length_take] at h9; omega)
 refine w_s ?_
 refine w_b ?_
 refine w_e ?_
 refine g_seq ?_
 by_cases hb28 : ((i : Int) : Int) < (X.ss.length : Int)
 ·
  refine g_cond_t rfl (decide_eq_true hb28) ?_
  refine g_skip ?_
  refine g_then ?_
  refine g_seq ?_
  refine g_block ?_
  refine w_s ?_
  refine w_v (v := .pointer ((X.sp).map fun q => q.add (i * 1))) (x_idxR i (H27.rwReads (k := 12) rfl) rfl rfl rfl Tryz.underlying50 sz54 (by omega)) ?_
  have hlq := (H27.rwReads (k := 12) rfl).lenL sgE
  obtain ⟨x29, hx29⟩ := ex_at (l := X.ss) (j := i) (by omega)
  clear hlq
  refine w_v (v := .iface x29.ty (x29.va)) (x_loadR1 i (H27.rwReads (k := 12) rfl) (by omega) rfl rfl Tryz.underlying54 rfl (sgE.flAt1 hx29 rfl)) ?_
  refine w_a ?_
  refine w_e ?_
  refine g_anyY [] (fun wx => S wx [Ob y (.cells #[.slice a1 X.gs.length c1, .string (X.sd), .slice a2 X.ps.length c2, .slice sq ssl.length sc, .slice a3 X.got.length c3, .slice a4 X.gave.length c4, .slice a5 zz.length c5] 52 (0, 0))]) (fun wx => S wx []) [11] (by kernel_rfl) H27 (fun wq30 H31 => ?_)
  refine w_y 0 rfl (wt0 rfl) rfl rfl rfl (by kernel_rfl) (fun _ => x_move rfl rfl) ?_
  refine w_y 1 rfl (wt0 rfl) rfl rfl rfl (by kernel_rfl) (fun _ => x_move rfl rfl) ?_
  refine w_y 2 rfl (wt0 rfl) rfl rfl rfl (by kernel_rfl) (fun _ => x_nilCheck rfl rfl) ?_
  refine w_y 3 rfl (wt0 rfl) rfl rfl rfl (by kernel_rfl) (fun _ => x_fieldAddr (off' := 3) rfl rfl fo52_3 rfl) ?_
  refine y_take (v := .slice sq ssl.length sc) 4 rfl (wt0 rfl) rfl rfl rfl (by kernel_rfl) (by kernel_rfl) (by kernel_rfl) (by kernel_rfl) (by kernel_rfl) (H31.mask [false, false, true, false, false, false, false, false, false, false, false, false, false, false, false, false, false, false, false, false]) (fun wx H => x_load1 H 0 rfl rfl Tryz.underlying50 rfl rfl rfl) ?_
  refine w_y 5 rfl (wt0 rfl) rfl rfl rfl (by kernel_rfl) (fun _ => x_move rfl rfl) ?_
  refine y_one (i := 6) (by kernel_rfl) rfl ?_
  have H32 : S wq30 [(SgI x29), (Lst SgI (X.ss.eraseIdx i)), Rw 54 1 sq ssl.length sc (fl sgL ssl), (Lst SgI ssl), Ob y (.cells #[.slice a1 X.gs.length c1, .string (X.sd), .slice a2 X.ps.length c2, .slice sq ssl.length sc, .slice a3 X.got.length c3, .slice a4 X.gave.length c4, .slice a5 zz.length c5] 52 (0, 0)), Rw 29 1 a1 X.gs.length c1 (fl rowL X.gs), Rw 33 2 a2 X.ps.length c2 (fl plL X.ps), Rw 3 1 a3 X.got.length c3 (fl intL X.got), Rw 3 1 a4 X.gave.length c4 (fl intL X.gave), Rw 34 1 a5 zz.length c5 (fl rowL zz), (Lst BwI zz), Ob X.g (.cells #[.slice X.gp X.gs.length X.gc, .string (X.sd), .slice X.pp X.ps.length X.pc, .slice X.sp X.ss.length X.sc, .slice X.tp X.got.length X.tc, .slice X.vp X.gave.length X.vc, .slice X.bp X.bs.length X.bc] 52 (0, 0)), Rw 29 1 X.gp X.gs.length X.gc (fl rowL X.gs), Rw 33 2 X.pp X.ps.length X.pc (fl plL X.ps), Rw 54 1 X.sp X.ss.length X.sc (fl sgL X.ss), Rw 3 1 X.tp X.got.length X.tc (fl intL X.got), Rw 3 1 X.vp X.gave.length X.vc (fl intL X.gave), Rw 34 1 X.bp X.bs.length X.bc (fl rowL X.bs), (Lst BwI X.bs), (Pool pl), Old w (fps [X.I, Pool pl])] := S.lstOut (F := SgI) (H31.takes [17, 0, 1, 2, 3, 4, 5, 6, 7, 8, 9, 10, 11, 12, 13, 14, 15, 16, 18, 19] (by decide)) hx29
  obtain ⟨f9, rv9, hfd9, hcl9, hcp9⟩ := copied_all x29 (hkr x29 (List.mem_of_getElem? hx29))
  refine s_call (wt0 rfl) (x_invoke rfl rfl rfl hfd9 hcl9) (hcp9 _ (H32.takes [0] (by decide))) ?_
  rintro _ wq33 ⟨s9, rfl, hs9, H34⟩
  replace H34 : S wq33 [(SgI s9), (SgI x29), (Lst SgI (X.ss.eraseIdx i)), Rw 54 1 sq ssl.length sc (fl sgL ssl), (Lst SgI ssl), Ob y (.cells #[.slice a1 X.gs.length c1, .string (X.sd), .slice a2 X.ps.length c2, .slice sq ssl.length sc, .slice a3 X.got.length c3, .slice a4 X.gave.length c4, .slice a5 zz.length c5] 52 (0, 0)), Rw 29 1 a1 X.gs.length c1 (fl rowL X.gs), Rw 33 2 a2 X.ps.length c2 (fl plL X.ps), Rw 3 1 a3 X.got.length c3 (fl intL X.got), Rw 3 1 a4 X.gave.length c4 (fl intL X.gave), Rw 34 1 a5 zz.length c5 (fl rowL zz), (Lst BwI zz), Ob X.g (.cells #[.slice X.gp X.gs.length X.gc, .string (X.sd), .slice X.pp X.ps.length X.pc, .slice X.sp X.ss.length X.sc, .slice X.tp X.got.length X.tc, .slice X.vp X.gave.length X.vc, .slice X.bp X.bs.length X.bc] 52 (0, 0)), Rw 29 1 X.gp X.gs.length X.gc (fl rowL X.gs), Rw 33 2 X.pp X.ps.length X.pc (fl plL X.ps), Rw 54 1 X.sp X.ss.length X.sc (fl sgL X.ss), Rw 3 1 X.tp X.got.length X.tc (fl intL X.got), Rw 3 1 X.vp X.gave.length X.vc (fl intL X.gave), Rw 34 1 X.bp X.bs.length X.bc (fl rowL X.bs), (Lst BwI X.bs), (Pool pl), Old w (fps [X.I, Pool pl])] := by have h := H32.absorbI [0] H34; exact h
  have H35 : S wq33 [(Lst SgI X.ss), (SgI s9), Rw 54 1 sq ssl.length sc (fl sgL ssl), (Lst SgI ssl), Ob y (.cells #[.slice a1 X.gs.length c1, .string (X.sd), .slice a2 X.ps.length c2, .slice sq ssl.length sc, .slice a3 X.got.length c3, .slice a4 X.gave.length c4, .slice a5 zz.length c5] 52 (0, 0)), Rw 29 1 a1 X.gs.length c1 (fl rowL X.gs), Rw 33 2 a2 X.ps.length c2 (fl plL X.ps), Rw 3 1 a3 X.got.length c3 (fl intL X.got), Rw 3 1 a4 X.gave.length c4 (fl intL X.gave), Rw 34 1 a5 zz.length c5 (fl rowL zz), (Lst BwI zz), Ob X.g (.cells #[.slice X.gp X.gs.length X.gc, .string (X.sd), .slice X.pp X.ps.length X.pc, .slice X.sp X.ss.length X.sc, .slice X.tp X.got.length X.tc, .slice X.vp X.gave.length X.vc, .slice X.bp X.bs.length X.bc] 52 (0, 0)), Rw 29 1 X.gp X.gs.length X.gc (fl rowL X.gs), Rw 33 2 X.pp X.ps.length X.pc (fl plL X.ps), Rw 54 1 X.sp X.ss.length X.sc (fl sgL X.ss), Rw 3 1 X.tp X.got.length X.tc (fl intL X.got), Rw 3 1 X.vp X.gave.length X.vc (fl intL X.gave), Rw 34 1 X.bp X.bs.length X.bc (fl rowL X.bs), (Lst BwI X.bs), (Pool pl), Old w (fps [X.I, Pool pl])] := S.lstBack (F := SgI) (H34.takes [1, 2, 0, 3, 4, 5, 6, 7, 8, 9, 10, 11, 12, 13, 14, 15, 16, 17, 18, 19, 20, 21] (by decide)) hx29
  refine b_ret rfl rfl ?_
  refine y_k (H35.mask [false, false, false, false, true, false, false, false, false, false, false, false, false, false, false, false, false, false, false, false, false]) (H35.mask [false, false, false, false, false, false, false, false, false, false, false, false, false, false, false, false, false, false, false, false, false]) ?_
  refine y_one (i := 7) (by kernel_rfl) rfl ?_
  refine s_buildSlice H35 (wt0 rfl) rfl rfl rfl (vs := [.iface s9.ty (s9.va)]) rfl Tryz.underlying50 sz54 ze54 rfl rfl (cells := #[.iface s9.ty (s9.va)]) (by kernel_rfl) ?_
  intro g36 wq37 H38
  refine y_k (H38.mask [false, false, false, false, false, true, false, false, false, false, false, false, false, false, false, false, false, false, false, false, false, false]) (H38.mask [false, false, false, false, false, false, false, false, false, false, false, false, false, false, false, false, false, false, false, false, false, false]) ?_
  refine y_one (i := 8) (by kernel_rfl) rfl ?_
  have hln43a := (H38.rwReads (k := 3) rfl).lenL sgE
  have hln43 : (ssl ++ [s9]).length = ssl.length + 1 := by simp only [List.length_append, List.length_cons, List.length_nil] <;> omega
  refine s_appBn (m := 1) (l := ssl) (l2 := [s9]) sgE H38 3 (j0 := 0) rfl rfl ⟨rfl, Nat.le_refl _⟩ (wt0 rfl) rfl rfl rfl rfl rfl rfl Tryz.underlying50 inf54 rfl (by decide) (by omega) ?_
  intro p39 c40 wq41 H42
  refine y_k (H42.mask [false, false, false, false, false, true, false, false, false, false, false, false, false, false, false, false, false, false, false, false, false, false]) (H42.mask [false, false, false, false, false, false, false, false, false, false, false, false, false, false, false, false, false, false, false, false, false, false]) ?_
  refine w_y 9 rfl (wt0 rfl) rfl rfl rfl (by kernel_rfl) (fun _ => x_nilCheck rfl rfl) ?_
  refine w_y 10 rfl (wt0 rfl) rfl rfl rfl (by kernel_rfl) (fun _ => x_fieldAddr (off' := 3) rfl rfl fo52_3 rfl) ?_
  refine y_one (i := 11) (by kernel_rfl) rfl ?_
  refine w_st #[.slice a1 X.gs.length c1, .string (X.sd), .slice a2 X.ps.length c2, .slice p39 ((ssl ++ [s9]).length) c40, .slice a3 X.got.length c3, .slice a4 X.gave.length c4, .slice a5 zz.length c5] H42 5 ?_
  intro wq44 H45
  refine y_kt rfl (H45.mask [false, false, false, false, false, false, false, false, false, false, false, false, false, false, false, false, false, false, false, false, false, false]) ?_
  refine y_done (by kernel_rfl) ?_
  refine g_in ?_
  refine g_then ?_
  refine g_weak [(3, .pointer (some ⟨y, 0, none⟩)), (44, .slice X.sp X.ss.length X.sc), (45, .int .i64 ((X.ss.length : Int))), (46, .int .i64 ((i : Int)))] ⟨rfl, rfl, rfl, rfl, trivial⟩ ?_
  refine g_region ?_
  refine w_b (v := .int .i64 (((i + 1 : Nat) : Int))) (hb := (b_add (by rw [w64 (by omega)]; omega))) ?_
  refine w_m ?_
  refine w_e ?_
  have H46 : S wq44 [(Lst SgI (ssl ++ [s9])), Ob g36 (.cells #[.iface s9.ty (s9.va)] 54 (0, 0)), (Lst SgI X.ss), Rw 54 1 p39 ((ssl ++ [s9]).length) c40 (fl sgL (ssl ++ [s9])), Ob y (.cells #[.slice a1 X.gs.length c1, .string (X.sd), .slice a2 X.ps.length c2, .slice p39 ((ssl ++ [s9]).length) c40, .slice a3 X.got.length c3, .slice a4 X.gave.length c4, .slice a5 zz.length c5] 52 (0, 0)), Rw 29 1 a1 X.gs.length c1 (fl rowL X.gs), Rw 33 2 a2 X.ps.length c2 (fl plL X.ps), Rw 3 1 a3 X.got.length c3 (fl intL X.got), Rw 3 1 a4 X.gave.length c4 (fl intL X.gave), Rw 34 1 a5 zz.length c5 (fl rowL zz), (Lst BwI zz), Ob X.g (.cells #[.slice X.gp X.gs.length X.gc, .string (X.sd), .slice X.pp X.ps.length X.pc, .slice X.sp X.ss.length X.sc, .slice X.tp X.got.length X.tc, .slice X.vp X.gave.length X.vc, .slice X.bp X.bs.length X.bc] 52 (0, 0)), Rw 29 1 X.gp X.gs.length X.gc (fl rowL X.gs), Rw 33 2 X.pp X.ps.length X.pc (fl plL X.ps), Rw 54 1 X.sp X.ss.length X.sc (fl sgL X.ss), Rw 3 1 X.tp X.got.length X.tc (fl intL X.got), Rw 3 1 X.vp X.gave.length X.vc (fl intL X.gave), Rw 34 1 X.bp X.bs.length X.bc (fl rowL X.bs), (Lst BwI X.bs), (Pool pl), Old w (fps [X.I, Pool pl])] := S.lstSnoc (F := SgI) (x := s9) (H45.takes [2, 4, 0, 1, 3, 5, 6, 7, 8, 9, 10, 11, 12, 13, 14, 15, 16, 17, 18, 19, 20, 21] (by decide))
  refine g_round (i := (i, sq, sc, ssl)) ((i + 1), p39, c40, (ssl ++ [s9])) ?_ ?_ ?_
  · exact ⟨rfl, rfl, rfl, rfl, trivial⟩
  · exact ⟨by omega, (by rw [take_snocT hx29, List.map_append, List.map_append, hss]; exact congrArg (_ ++ [·]) hs9), (H46.takes [3, 0, 4, 5, 6, 7, 8, 9, 10, 11, 12, 13, 14, 15, 16, 17, 18, 2, 19, 20] (by decide))⟩
  · (try dsimp only); omega
 ·
  refine g_cond_f rfl (decide_eq_false hb28) ?_
  refine g_exit ?_
  refine g_then_exit ?_
  refine g_then_exit ?_
  refine g_in_hit ?_
  refine g_then ?_
  refine w_s ?_
  refine w_r2 ?_
  refine w_e ?_
  refine g_ret ?_
  refine fin_ret [.tmp 2] [.pointer (some ⟨y, 0, none⟩)] rfl ⟨rfl, trivial⟩ ?_
  have hie : i = X.ss.length := by omega
  rw [hie, List.take_length] at hss
  have H47 := S.big (L := [_, _, _, _, _, _, _, _, _]) (H27.takes [2, 3, 4, 0, 5, 6, 7, 8, 1, 9, 10, 11, 12, 13, 14, 15, 16, 17, 18, 19] (by decide))
  have H48 := S.big (L := [_, _, _, _, _, _, _, _, _]) (H47.takes [1, 2, 3, 4, 5, 6, 7, 8, 9, 0, 10, 11] (by decide))
  exact ⟨(⟨y, a1, c1, X.gs, X.sd, a2, c2, X.ps, sq, sc, ssl, a3, c3, X.got, a4, c4, X.gave, a5, c5, zz⟩ : GM), rfl, (by unfold GM.A; dsimp only; rw [hss, hzz]), rfl, H48.takes [1, 0, 2, 3] (by decide)⟩
end Go.Proofs.YtpbjekdjebjbkaaGreat
namespace Go.Proofs.YtpbjekdjebjbkaaGreat
open Go.RowKit

/-- A game in which a player has changed. -/
def chA (A : GA) (n : Nat) (p : Pl) : GA := { A with ps := A.ps.set n p, ss := A.ss.set n (spN p.st) }
theorem chA_ok {A : GA} (h : GOK A) {n : Nat} {p : Pl} (hp : (1 ≤ p.st ∧ p.st ≤ 7) ∧ 0 ≤ p.rt ∧ p.rt ≤ 1000000) : GOK (chA A n p) where
  n2 := by show 2 ≤ (A.ps.set n p).length; rw [List.length_set]; exact h.n2
  n9 := by show (A.ps.set n p).length ≤ 9; rw [List.length_set]; exact h.n9
  sd := h.sd
  pv q hq := by
    rcases List.mem_or_eq_of_mem_set hq with hq | rfl
    · exact h.pv q hq
    · exact hp
  sk := by
    show (A.ss.set n (spN p.st)).map Sp.k = (A.ps.set n p).map Pl.st
    rw [List.map_set, List.map_set, h.sk]; rfl
  sP s hs j v hv := by
    rcases List.mem_or_eq_of_mem_set hs with hs | rfl
    · exact h.sP s hs j v hv
    · cases hv
  sB s hs j v hv := by
    rcases List.mem_or_eq_of_mem_set hs with hs | rfl
    · exact h.sB s hs j v hv
    · cases hv
  gr r hr := by
    show RdOK (A.ps.set n p).length r
    rw [List.length_set]; exact h.gr r hr
  gt := by
    show A.got.length = (A.ps.set n p).length ∧ _
    rw [List.length_set]; exact h.gt
  gg := by
    show A.gave.length = (A.ps.set n p).length ∧ _
    rw [List.length_set]; exact h.gg
  bw := by
    show A.bw.length = (A.ps.set n p).length ∧ ∀ l ∈ A.bw, l.length = (A.ps.set n p).length ∧ _
    rw [List.length_set]; exact h.bw
theorem valP_of {p : Pl} (hp : (1 ≤ p.st ∧ p.st ≤ 7) ∧ 0 ≤ p.rt ∧ p.rt ≤ 1000000) : valP p = true := by
  unfold valP
  rw [decide_eq_true hp.1.1, decide_eq_true hp.1.2, decide_eq_true hp.2.1, decide_eq_true hp.2.2]; rfl
set_option maxRecDepth 20000 in
set_option maxHeartbeats 4000000 in
theorem change_x (X : GM) (hX : GOK X.A) (n : Int) (hn : 0 ≤ n ∧ n < X.ps.length) (st rt : Int) (hp : (1 ≤ st ∧ st ≤ 7) ∧ 0 ≤ rt ∧ rt ≤ 1000000)  (w : World) (HS : S w [X.I]) : Calls Tryz.prog 28 #[.pointer (some ⟨X.g, 0, none⟩), .int .i64 n, .agg #[.int .i64 st, .int .i64 rt]] w fun e w' => ∃ Y : GM, e = .returned (.int .i64 0) ∧ Y.A = chA X.A n.toNat (⟨st, rt⟩ : Pl) ∧ Y.g = X.g ∧ Y.gs = X.gs ∧ S w' ([Y.I] ++ [Old w (fps [X.I])]) := by
 have H0 := HS.beginI
 replace H0 : S w [Ob X.g (.cells #[.slice X.gp X.gs.length X.gc, .string (X.sd), .slice X.pp X.ps.length X.pc, .slice X.sp X.ss.length X.sc, .slice X.tp X.got.length X.tc, .slice X.vp X.gave.length X.vc, .slice X.bp X.bs.length X.bc] 52 (0, 0)), Rw 29 1 X.gp X.gs.length X.gc (fl rowL X.gs), Rw 33 2 X.pp X.ps.length X.pc (fl plL X.ps), Rw 54 1 X.sp X.ss.length X.sc (fl sgL X.ss), Rw 3 1 X.tp X.got.length X.tc (fl intL X.got), Rw 3 1 X.vp X.gave.length X.vc (fl intL X.gave), Rw 34 1 X.bp X.bs.length X.bc (fl rowL X.bs), (Lst BwI X.bs), (Lst SgI X.ss), Old w (fps [X.I])] := S.unbig (L := [_, _, _, _, _, _, _, _, _]) H0
 have hL := hX.lens
 have hn9 : X.ps.length ≤ 9 := hX.n9
 have hL1 := hL.1
 have hvp : valP (⟨st, rt⟩ : Pl) = true := valP_of hp
 have hak : askN X.ps.length [n] = 0 := askN_0.2 (fun x hx => by rw [List.mem_singleton.1 hx]; exact hn)
 refine enter 38 Tryz.func28 rfl rfl rfl ?_
 refine g_weak [(0, .pointer (some ⟨X.g, 0, none⟩)), (1, .int .i64 n), (2, .agg #[.int .i64 st, .int .i64 rt])] ⟨rfl, rfl, rfl, trivial⟩ ?_
 refine w_s ?_
 refine l_of (s_box H0 (wt0 rfl) rfl rfl rfl rfl ?_)
 intro g1 wq2 H3
 refine w_a ?_
 refine w_e ?_
 refine g_seq ?_
 refine w_s ?_
 refine w_m ?_
 refine w_b (v := .bool false) (hb := (b_eqN (r := false) Tryz.underlying25 rfl)) ?_
 refine w_m ?_
 refine w_g (v := .agg #[.int .i64 st, .int .i64 rt]) rfl (x_loadA H3 0 rfl rfl Tryz.underlying33 rfl sz33 rfl rfl rfl) ?_
 refine l_of (s_call0 H3 (wt1 rfl rfl rfl rfl rfl) (x_call' rfl rfl cl19) (valid_p (⟨st, rt⟩ : Pl) _) rfl rfl ?_)
 intro wq4 H5
 refine w_g (v := .bool (!((valP (⟨st, rt⟩ : Pl))))) rfl (x_not (b := (valP (⟨st, rt⟩ : Pl))) rfl rfl) ?_
 refine w_v (v := .bool (!((valP (⟨st, rt⟩ : Pl))))) (x_pick_f rfl rfl rfl rfl) ?_
 refine w_e ?_
 refine g_cond_f rfl (neg_of hvp) ?_
 refine g_skip ?_
 refine g_then ?_
 refine g_seq ?_
 refine w_s ?_
 refine w_r2 ?_
 refine l_of (s_buildSlice H5 (wt0 rfl) rfl rfl rfl (vs := [.int .i64 n]) rfl Tryz.underlying34 sz3 ze3 rfl rfl (cells := #[.int .i64 n]) (by kernel_rfl) ?_)
 intro g6 wq7 H8
 have H9 : S wq7 [Rw 3 1 (some ⟨g6, 0, none⟩) 1 1 (fl intL ([n])), Ob g1 (.cells #[.int .i64 st, .int .i64 rt] 33 (0, 0)), Ob X.g (.cells #[.slice X.gp X.gs.length X.gc, .string (X.sd), .slice X.pp X.ps.length X.pc, .slice X.sp X.ss.length X.sc, .slice X.tp X.got.length X.tc, .slice X.vp X.gave.length X.vc, .slice X.bp X.bs.length X.bc] 52 (0, 0)), Rw 29 1 X.gp X.gs.length X.gc (fl rowL X.gs), Rw 33 2 X.pp X.ps.length X.pc (fl plL X.ps), Rw 54 1 X.sp X.ss.length X.sc (fl sgL X.ss), Rw 3 1 X.tp X.got.length X.tc (fl intL X.got), Rw 3 1 X.vp X.gave.length X.vc (fl intL X.gave), Rw 34 1 X.bp X.bs.length X.bc (fl rowL X.bs), (Lst BwI X.bs), (Lst SgI X.ss), Old w (fps [X.I])] := S.obFl intE H8 (k := 0) rfl rfl (by decide) rfl
 refine l_of (s_call (wt0 rfl) (x_call' rfl rfl cl25) (asked_s X.g X.gp X.gc X.gs.length X.sd X.pp X.pc X.ps X.sp X.sc X.ss.length X.tp X.tc X.got.length X.vp X.vc X.gave.length X.bp X.bc X.bs.length [n] (some ⟨g6, 0, none⟩) 1 (by simp) (by omega) _ (H9.takes [0, 2] (by decide))) ?_)
 rintro _ wq10 ⟨rfl, H11⟩
 replace H11 : S wq10 [Rw 3 1 (some ⟨g6, 0, none⟩) 1 1 (fl intL ([n])), Ob X.g (.cells #[.slice X.gp X.gs.length X.gc, .string (X.sd), .slice X.pp X.ps.length X.pc, .slice X.sp X.ss.length X.sc, .slice X.tp X.got.length X.tc, .slice X.vp X.gave.length X.vc, .slice X.bp X.bs.length X.bc] 52 (0, 0)), Ob g1 (.cells #[.int .i64 st, .int .i64 rt] 33 (0, 0)), Rw 29 1 X.gp X.gs.length X.gc (fl rowL X.gs), Rw 33 2 X.pp X.ps.length X.pc (fl plL X.ps), Rw 54 1 X.sp X.ss.length X.sc (fl sgL X.ss), Rw 3 1 X.tp X.got.length X.tc (fl intL X.got), Rw 3 1 X.vp X.gave.length X.vc (fl intL X.gave), Rw 34 1 X.bp X.bs.length X.bc (fl rowL X.bs), (Lst BwI X.bs), (Lst SgI X.ss), Old w (fps [X.I])] := by have h := H9.absorbI [0, 2] H11; exact h
 refine b_ret rfl rfl ?_
 refine w_a ?_
 refine w_e ?_
 refine g_weak [(0, .pointer (some ⟨X.g, 0, none⟩)), (1, .int .i64 n), (5, .pointer (some ⟨g1, 0, none⟩)), (7, .int .i64 ((askN X.ps.length [n])))] ⟨rfl, rfl, rfl, rfl, trivial⟩ ?_
 refine w_s ?_
 refine w_m ?_
 refine w_b (v := .bool (!decide (((askN X.ps.length [n]) : Int) = 0))) (hb := b_neq) ?_
 refine w_e ?_
 refine g_cond_f rfl (nf hak) ?_
 refine g_skip ?_
 refine g_then ?_
 refine g_seq ?_
 refine g_anyY [] (fun wx => S wx [Ob X.g (.cells #[.slice X.gp X.gs.length X.gc, .string (X.sd), .slice X.pp X.ps.length X.pc, .slice X.sp X.ss.length X.sc, .slice X.tp X.got.length X.tc, .slice X.vp X.gave.length X.vc, .slice X.bp X.bs.length X.bc] 52 (0, 0)), Ob g1 (.cells #[.int .i64 st, .int .i64 rt] 33 (0, 0))]) (fun wx => S wx []) [15, 17] (by kernel_rfl) H11 (fun wq12 H13 => ?_)
 refine w_y 0 rfl (wt0 rfl) rfl rfl rfl (by kernel_rfl) (fun _ => x_move rfl rfl) ?_
 refine w_y 1 rfl (wt0 rfl) rfl rfl rfl (by kernel_rfl) (fun _ => x_nilCheck rfl rfl) ?_
 refine w_y 2 rfl (wt0 rfl) rfl rfl rfl (by kernel_rfl) (fun _ => x_fieldAddr (off' := 2) rfl rfl fo52_2 rfl) ?_
 have cm1 := H13.mask [false, true, true, false, false, false, false, false, false, false, false, false]
 refine y_take (v := .slice X.pp X.ps.length X.pc) 3 rfl (wt0 rfl) rfl rfl rfl (by kernel_rfl) (by kernel_rfl) (by kernel_rfl) (by kernel_rfl) (by kernel_rfl) cm1 (fun wx H => x_load1 H 0 rfl rfl Tryz.underlying22 rfl rfl rfl) ?_
 refine w_y 4 rfl (wt0 rfl) rfl rfl rfl (by kernel_rfl) (fun _ => x_move rfl rfl) ?_
 refine w_y 5 rfl (wt0 rfl) rfl rfl rfl (by kernel_rfl) (fun _ => x_move rfl rfl) ?_
 refine w_y 6 rfl (wt0 rfl) rfl rfl rfl (by kernel_rfl) (fun _ => x_nilCheck rfl rfl) ?_
 refine w_y 7 rfl (wt0 rfl) rfl rfl rfl (by kernel_rfl) (fun _ => x_fieldAddr (off' := 3) rfl rfl fo52_3 rfl) ?_
 refine y_take (v := .slice X.sp X.ss.length X.sc) 8 rfl (wt0 rfl) rfl rfl rfl (by kernel_rfl) (by kernel_rfl) (by kernel_rfl) (by kernel_rfl) (by kernel_rfl) cm1 (fun wx H => x_load1 H 0 rfl rfl Tryz.underlying50 rfl rfl rfl) ?_
 refine w_y 9 rfl (wt0 rfl) rfl rfl rfl (by kernel_rfl) (fun _ => x_move rfl rfl) ?_
 refine y_take (v := .agg #[.int .i64 st, .int .i64 rt]) 10 rfl (wt0 rfl) rfl rfl rfl (by kernel_rfl) (by kernel_rfl) (by kernel_rfl) (by kernel_rfl) (by kernel_rfl) cm1 (fun wx H => x_loadA H 1 rfl rfl Tryz.underlying33 rfl sz33 rfl rfl rfl) ?_
 refine w_y 11 rfl (wt0 rfl) rfl rfl rfl (by kernel_rfl) (fun _ => x_fieldAddr (off' := 0) rfl rfl fo33_0 rfl) ?_
 refine y_take (v := .int .i64 st) 12 rfl (wt0 rfl) rfl rfl rfl (by kernel_rfl) (by kernel_rfl) (by kernel_rfl) (by kernel_rfl) (by kernel_rfl) cm1 (fun wx H => x_load1 H 1 rfl rfl Tryz.underlying3 rfl rfl rfl) ?_
 refine y_one (i := 13) (by kernel_rfl) rfl ?_
 refine s_call (wt0 rfl) (x_call' rfl rfl cl21) (made_all st hp.1 _) ?_
 rintro _ wq14 ⟨s9, rfl, hs9, H15⟩
 replace H15 : S wq14 [(SgI s9), Rw 3 1 (some ⟨g6, 0, none⟩) 1 1 (fl intL ([n])), Ob X.g (.cells #[.slice X.gp X.gs.length X.gc, .string (X.sd), .slice X.pp X.ps.length X.pc, .slice X.sp X.ss.length X.sc, .slice X.tp X.got.length X.tc, .slice X.vp X.gave.length X.vc, .slice X.bp X.bs.length X.bc] 52 (0, 0)), Ob g1 (.cells #[.int .i64 st, .int .i64 rt] 33 (0, 0)), Rw 29 1 X.gp X.gs.length X.gc (fl rowL X.gs), Rw 33 2 X.pp X.ps.length X.pc (fl plL X.ps), Rw 54 1 X.sp X.ss.length X.sc (fl sgL X.ss), Rw 3 1 X.tp X.got.length X.tc (fl intL X.got), Rw 3 1 X.vp X.gave.length X.vc (fl intL X.gave), Rw 34 1 X.bp X.bs.length X.bc (fl rowL X.bs), (Lst BwI X.bs), (Lst SgI X.ss), Old w (fps [X.I])] := H13.absorb (new := [(SgI s9)]) H15
 refine b_ret rfl rfl ?_
 refine y_k (H15.mask [false, false, true, true, false, false, false, false, false, false, false, false, false]) (H15.mask [false, false, false, false, false, false, false, false, false, false, false, false, false]) ?_
 refine w_y (v := .pointer ((X.pp).map fun q => q.add (((n).toNat) * 2))) 14 rfl (wt0 rfl) rfl rfl rfl (by kernel_rfl) (fun _ => x_idxP ((n).toNat) ((H15.rwReads (k := 5) rfl).some (by omega)) rfl rfl rfl Tryz.underlying22 sz33 (by omega)) ?_
 refine y_one (i := 15) (by kernel_rfl) rfl ?_
 refine s_stoL (j := ((n).toNat)) plE (⟨st, rt⟩ : Pl) H15 5 (wt0 rfl) rfl rfl rfl rfl rfl rfl sz33 (by omega) ?_
 intro wq16 H17
 refine y_kt rfl (H17.mask [false, false, false, false, false, false, false, false, false, false, false, false, false]) ?_
 refine w_y (v := .pointer ((X.sp).map fun q => q.add (((n).toNat) * 1))) 16 rfl (wt0 rfl) rfl rfl rfl (by kernel_rfl) (fun _ => x_idxP ((n).toNat) ((H17.rwReads (k := 6) rfl).some (by omega)) rfl rfl rfl Tryz.underlying50 sz54 (by omega)) ?_
 refine y_one (i := 17) (by kernel_rfl) rfl ?_
 refine s_stoL (j := ((n).toNat)) sgE s9 H17 6 (wt0 rfl) rfl rfl rfl rfl rfl rfl sz54 (by omega) ?_
 intro wq18 H19
 refine y_kt rfl (H19.mask [false, false, false, false, false, false, false, false, false, false, false, false, false]) ?_
 refine y_done (by kernel_rfl) ?_
 refine g_then ?_
 refine g_weak [] trivial ?_
 refine w_s ?_
 refine w_a ?_
 refine w_e ?_
 refine g_ret ?_
 refine fin_ret [.tmp 6] [.int .i64 0] rfl ⟨rfl, trivial⟩ ?_
 obtain ⟨x9, hx9⟩ := ex_at (l := X.ss) (j := n.toNat) (by omega)
 have H20 := S.lstOut (F := SgI) (H19.takes [11, 0, 2, 4, 5, 6, 7, 8, 9, 10, 12] (by decide)) hx9
 have H21 := S.lstIn (F := SgI) (x := s9) (l := X.ss) (j := n.toNat) (H20.takes [2, 1, 3, 4, 5, 6, 7, 8, 9, 10, 11] (by decide)) (List.getElem?_eq_some_iff.1 hx9).1
 have e0 : Ob X.g (.cells #[.slice X.gp X.gs.length X.gc, .string (X.sd), .slice X.pp X.ps.length X.pc, .slice X.sp X.ss.length X.sc, .slice X.tp X.got.length X.tc, .slice X.vp X.gave.length X.vc, .slice X.bp X.bs.length X.bc] 52 (0, 0)) = Ob X.g (.cells #[.slice X.gp X.gs.length X.gc, .string (X.sd), .slice X.pp (X.ps.set n.toNat (⟨st, rt⟩ : Pl)).length X.pc, .slice X.sp (X.ss.set n.toNat s9).length X.sc, .slice X.tp X.got.length X.tc, .slice X.vp X.gave.length X.vc, .slice X.bp X.bs.length X.bc] 52 (0, 0)) := by rw [List.length_set, List.length_set]
 have e1 : Rw 33 2 X.pp X.ps.length X.pc (fl plL (X.ps.set ((n).toNat) (⟨st, rt⟩ : Pl))) = Rw 33 2 X.pp (X.ps.set n.toNat (⟨st, rt⟩ : Pl)).length X.pc (fl plL (X.ps.set ((n).toNat) (⟨st, rt⟩ : Pl))) := by rw [List.length_set]
 have e2 : Rw 54 1 X.sp X.ss.length X.sc (fl sgL (X.ss.set ((n).toNat) s9)) = Rw 54 1 X.sp (X.ss.set n.toNat s9).length X.sc (fl sgL (X.ss.set ((n).toNat) s9)) := by rw [List.length_set]
 rw [e0, e1, e2] at H21
 have H22 := S.big (L := [_, _, _, _, _, _, _, _, _]) (H21.takes [1, 2, 3, 4, 5, 6, 7, 8, 0, 9] (by decide))
 exact ⟨{ X with ps := X.ps.set n.toNat (⟨st, rt⟩ : Pl), ss := X.ss.set n.toNat s9 }, rfl, (by unfold GM.A chA; dsimp only; rw [List.map_set, hs9]), rfl, rfl, H22⟩
end Go.Proofs.YtpbjekdjebjbkaaGreat
namespace Go.Proofs.YtpbjekdjebjbkaaGreat
open Go.RowKit

theorem cl14 : callable Tryz.prog 14 = true := by kernel_rfl
theorem cl28 : callable Tryz.prog 28 = true := by kernel_rfl
theorem copy_g {pl : List Rd} {X : GM} {g0 : Nat} {w : World} (hX : MOK pl X) (hgl : X.gs.length ≤ 1000) (hg : X.g = g0) (HS : S w [X.I, Pool pl]) : Calls Tryz.prog 14 #[.pointer (some ⟨g0, 0, none⟩)] w fun e w' => ∃ Y : GM, e = .returned (.pointer (some ⟨Y.g, 0, none⟩)) ∧ Y.A = X.A ∧ Y.gs.length = X.gs.length ∧ MOK pl Y ∧ S w' ([Y.I, X.I, Pool pl] ++ [Old w (fps [X.I, Pool pl])]) := by
  subst hg
  refine (copy_x pl X hX hgl w HS).mono ?_
  rintro e w' ⟨Y, rfl, hA, hs, h⟩
  exact ⟨Y, rfl, hA, by rw [hs], ⟨hA ▸ hX.ok, fun r hr => hX.mem r (hs ▸ hr)⟩, h⟩
theorem change_g {pl : List Rd} {X : GM} {g0 : Nat} {w : World} (hX : MOK pl X) (hg : X.g = g0) (n : Int) (hn : 0 ≤ n ∧ n < X.A.ps.length) (st rt : Int) (hp : (1 ≤ st ∧ st ≤ 7) ∧ 0 ≤ rt ∧ rt ≤ 1000000) (HS : S w [X.I]) : Calls Tryz.prog 28 #[.pointer (some ⟨g0, 0, none⟩), .int .i64 n, .agg #[.int .i64 st, .int .i64 rt]] w fun e w' => ∃ Y : GM, e = .returned (.int .i64 0) ∧ Y.A = chA X.A n.toNat ⟨st, rt⟩ ∧ Y.g = g0 ∧ Y.gs.length = X.gs.length ∧ MOK pl Y ∧ S w' ([Y.I] ++ [Old w (fps [X.I])]) := by
  subst hg
  refine (change_x X hX.ok n hn st rt hp w HS).mono ?_
  rintro e w' ⟨Y, rfl, hA, hg2, hs, h⟩
  exact ⟨Y, rfl, hA, hg2, by rw [hs], ⟨hA ▸ chA_ok hX.ok hp, fun r hr => hX.mem r (hs ▸ hr)⟩, h⟩
/-- What a player would get with a strategy. -/
noncomputable def gainV (A : GA) (n r : Nat) (rt st : Int) (s : Int) : Int := ((stepsA r (if s = st then A else chA A n ⟨s, rt⟩)).got.getD n 0) - A.got.getD n 0
noncomputable def bestF (A : GA) (n r : Nat) (rt st : Int) : Nat → Int × Int
  | 0 => (0, -1)
  | k + 1 => if (bestF A n r rt st k).2 < gainV A n r rt st ((k + 1 : Nat) : Int) then (((k + 1 : Nat) : Int), gainV A n r rt st ((k + 1 : Nat) : Int)) else bestF A n r rt st k
theorem best_t {A : GA} {n r : Nat} {rt st at9 mo : Int} {k : Nat} (h : (at9, mo) = bestF A n r rt st k) (hl : mo < gainV A n r rt st ((k + 1 : Nat) : Int)) : (((k + 1 : Nat) : Int), gainV A n r rt st ((k + 1 : Nat) : Int)) = bestF A n r rt st (k + 1) := (if_pos (show (bestF A n r rt st k).2 < _ by rw [← h]; exact hl)).symm
theorem best_f {A : GA} {n r : Nat} {rt st at9 mo : Int} {k : Nat} (h : (at9, mo) = bestF A n r rt st k) (hl : ¬ mo < gainV A n r rt st ((k + 1 : Nat) : Int)) : (at9, mo) = bestF A n r rt st (k + 1) := h.trans (if_neg (show ¬ (bestF A n r rt st k).2 < _ by rw [← h]; exact hl)).symm
set_option maxRecDepth 20000 in
set_option maxHeartbeats 4000000 in
theorem best_x (pl : List Rd) (X : GM) (hX : MOK pl X) (n : Int) (hn : 0 ≤ n ∧ n < X.ps.length) (pm : Pl) (hpm : X.ps[n.toNat]? = some pm) (st rt : Int) (hst : pm.st = st) (hrt : pm.rt = rt) (rn : Int) (hr0 : 0 ≤ rn ∧ rn ≤ 200) (hrg : X.gs.length + rn.toNat ≤ 190)  (w : World) (HS : S w [X.I, Pool pl]) : Calls Tryz.prog 15 #[.pointer (some ⟨X.g, 0, none⟩), .int .i64 n, .int .i64 rn] w fun e w' => ∃ pl', e = .returned (.tuple #[.int .i64 (bestF X.A n.toNat rn.toNat rt st 7).1, .int .i64 (bestF X.A n.toNat rn.toNat rt st 7).2, .int .i64 0]) ∧ (∀ r ∈ pl, r ∈ pl') ∧ S w' ([X.I, Pool pl'] ++ [Old w (fps [X.I, Pool pl])]) := by
 have H0 := HS.beginI
 replace H0 : S w [Ob X.g (.cells #[.slice X.gp X.gs.length X.gc, .string (X.sd), .slice X.pp X.ps.length X.pc, .slice X.sp X.ss.length X.sc, .slice X.tp X.got.length X.tc, .slice X.vp X.gave.length X.vc, .slice X.bp X.bs.length X.bc] 52 (0, 0)), Rw 29 1 X.gp X.gs.length X.gc (fl rowL X.gs), Rw 33 2 X.pp X.ps.length X.pc (fl plL X.ps), Rw 54 1 X.sp X.ss.length X.sc (fl sgL X.ss), Rw 3 1 X.tp X.got.length X.tc (fl intL X.got), Rw 3 1 X.vp X.gave.length X.vc (fl intL X.gave), Rw 34 1 X.bp X.bs.length X.bc (fl rowL X.bs), (Lst BwI X.bs), (Lst SgI X.ss), (Pool pl), Old w (fps [X.I, Pool pl])] := S.unbig (L := [_, _, _, _, _, _, _, _, _]) H0
 have hL := hX.ok.lens
 have hn9 : X.ps.length ≤ 9 := hX.ok.n9
 have hL3 := hL.2.2.1
 have hpv9 := hX.ok.pv pm (List.mem_of_getElem? hpm)
 rw [hst, hrt] at hpv9
 have hak : askN X.ps.length [n] = 0 := askN_0.2 (fun x hx => by rw [List.mem_singleton.1 hx]; exact hn)
 refine enter 93 Tryz.func15 rfl rfl rfl ?_
 refine g_weak [(0, .pointer (some ⟨X.g, 0, none⟩)), (1, .int .i64 n), (2, .int .i64 rn)] ⟨rfl, rfl, rfl, trivial⟩ ?_
 refine w_s ?_
 refine w_r3 ?_
 refine w_e ?_
 refine g_seq ?_
 refine w_s ?_
 refine w_r2 ?_
 refine l_of (s_buildSlice H0 (wt0 rfl) rfl rfl rfl (vs := [.int .i64 n]) rfl Tryz.underlying34 sz3 ze3 rfl rfl (cells := #[.int .i64 n]) (by kernel_rfl) ?_)
 intro g1 wq2 H3
 have H4 : S wq2 [Rw 3 1 (some ⟨g1, 0, none⟩) 1 1 (fl intL ([n])), Ob X.g (.cells #[.slice X.gp X.gs.length X.gc, .string (X.sd), .slice X.pp X.ps.length X.pc, .slice X.sp X.ss.length X.sc, .slice X.tp X.got.length X.tc, .slice X.vp X.gave.length X.vc, .slice X.bp X.bs.length X.bc] 52 (0, 0)), Rw 29 1 X.gp X.gs.length X.gc (fl rowL X.gs), Rw 33 2 X.pp X.ps.length X.pc (fl plL X.ps), Rw 54 1 X.sp X.ss.length X.sc (fl sgL X.ss), Rw 3 1 X.tp X.got.length X.tc (fl intL X.got), Rw 3 1 X.vp X.gave.length X.vc (fl intL X.gave), Rw 34 1 X.bp X.bs.length X.bc (fl rowL X.bs), (Lst BwI X.bs), (Lst SgI X.ss), (Pool pl), Old w (fps [X.I, Pool pl])] := S.obFl intE H3 (k := 0) rfl rfl (by decide) rfl
 refine l_of (s_call (wt0 rfl) (x_call' rfl rfl cl25) (asked_s X.g X.gp X.gc X.gs.length X.sd X.pp X.pc X.ps X.sp X.sc X.ss.length X.tp X.tc X.got.length X.vp X.vc X.gave.length X.bp X.bc X.bs.length [n] (some ⟨g1, 0, none⟩) 1 (by simp) (by omega) _ (H4.takes [0, 1] (by decide))) ?_)
 rintro _ wq5 ⟨rfl, H6⟩
 replace H6 : S wq5 [Rw 3 1 (some ⟨g1, 0, none⟩) 1 1 (fl intL ([n])), Ob X.g (.cells #[.slice X.gp X.gs.length X.gc, .string (X.sd), .slice X.pp X.ps.length X.pc, .slice X.sp X.ss.length X.sc, .slice X.tp X.got.length X.tc, .slice X.vp X.gave.length X.vc, .slice X.bp X.bs.length X.bc] 52 (0, 0)), Rw 29 1 X.gp X.gs.length X.gc (fl rowL X.gs), Rw 33 2 X.pp X.ps.length X.pc (fl plL X.ps), Rw 54 1 X.sp X.ss.length X.sc (fl sgL X.ss), Rw 3 1 X.tp X.got.length X.tc (fl intL X.got), Rw 3 1 X.vp X.gave.length X.vc (fl intL X.gave), Rw 34 1 X.bp X.bs.length X.bc (fl rowL X.bs), (Lst BwI X.bs), (Lst SgI X.ss), (Pool pl), Old w (fps [X.I, Pool pl])] := by have h := H4.absorbI [0, 1] H6; exact h
 refine b_ret rfl rfl ?_
 refine w_a ?_
 refine w_e ?_
 refine w_s ?_
 refine w_m ?_
 refine w_b (v := .bool (!decide (((askN X.ps.length [n]) : Int) = 0))) (hb := b_neq) ?_
 refine w_e ?_
 refine g_cond_f rfl (nf hak) ?_
 refine g_skip ?_
 refine g_then ?_
 refine g_seq ?_
 refine g_block ?_
 refine w_s ?_
 refine w_m ?_
 refine w_b ?_
 refine w_m ?_
 refine l_of (s_val (v := .int .i64 rn) (wt1 rfl rfl rfl rfl (decide_eq_false (by omega))) rfl rfl (x_move rfl rfl) ?_)
 refine l_of (s_val (v := .bool (decide ((200 : Int) < rn))) (wt1 rfl rfl rfl rfl (decide_eq_false (by omega))) rfl rfl (x_bin rfl rfl rfl b_gtr) ?_)
 refine w_v (v := .bool (decide ((200 : Int) < rn))) (x_pick_f rfl rfl (decide_eq_false (by omega)) rfl) ?_
 refine w_a ?_
 refine w_e ?_
 refine g_weak [(0, .pointer (some ⟨X.g, 0, none⟩)), (1, .int .i64 n), (2, .int .i64 rn), (22, .bool (decide ((200 : Int) < rn)))] ⟨rfl, rfl, rfl, rfl, trivial⟩ ?_
 refine g_cond_f rfl (decide_eq_false (by omega)) ?_
 refine w_s ?_
 refine w_r4 ?_
 refine w_1 H6 1 ?_
 refine w_v (v := .int .i64 ((X.gs.length : Int))) (x_lenl rfl rfl Tryz.underlying47) ?_
 refine w_m ?_
 refine w_b (v := .int .i64 ((X.gs.length : Int) + rn)) (hb := (b_add (w64 (by omega)))) ?_
 refine w_b ?_
 refine w_a ?_
 refine w_e ?_
 refine g_cond_f rfl (decide_eq_false (by omega)) ?_
 refine g_skip ?_
 refine g_in ?_
 refine g_then ?_
 refine w_s ?_
 refine w_r2 ?_
 refine w_e ?_
 refine g_seq ?_
 refine w_s ?_
 refine w_a ?_
 refine w_e ?_
 refine g_block ?_
 refine g_loop (ι := Nat × Int × Int × List Rd) (fun (s, at9, mo, pl2) => [(0, .pointer (some ⟨X.g, 0, none⟩)), (1, .int .i64 n), (2, .int .i64 rn), (10, .int .i64 at9), (11, .int .i64 mo), (12, .int .i64 ((s : Int)))]) (fun (s, at9, mo, pl2) wx => (1 ≤ s ∧ s ≤ 8) ∧ ((at9, mo) = bestF X.A n.toNat rn.toNat rt st (s - 1)) ∧ (MOK pl2 X) ∧ (∀ r ∈ pl, r ∈ pl2) ∧ S wx [Ob X.g (.cells #[.slice X.gp X.gs.length X.gc, .string (X.sd), .slice X.pp X.ps.length X.pc, .slice X.sp X.ss.length X.sc, .slice X.tp X.got.length X.tc, .slice X.vp X.gave.length X.vc, .slice X.bp X.bs.length X.bc] 52 (0, 0)), Rw 29 1 X.gp X.gs.length X.gc (fl rowL X.gs), Rw 33 2 X.pp X.ps.length X.pc (fl plL X.ps), Rw 54 1 X.sp X.ss.length X.sc (fl sgL X.ss), Rw 3 1 X.tp X.got.length X.tc (fl intL X.got), Rw 3 1 X.vp X.gave.length X.vc (fl intL X.gave), Rw 34 1 X.bp X.bs.length X.bc (fl rowL X.bs), (Lst BwI X.bs), (Lst SgI X.ss), (Pool pl2), Old w (fps [X.I, Pool pl])]) (fun (s, at9, mo, pl2) => 8 - s) (1, 0, -1, pl) ⟨rfl, rfl, rfl, rfl, rfl, rfl, trivial⟩ ⟨(by omega), rfl, hX, (fun _ h => h), (H6.takes [1, 2, 3, 4, 5, 6, 7, 8, 9, 10, 11] (by decide))⟩ ?_
 rintro ⟨s, at9, mo, pl2⟩ wq7 ⟨hs, hbf, hX2, hp2, H8⟩
 refine g_weak [(0, .pointer (some ⟨X.g, 0, none⟩)), (1, .int .i64 n), (2, .int .i64 rn), (10, .int .i64 at9), (11, .int .i64 mo), (12, .int .i64 ((s : Int)))] ⟨rfl, rfl, rfl, rfl, rfl, rfl, trivial⟩ ?_
 refine g_seq ?_
 refine w_s ?_
 refine w_m ?_
 refine w_b ?_
 refine w_e ?_
 by_cases hb9 : ((s : Int) : Int) ≤ 7
 ·
  refine g_cond_t rfl (decide_eq_true hb9) ?_
  refine g_skip ?_
  refine g_then ?_
  refine g_seq ?_
  refine g_block ?_
  refine w_s ?_
  refine w_m ?_
  have H10 : S wq7 [(GM.I X), (Pool pl2), Old w (fps [X.I, Pool pl])] := S.big (L := [_, _, _, _, _, _, _, _, _]) (H8.takes [0, 1, 2, 3, 4, 5, 6, 7, 8, 9, 10] (by decide))
  refine l_of (s_call (wt0 rfl) (x_call' rfl rfl cl14) (copy_g hX2 (by omega) rfl (H10.takes [0, 1] (by decide))) ?_)
  rintro _ wq11 ⟨Y, rfl, hYA, hYl, hYM, H12⟩
  have hnY : 0 ≤ n ∧ n < Y.A.ps.length := by rw [hYA]; exact hn
  replace H12 : S wq11 [(GM.I Y), (GM.I X), (Pool pl2), Old w (fps [X.I, Pool pl])] := by have h := H10.absorbI [0, 1] H12; exact h
  refine b_ret rfl rfl ?_
  have H13 : S wq11 [Ob X.g (.cells #[.slice X.gp X.gs.length X.gc, .string (X.sd), .slice X.pp X.ps.length X.pc, .slice X.sp X.ss.length X.sc, .slice X.tp X.got.length X.tc, .slice X.vp X.gave.length X.vc, .slice X.bp X.bs.length X.bc] 52 (0, 0)), Rw 29 1 X.gp X.gs.length X.gc (fl rowL X.gs), Rw 33 2 X.pp X.ps.length X.pc (fl plL X.ps), Rw 54 1 X.sp X.ss.length X.sc (fl sgL X.ss), Rw 3 1 X.tp X.got.length X.tc (fl intL X.got), Rw 3 1 X.vp X.gave.length X.vc (fl intL X.gave), Rw 34 1 X.bp X.bs.length X.bc (fl rowL X.bs), (Lst BwI X.bs), (Lst SgI X.ss), (GM.I Y), (Pool pl2), Old w (fps [X.I, Pool pl])] := S.unbig (L := [_, _, _, _, _, _, _, _, _]) (H12.takes [1, 0, 2, 3] (by decide))
  refine w_a ?_
  refine w_e ?_
  refine g_seq ?_
  refine w_s ?_
  refine w_r4 ?_
  refine w_1 H13 0 ?_
  refine w_m ?_
  refine w_v (v := .pointer ((X.pp).map fun q => q.add (((n).toNat) * 2))) (x_idxR ((n).toNat) (H13.rwReads (k := 2) rfl) rfl rfl rfl Tryz.underlying22 sz33 (by omega)) ?_
  refine w_v (v := .pointer ((X.pp).map fun q => q.add (((n).toNat) * 2 + 0))) (ex_cast (x_fieldAddrG (m := ((n).toNat) * 2) ((H13.rwReads (k := 2) rfl).some (by omega)) rfl rfl fo33_0) rfl) ?_
  have hlq := (H13.rwReads (k := 2) rfl).lenL plE
  obtain ⟨x14, hx14⟩ := ex_at (l := X.ps) (j := ((n).toNat)) (by omega)
  clear hlq
  have hxqx14 : x14 = pm := Option.some.inj (hx14.symm.trans hpm)
  have hxsx14 : x14.st = st := by rw [hxqx14]; exact hst
  have hxrx14 : x14.rt = rt := by rw [hxqx14]; exact hrt
  refine w_v (v := .int .i64 st) (ex_cast (x_loadF1 (i := 0) (j := ((n).toNat)) plE (H13.rwReads (k := 2) rfl) hx14 rfl rfl Tryz.underlying3 rfl rfl) (by rw [hxsx14])) ?_
  refine w_b (v := .bool (!decide (((s : Int) : Int) = st))) (hb := b_neq) ?_
  refine w_e ?_
  refine g_weak [(0, .pointer (some ⟨X.g, 0, none⟩)), (1, .int .i64 n), (2, .int .i64 rn), (10, .int .i64 at9), (11, .int .i64 mo), (12, .int .i64 ((s : Int))), (13, .pointer (some ⟨Y.g, 0, none⟩)), (54, .bool (!decide (((s : Int) : Int) = st)))] ⟨rfl, rfl, rfl, rfl, rfl, rfl, rfl, rfl, trivial⟩ ?_
  by_cases hb15 : ((s : Int) : Int) = st
  ·
   have heq9 : (s : Int) = st := hb15
   refine g_cond_f rfl (nf hb15) ?_
   refine g_skip ?_
   refine g_then ?_
   refine w_s ?_
   refine w_r2 ?_
   refine l_of (s_call (wt0 rfl) (x_call' rfl rfl cl12) (play_g hYM rn hr0 (by rw [hYl]; omega) rfl (H13.takes [9, 10] (by decide))) ?_)
   rintro _ wq16 ⟨Xp, plp, rfl, hAp, hgp, hlp, hMp, hpp, H17⟩
   replace H17 : S wq16 [(GM.I Xp), (Pool plp), Ob X.g (.cells #[.slice X.gp X.gs.length X.gc, .string (X.sd), .slice X.pp X.ps.length X.pc, .slice X.sp X.ss.length X.sc, .slice X.tp X.got.length X.tc, .slice X.vp X.gave.length X.vc, .slice X.bp X.bs.length X.bc] 52 (0, 0)), Rw 29 1 X.gp X.gs.length X.gc (fl rowL X.gs), Rw 33 2 X.pp X.ps.length X.pc (fl plL X.ps), Rw 54 1 X.sp X.ss.length X.sc (fl sgL X.ss), Rw 3 1 X.tp X.got.length X.tc (fl intL X.got), Rw 3 1 X.vp X.gave.length X.vc (fl intL X.gave), Rw 34 1 X.bp X.bs.length X.bc (fl rowL X.bs), (Lst BwI X.bs), (Lst SgI X.ss), Old w (fps [X.I, Pool pl])] := by have h := H13.absorbI [9, 10] H17; exact h
   refine b_ret rfl rfl ?_
   have H18 : S wq16 [Ob Xp.g (.cells #[.slice Xp.gp Xp.gs.length Xp.gc, .string (Xp.sd), .slice Xp.pp Xp.ps.length Xp.pc, .slice Xp.sp Xp.ss.length Xp.sc, .slice Xp.tp Xp.got.length Xp.tc, .slice Xp.vp Xp.gave.length Xp.vc, .slice Xp.bp Xp.bs.length Xp.bc] 52 (0, 0)), Rw 29 1 Xp.gp Xp.gs.length Xp.gc (fl rowL Xp.gs), Rw 33 2 Xp.pp Xp.ps.length Xp.pc (fl plL Xp.ps), Rw 54 1 Xp.sp Xp.ss.length Xp.sc (fl sgL Xp.ss), Rw 3 1 Xp.tp Xp.got.length Xp.tc (fl intL Xp.got), Rw 3 1 Xp.vp Xp.gave.length Xp.vc (fl intL Xp.gave), Rw 34 1 Xp.bp Xp.bs.length Xp.bc (fl rowL Xp.bs), (Lst BwI Xp.bs), (Lst SgI Xp.ss), (Pool plp), Ob X.g (.cells #[.slice X.gp X.gs.length X.gc, .string (X.sd), .slice X.pp X.ps.length X.pc, .slice X.sp X.ss.length X.sc, .slice X.tp X.got.length X.tc, .slice X.vp X.gave.length X.vc, .slice X.bp X.bs.length X.bc] 52 (0, 0)), Rw 29 1 X.gp X.gs.length X.gc (fl rowL X.gs), Rw 33 2 X.pp X.ps.length X.pc (fl plL X.ps), Rw 54 1 X.sp X.ss.length X.sc (fl sgL X.ss), Rw 3 1 X.tp X.got.length X.tc (fl intL X.got), Rw 3 1 X.vp X.gave.length X.vc (fl intL X.gave), Rw 34 1 X.bp X.bs.length X.bc (fl rowL X.bs), (Lst BwI X.bs), (Lst SgI X.ss), Old w (fps [X.I, Pool pl])] := S.unbig (L := [_, _, _, _, _, _, _, _, _]) (H17.takes [0, 1, 2, 3, 4, 5, 6, 7, 8, 9, 10, 11] (by decide))
   rw [hgp] at H18
   have hAp2 : Xp.A = stepsA rn.toNat (if (s : Int) = st then X.A else chA X.A n.toNat ⟨s, rt⟩) := by rw [hAp, hYA, if_pos heq9]
   have hLp := hMp.ok.gt.1
   have hps9 : Xp.A.ps.length = X.ps.length := by rw [hAp2, stepsA_ps]; split <;> first | rfl | exact List.length_set ..
   have hgq9 : Xp.got.length = X.ps.length := hLp.trans hps9
   refine w_e ?_
   refine g_seq ?_
   refine g_quiet (by kernel_rfl) (by kernel_rfl) H18 ?_
   refine q_val (v := .pointer (some ⟨Y.g, 0, none⟩)) (wt0 rfl) rfl rfl (fun wx H => x_move rfl rfl) ?_
   refine q_val (v := .pointer (some ⟨Y.g, 0, none⟩)) (wt0 rfl) rfl rfl (fun wx H => x_nilCheck rfl rfl) ?_
   refine q_val (v := .pointer (some ⟨Y.g, 4, none⟩)) (wt0 rfl) rfl rfl (fun wx H => x_fieldAddr rfl rfl fo52_4 rfl) ?_
   refine q_val (v := .slice Xp.tp Xp.got.length Xp.tc) (wt0 rfl) rfl rfl (fun wx H => x_load1 H 0 rfl rfl Tryz.underlying34 rfl rfl rfl) ?_
   refine q_val (v := .int .i64 n) (wt0 rfl) rfl rfl (fun wx H => x_move rfl rfl) ?_
   refine q_val (v := .pointer ((Xp.tp).map fun q => q.add (((n).toNat) * 1))) (wt0 rfl) rfl rfl (fun wx H => x_idxP ((n).toNat) ((H18.rwReads (k := 4) rfl).some (by omega)) rfl rfl rfl Tryz.underlying34 sz3 (by omega)) ?_
   have hlq := (H18.rwReads (k := 4) rfl).lenL intE
   obtain ⟨x19, hx19⟩ := ex_at (l := Xp.got) (j := ((n).toNat)) (by omega)
   clear hlq
   refine q_val (v := .int .i64 x19) (wt0 rfl) rfl rfl (fun wx H => x_loadR1 ((n).toNat) (H.rwReads (k := 4) rfl) (by omega) rfl rfl Tryz.underlying3 rfl (intE.flAt1 hx19 rfl)) ?_
   refine q_val (v := .pointer (some ⟨X.g, 0, none⟩)) (wt0 rfl) rfl rfl (fun wx H => x_move rfl rfl) ?_
   refine q_val (v := .pointer (some ⟨X.g, 0, none⟩)) (wt0 rfl) rfl rfl (fun wx H => x_nilCheck rfl rfl) ?_
   refine q_val (v := .pointer (some ⟨X.g, 4, none⟩)) (wt0 rfl) rfl rfl (fun wx H => x_fieldAddr rfl rfl fo52_4 rfl) ?_
   refine q_val (v := .slice X.tp X.got.length X.tc) (wt0 rfl) rfl rfl (fun wx H => x_load1 H 10 rfl rfl Tryz.underlying34 rfl rfl rfl) ?_
   refine q_val (v := .int .i64 n) (wt0 rfl) rfl rfl (fun wx H => x_move rfl rfl) ?_
   refine q_val (v := .pointer ((X.tp).map fun q => q.add (((n).toNat) * 1))) (wt0 rfl) rfl rfl (fun wx H => x_idxP ((n).toNat) ((H18.rwReads (k := 14) rfl).some (by omega)) rfl rfl rfl Tryz.underlying34 sz3 (by omega)) ?_
   have hlq := (H18.rwReads (k := 14) rfl).lenL intE
   obtain ⟨x20, hx20⟩ := ex_at (l := X.got) (j := ((n).toNat)) (by omega)
   clear hlq
   refine q_val (v := .int .i64 x20) (wt0 rfl) rfl rfl (fun wx H => x_loadR1 ((n).toNat) (H.rwReads (k := 14) rfl) (by omega) rfl rfl Tryz.underlying3 rfl (intE.flAt1 hx20 rfl)) ?_
   have hgn9 : x19 - x20 = (gainV X.A n.toNat rn.toNat rt st s) := by unfold gainV; rw [← hAp2, getD_atT (show Xp.A.got[n.toNat]? = some x19 from hx19), getD_atT (show X.A.got[n.toNat]? = some x20 from hx20)]
   have hba9 := hMp.ok.gt.2.at (show Xp.A.got[n.toNat]? = some x19 from hx19)
   have hbb9 := hX.ok.gt.2.at (show X.A.got[n.toNat]? = some x20 from hx20)
   have hga9 : (Xp.A.gv.length : Int) ≤ 200 := by rw [hMp.gvl]; omega
   have hgb9 : (X.A.gv.length : Int) ≤ 200 := by rw [hX.gvl]; omega
   refine q_val (v := .int .i64 ((gainV X.A n.toNat rn.toNat rt st s))) (wt0 rfl) rfl rfl (fun wx H => ex_cast (x_bin rfl rfl rfl (b_sub (w64 (by omega)))) (by rw [hgn9])) ?_
   refine q_val (v := .int .i64 ((gainV X.A n.toNat rn.toNat rt st s))) (wt0 rfl) rfl rfl (fun wx H => x_assign rfl rfl) ?_
   refine q_nil (fun wq21 H22 => ?_)
   refine g_then ?_
   refine g_weak [(0, .pointer (some ⟨X.g, 0, none⟩)), (1, .int .i64 n), (2, .int .i64 rn), (10, .int .i64 at9), (11, .int .i64 mo), (12, .int .i64 ((s : Int))), (14, .int .i64 ((gainV X.A n.toNat rn.toNat rt st s)))] ⟨rfl, rfl, rfl, rfl, rfl, rfl, rfl, trivial⟩ ?_
   refine w_s ?_
   refine w_r2 ?_
   refine w_b ?_
   refine w_e ?_
   by_cases hb23 : (mo : Int) < (gainV X.A n.toNat rn.toNat rt st s)
   ·
    refine g_cond_t rfl (decide_eq_true hb23) ?_
    refine g_region ?_
    refine w_r4 ?_
    refine g_nil ?_
    refine g_in ?_
    refine g_then ?_
    refine g_region ?_
    refine w_m ?_
    refine w_b (v := .int .i64 (((s + 1 : Nat) : Int))) (hb := (b_add (by rw [w64 (by omega)]; omega))) ?_
    refine w_a ?_
    refine w_e ?_
    refine g_round (i := (s, at9, mo, pl2)) ((s + 1), (s : Int), (gainV X.A n.toNat rn.toNat rt st s), plp) ?_ ?_ ?_
    · exact ⟨rfl, rfl, rfl, rfl, rfl, rfl, trivial⟩
    · exact ⟨(by omega), (by obtain ⟨k9, rfl⟩ : ∃ k, s = k + 1 := ⟨s - 1, by omega⟩; exact best_t (k := k9) hbf hb23), (hX2.more hpp), (fun r hr => hpp r (hp2 r hr)), (H22.takes [10, 11, 12, 13, 14, 15, 16, 17, 18, 9, 19] (by decide))⟩
    · (try dsimp only); omega
   ·
    refine g_cond_f rfl (decide_eq_false hb23) ?_
    refine g_skip ?_
    refine g_in ?_
    refine g_then ?_
    refine g_region ?_
    refine w_m ?_
    refine w_b (v := .int .i64 (((s + 1 : Nat) : Int))) (hb := (b_add (by rw [w64 (by omega)]; omega))) ?_
    refine w_a ?_
    refine w_e ?_
    refine g_round (i := (s, at9, mo, pl2)) ((s + 1), at9, mo, plp) ?_ ?_ ?_
    · exact ⟨rfl, rfl, rfl, rfl, rfl, rfl, trivial⟩
    · exact ⟨(by omega), (by obtain ⟨k9, rfl⟩ : ∃ k, s = k + 1 := ⟨s - 1, by omega⟩; exact best_f (k := k9) hbf hb23), (hX2.more hpp), (fun r hr => hpp r (hp2 r hr)), (H22.takes [10, 11, 12, 13, 14, 15, 16, 17, 18, 9, 19] (by decide))⟩
    · (try dsimp only); omega
  ·
   have hne9 : ¬ (s : Int) = st := hb15
   refine g_cond_t rfl (nt hb15) ?_
   refine g_region ?_
   refine w_r6 ?_
   refine w_1 H13 0 ?_
   refine w_m ?_
   refine w_v (v := .pointer ((X.pp).map fun q => q.add (((n).toNat) * 2))) (x_idxR ((n).toNat) (H13.rwReads (k := 2) rfl) rfl rfl rfl Tryz.underlying22 sz33 (by omega)) ?_
   refine w_v (v := .pointer ((X.pp).map fun q => q.add (((n).toNat) * 2 + 1))) (ex_cast (x_fieldAddrG (m := ((n).toNat) * 2) ((H13.rwReads (k := 2) rfl).some (by omega)) rfl rfl fo33_1) rfl) ?_
   refine w_v (v := .int .i64 rt) (ex_cast (x_loadF1 (i := 1) (j := ((n).toNat)) plE (H13.rwReads (k := 2) rfl) hx14 rfl rfl Tryz.underlying3 rfl rfl) (by rw [hxrx14])) ?_
   refine w_v (v := .agg #[.int .i64 ((s : Int)), .int .i64 rt]) (x_build (vs := [.int .i64 ((s : Int)), .int .i64 rt]) rfl rfl (cells := #[.int .i64 ((s : Int)), .int .i64 rt]) (by kernel_rfl)) ?_
   refine l_of (s_call (wt0 rfl) (x_call' rfl rfl cl28) (change_g hYM rfl n hnY s rt ⟨by omega, by omega⟩ (H13.takes [9] (by decide))) ?_)
   rintro _ wq24 ⟨Y1, rfl, hYA1, hYg1, hYl1, hYM1, H25⟩
   replace H25 : S wq24 [(GM.I Y1), Ob X.g (.cells #[.slice X.gp X.gs.length X.gc, .string (X.sd), .slice X.pp X.ps.length X.pc, .slice X.sp X.ss.length X.sc, .slice X.tp X.got.length X.tc, .slice X.vp X.gave.length X.vc, .slice X.bp X.bs.length X.bc] 52 (0, 0)), Rw 29 1 X.gp X.gs.length X.gc (fl rowL X.gs), Rw 33 2 X.pp X.ps.length X.pc (fl plL X.ps), Rw 54 1 X.sp X.ss.length X.sc (fl sgL X.ss), Rw 3 1 X.tp X.got.length X.tc (fl intL X.got), Rw 3 1 X.vp X.gave.length X.vc (fl intL X.gave), Rw 34 1 X.bp X.bs.length X.bc (fl rowL X.bs), (Lst BwI X.bs), (Lst SgI X.ss), (Pool pl2), Old w (fps [X.I, Pool pl])] := by have h := H13.absorbI [9] H25; exact h
   refine b_ret rfl rfl ?_
   refine w_e ?_
   refine g_weak [(0, .pointer (some ⟨X.g, 0, none⟩)), (1, .int .i64 n), (2, .int .i64 rn), (10, .int .i64 at9), (11, .int .i64 mo), (12, .int .i64 ((s : Int))), (13, .pointer (some ⟨Y.g, 0, none⟩))] ⟨rfl, rfl, rfl, rfl, rfl, rfl, rfl, trivial⟩ ?_
   refine w_s ?_
   refine w_r2 ?_
   refine l_of (s_call (wt0 rfl) (x_call' rfl rfl cl12) (play_g hYM1 rn hr0 (by rw [hYl1, hYl]; omega) hYg1 (H25.takes [0, 10] (by decide))) ?_)
   rintro _ wq26 ⟨Xp, plp, rfl, hAp, hgp, hlp, hMp, hpp, H27⟩
   replace H27 : S wq26 [(GM.I Xp), (Pool plp), Ob X.g (.cells #[.slice X.gp X.gs.length X.gc, .string (X.sd), .slice X.pp X.ps.length X.pc, .slice X.sp X.ss.length X.sc, .slice X.tp X.got.length X.tc, .slice X.vp X.gave.length X.vc, .slice X.bp X.bs.length X.bc] 52 (0, 0)), Rw 29 1 X.gp X.gs.length X.gc (fl rowL X.gs), Rw 33 2 X.pp X.ps.length X.pc (fl plL X.ps), Rw 54 1 X.sp X.ss.length X.sc (fl sgL X.ss), Rw 3 1 X.tp X.got.length X.tc (fl intL X.got), Rw 3 1 X.vp X.gave.length X.vc (fl intL X.gave), Rw 34 1 X.bp X.bs.length X.bc (fl rowL X.bs), (Lst BwI X.bs), (Lst SgI X.ss), Old w (fps [X.I, Pool pl])] := by have h := H25.absorbI [0, 10] H27; exact h
   refine b_ret rfl rfl ?_
   have H28 : S wq26 [Ob Xp.g (.cells #[.slice Xp.gp Xp.gs.length Xp.gc, .string (Xp.sd), .slice Xp.pp Xp.ps.length Xp.pc, .slice Xp.sp Xp.ss.length Xp.sc, .slice Xp.tp Xp.got.length Xp.tc, .slice Xp.vp Xp.gave.length Xp.vc, .slice Xp.bp Xp.bs.length Xp.bc] 52 (0, 0)), Rw 29 1 Xp.gp Xp.gs.length Xp.gc (fl rowL Xp.gs), Rw 33 2 Xp.pp Xp.ps.length Xp.pc (fl plL Xp.ps), Rw 54 1 Xp.sp Xp.ss.length Xp.sc (fl sgL Xp.ss), Rw 3 1 Xp.tp Xp.got.length Xp.tc (fl intL Xp.got), Rw 3 1 Xp.vp Xp.gave.length Xp.vc (fl intL Xp.gave), Rw 34 1 Xp.bp Xp.bs.length Xp.bc (fl rowL Xp.bs), (Lst BwI Xp.bs), (Lst SgI Xp.ss), (Pool plp), Ob X.g (.cells #[.slice X.gp X.gs.length X.gc, .string (X.sd), .slice X.pp X.ps.length X.pc, .slice X.sp X.ss.length X.sc, .slice X.tp X.got.length X.tc, .slice X.vp X.gave.length X.vc, .slice X.bp X.bs.length X.bc] 52 (0, 0)), Rw 29 1 X.gp X.gs.length X.gc (fl rowL X.gs), Rw 33 2 X.pp X.ps.length X.pc (fl plL X.ps), Rw 54 1 X.sp X.ss.length X.sc (fl sgL X.ss), Rw 3 1 X.tp X.got.length X.tc (fl intL X.got), Rw 3 1 X.vp X.gave.length X.vc (fl intL X.gave), Rw 34 1 X.bp X.bs.length X.bc (fl rowL X.bs), (Lst BwI X.bs), (Lst SgI X.ss), Old w (fps [X.I, Pool pl])] := S.unbig (L := [_, _, _, _, _, _, _, _, _]) (H27.takes [0, 1, 2, 3, 4, 5, 6, 7, 8, 9, 10, 11] (by decide))
   rw [hgp] at H28
   have hAp2 : Xp.A = stepsA rn.toNat (if (s : Int) = st then X.A else chA X.A n.toNat ⟨s, rt⟩) := by rw [hAp, hYA1, hYA, if_neg hne9]
   have hLp := hMp.ok.gt.1
   have hps9 : Xp.A.ps.length = X.ps.length := by rw [hAp2, stepsA_ps]; split <;> first | rfl | exact List.length_set ..
   have hgq9 : Xp.got.length = X.ps.length := hLp.trans hps9
   refine w_e ?_
   refine g_seq ?_
   refine g_quiet (by kernel_rfl) (by kernel_rfl) H28 ?_
   refine q_val (v := .pointer (some ⟨Y.g, 0, none⟩)) (wt0 rfl) rfl rfl (fun wx H => x_move rfl rfl) ?_
   refine q_val (v := .pointer (some ⟨Y.g, 0, none⟩)) (wt0 rfl) rfl rfl (fun wx H => x_nilCheck rfl rfl) ?_
   refine q_val (v := .pointer (some ⟨Y.g, 4, none⟩)) (wt0 rfl) rfl rfl (fun wx H => x_fieldAddr rfl rfl fo52_4 rfl) ?_
   refine q_val (v := .slice Xp.tp Xp.got.length Xp.tc) (wt0 rfl) rfl rfl (fun wx H => x_load1 H 0 rfl rfl Tryz.underlying34 rfl rfl rfl) ?_
   refine q_val (v := .int .i64 n) (wt0 rfl) rfl rfl (fun wx H => x_move rfl rfl) ?_
   refine q_val (v := .pointer ((Xp.tp).map fun q => q.add (((n).toNat) * 1))) (wt0 rfl) rfl rfl (fun wx H => x_idxP ((n).toNat) ((H28.rwReads (k := 4) rfl).some (by omega)) rfl rfl rfl Tryz.underlying34 sz3 (by omega)) ?_
   have hlq := (H28.rwReads (k := 4) rfl).lenL intE
   obtain ⟨x29, hx29⟩ := ex_at (l := Xp.got) (j := ((n).toNat)) (by omega)
   clear hlq
   refine q_val (v := .int .i64 x29) (wt0 rfl) rfl rfl (fun wx H => x_loadR1 ((n).toNat) (H.rwReads (k := 4) rfl) (by omega) rfl rfl Tryz.underlying3 rfl (intE.flAt1 hx29 rfl)) ?_
   refine q_val (v := .pointer (some ⟨X.g, 0, none⟩)) (wt0 rfl) rfl rfl (fun wx H => x_move rfl rfl) ?_
   refine q_val (v := .pointer (some ⟨X.g, 0, none⟩)) (wt0 rfl) rfl rfl (fun wx H => x_nilCheck rfl rfl) ?_
   refine q_val (v := .pointer (some ⟨X.g, 4, none⟩)) (wt0 rfl) rfl rfl (fun wx H => x_fieldAddr rfl rfl fo52_4 rfl) ?_
   refine q_val (v := .slice X.tp X.got.length X.tc) (wt0 rfl) rfl rfl (fun wx H => x_load1 H 10 rfl rfl Tryz.underlying34 rfl rfl rfl) ?_
   refine q_val (v := .int .i64 n) (wt0 rfl) rfl rfl (fun wx H => x_move rfl rfl) ?_
   refine q_val (v := .pointer ((X.tp).map fun q => q.add (((n).toNat) * 1))) (wt0 rfl) rfl rfl (fun wx H => x_idxP ((n).toNat) ((H28.rwReads (k := 14) rfl).some (by omega)) rfl rfl rfl Tryz.underlying34 sz3 (by omega)) ?_
   have hlq := (H28.rwReads (k := 14) rfl).lenL intE
   obtain ⟨x30, hx30⟩ := ex_at (l := X.got) (j := ((n).toNat)) (by omega)
   clear hlq
   refine q_val (v := .int .i64 x30) (wt0 rfl) rfl rfl (fun wx H => x_loadR1 ((n).toNat) (H.rwReads (k := 14) rfl) (by omega) rfl rfl Tryz.underlying3 rfl (intE.flAt1 hx30 rfl)) ?_
   have hgn9 : x29 - x30 = (gainV X.A n.toNat rn.toNat rt st s) := by unfold gainV; rw [← hAp2, getD_atT (show Xp.A.got[n.toNat]? = some x29 from hx29), getD_atT (show X.A.got[n.toNat]? = some x30 from hx30)]
   have hba9 := hMp.ok.gt.2.at (show Xp.A.got[n.toNat]? = some x29 from hx29)
   have hbb9 := hX.ok.gt.2.at (show X.A.got[n.toNat]? = some x30 from hx30)
   have hga9 : (Xp.A.gv.length : Int) ≤ 200 := by rw [hMp.gvl]; omega
   have hgb9 : (X.A.gv.length : Int) ≤ 200 := by rw [hX.gvl]; omega
   refine q_val (v := .int .i64 ((gainV X.A n.toNat rn.toNat rt st s))) (wt0 rfl) rfl rfl (fun wx H => ex_cast (x_bin rfl rfl rfl (b_sub (w64 (by omega)))) (by rw [hgn9])) ?_
   refine q_val (v := .int .i64 ((gainV X.A n.toNat rn.toNat rt st s))) (wt0 rfl) rfl rfl (fun wx H => x_assign rfl rfl) ?_
   refine q_nil (fun wq31 H32 => ?_)
   refine g_then ?_
   refine g_weak [(0, .pointer (some ⟨X.g, 0, none⟩)), (1, .int .i64 n), (2, .int .i64 rn), (10, .int .i64 at9), (11, .int .i64 mo), (12, .int .i64 ((s : Int))), (14, .int .i64 ((gainV X.A n.toNat rn.toNat rt st s)))] ⟨rfl, rfl, rfl, rfl, rfl, rfl, rfl, trivial⟩ ?_
   refine w_s ?_
   refine w_r2 ?_
   refine w_b ?_
   refine w_e ?_
   by_cases hb33 : (mo : Int) < (gainV X.A n.toNat rn.toNat rt st s)
   ·
    refine g_cond_t rfl (decide_eq_true hb33) ?_
    refine g_region ?_
    refine w_r4 ?_
    refine g_nil ?_
    refine g_in ?_
    refine g_then ?_
    refine g_region ?_
    refine w_m ?_
    refine w_b (v := .int .i64 (((s + 1 : Nat) : Int))) (hb := (b_add (by rw [w64 (by omega)]; omega))) ?_
    refine w_a ?_
    refine w_e ?_
    refine g_round (i := (s, at9, mo, pl2)) ((s + 1), (s : Int), (gainV X.A n.toNat rn.toNat rt st s), plp) ?_ ?_ ?_
    · exact ⟨rfl, rfl, rfl, rfl, rfl, rfl, trivial⟩
    · exact ⟨(by omega), (by obtain ⟨k9, rfl⟩ : ∃ k, s = k + 1 := ⟨s - 1, by omega⟩; exact best_t (k := k9) hbf hb33), (hX2.more hpp), (fun r hr => hpp r (hp2 r hr)), (H32.takes [10, 11, 12, 13, 14, 15, 16, 17, 18, 9, 19] (by decide))⟩
    · (try dsimp only); omega
   ·
    refine g_cond_f rfl (decide_eq_false hb33) ?_
    refine g_skip ?_
    refine g_in ?_
    refine g_then ?_
    refine g_region ?_
    refine w_m ?_
    refine w_b (v := .int .i64 (((s + 1 : Nat) : Int))) (hb := (b_add (by rw [w64 (by omega)]; omega))) ?_
    refine w_a ?_
    refine w_e ?_
    refine g_round (i := (s, at9, mo, pl2)) ((s + 1), at9, mo, plp) ?_ ?_ ?_
    · exact ⟨rfl, rfl, rfl, rfl, rfl, rfl, trivial⟩
    · exact ⟨(by omega), (by obtain ⟨k9, rfl⟩ : ∃ k, s = k + 1 := ⟨s - 1, by omega⟩; exact best_f (k := k9) hbf hb33), (hX2.more hpp), (fun r hr => hpp r (hp2 r hr)), (H32.takes [10, 11, 12, 13, 14, 15, 16, 17, 18, 9, 19] (by decide))⟩
    · (try dsimp only); omega
 ·
  refine g_cond_f rfl (decide_eq_false hb9) ?_
  refine g_exit ?_
  refine g_then_exit ?_
  refine g_then_exit ?_
  refine g_in_hit ?_
  refine g_then ?_
  refine w_s ?_
  refine w_r5 ?_
  refine w_e ?_
  refine g_ret ?_
  refine fin_ret [.tmp 6, .tmp 7, .tmp 8] [.int .i64 at9, .int .i64 mo, .int .i64 0] rfl ⟨rfl, rfl, rfl, trivial⟩ ?_
  have hse : s = 8 := by omega
  subst hse
  have hb7 : (at9, mo) = bestF X.A n.toNat rn.toNat rt st 7 := hbf
  rw [← hb7]
  exact ⟨pl2, rfl, hp2, S.big (L := [_, _, _, _, _, _, _, _, _]) (H8.takes [0, 1, 2, 3, 4, 5, 6, 7, 8, 9, 10] (by decide))⟩
end Go.Proofs.YtpbjekdjebjbkaaGreat
namespace Go.Proofs.YtpbjekdjebjbkaaGreat
open Go.RowKit

theorem cl13 : callable Tryz.prog 13 = true := by kernel_rfl
theorem cl15 : callable Tryz.prog 15 = true := by kernel_rfl
theorem cl16 : callable Tryz.prog 16 = true := by kernel_rfl
theorem best_0 {pl : List Rd} {X : GM} {g0 : Nat} {w : World} (hX : MOK pl X) (hg : X.g = g0) (rn : Int) (hr0 : 0 ≤ rn ∧ rn ≤ 200) (hrg : X.gs.length + rn.toNat ≤ 190) (HS : S w [X.I, Pool pl]) : Calls Tryz.prog 15 #[.pointer (some ⟨g0, 0, none⟩), .int .i64 0, .int .i64 rn] w fun e w' => ∃ v pl', e = .returned v ∧ (∀ r ∈ pl, r ∈ pl') ∧ S w' ([X.I, Pool pl'] ++ [Old w (fps [X.I, Pool pl])]) := by
  subst hg
  have h2 := hX.ok.n2
  obtain ⟨pm, hpm⟩ := ex_at (l := X.ps) (j := 0) (Nat.lt_of_lt_of_le (by decide) h2)
  refine (best_x pl X hX 0 ⟨by decide, by have h3 : 2 ≤ X.ps.length := h2; omega⟩ pm hpm pm.st pm.rt rfl rfl rn hr0 hrg w HS).mono ?_
  rintro e w' ⟨pl', rfl, hp, h⟩
  exact ⟨_, pl', rfl, hp, h⟩
theorem between_v {w : World} {X : GM} {g0 : Nat} (h : GOK X.A) (hg : X.g = g0) (a b : Int) (hab : (0 ≤ a ∧ a < X.A.ps.length) ∧ 0 ≤ b ∧ b < X.A.ps.length) {v : Int} (hv : at2 X.A.bw a b = v) (HS : S w [X.I]) : Calls Tryz.prog 16 #[.pointer (some ⟨g0, 0, none⟩), .int .i64 a, .int .i64 b] w fun e w' => e = .returned (.tuple #[.int .i64 v, .int .i64 0]) ∧ S w' ([X.I] ++ [Old w (fps [X.I])]) := by
  have h1 := between_g h hg a b HS
  rw [askN_0.2 (fun x hx => by
    rcases List.mem_cons.1 hx with rfl | hx
    · exact hab.1
    · rw [List.mem_singleton.1 hx]; exact hab.2), if_pos rfl, hv] at h1
  exact h1
set_option maxRecDepth 20000 in
set_option maxHeartbeats 4000000 in
theorem copies_law (sd : ByteArray) (l : List Pl) (p : Option Addr) (n c : Nat) (hn2 : n ≤ 9223372036854775807) (a b : Int)  (w : World) (hr : Reads w p n c 2 (fl plL l)) : Calls Tryz.prog 5 #[.string sd, .slice p n c, .int .i64 a, .int .i64 b] w fun e w' => e = .returned (.bool true) ∧ S w' [Old w no] := by
 have H0 := S.old w
 have hnl := hr.lenL plE
 refine enter 151 Tryz.func5 rfl rfl rfl ?_
 refine g_weak [(0, .string sd), (1, .slice p n c), (2, .int .i64 a), (3, .int .i64 b)] ⟨rfl, rfl, rfl, rfl, trivial⟩ ?_
 refine w_s ?_
 refine w_a ?_
 refine w_e ?_
 refine g_seq ?_
 refine w_s ?_
 refine w_r3 ?_
 refine l_of (s_call0 H0 (wt0 rfl) (x_call' rfl rfl cl6) (light_s sd l p n c a _) rfl rfl ?_)
 intro wq1 H2
 refine w_v (v := .bool (!decide (n ≤ 9 ∧ sd.size ≤ 120 ∧ a ≤ 30))) (x_not (b := decide (n ≤ 9 ∧ sd.size ≤ 120 ∧ a ≤ 30)) rfl rfl) ?_
 refine w_m ?_
 by_cases hb3 : (n ≤ 9 ∧ sd.size ≤ 120 ∧ a ≤ 30)
 ·
  refine w_g (nf hb3) xm ?_
  refine w_g (nf hb3) (x_bin rfl rfl rfl b_lss) ?_
  refine w_v (v := .bool (decide ((a : Int) < 0))) (x_pick_f rfl rfl (nf hb3) rfl) ?_
  refine w_m ?_
  by_cases hb4 : (a : Int) < 0
  ·
   refine w_n (decide_eq_true hb4) ?_
   refine w_n (decide_eq_true hb4) ?_
   refine w_v (v := .bool true) (x_pick_t rfl rfl (decide_eq_true hb4) rfl) ?_
   refine w_m ?_
   refine w_n rfl ?_
   refine w_n rfl ?_
   refine w_v (v := .bool true) (x_pick_t rfl rfl rfl rfl) ?_
   refine w_e ?_
   refine g_weak [(0, .string sd), (1, .slice p n c), (2, .int .i64 a), (3, .int .i64 b), (38, .bool true)] ⟨rfl, rfl, rfl, rfl, rfl, trivial⟩ ?_
   refine g_cond_t rfl rfl ?_
   refine w_s ?_
   refine l_of (s_call0 H2 (wt0 rfl) (x_call' rfl rfl cl7) (awake_s _) rfl rfl ?_)
   intro wq5 H6
   refine w_a ?_
   refine w_e ?_
   refine g_ret ?_
   refine g_then_ret ?_
   refine fin_ret [.tmp 8] [.bool true] rfl ⟨rfl, trivial⟩ ?_
   exact ⟨rfl, H6.mask [true]⟩
  ·
   refine w_g (decide_eq_false hb4) xm ?_
   refine w_g (decide_eq_false hb4) (x_bin rfl rfl rfl b_lss) ?_
   refine w_v (v := .bool (decide ((b : Int) < 0))) (x_pick_f rfl rfl (decide_eq_false hb4) rfl) ?_
   refine w_m ?_
   by_cases hb7 : (b : Int) < 0
   ·
    refine w_n (decide_eq_true hb7) ?_
    refine w_n (decide_eq_true hb7) ?_
    refine w_v (v := .bool true) (x_pick_t rfl rfl (decide_eq_true hb7) rfl) ?_
    refine w_e ?_
    refine g_weak [(0, .string sd), (1, .slice p n c), (2, .int .i64 a), (3, .int .i64 b), (38, .bool true)] ⟨rfl, rfl, rfl, rfl, rfl, trivial⟩ ?_
    refine g_cond_t rfl rfl ?_
    refine w_s ?_
    refine l_of (s_call0 H2 (wt0 rfl) (x_call' rfl rfl cl7) (awake_s _) rfl rfl ?_)
    intro wq8 H9
    refine w_a ?_
    refine w_e ?_
    refine g_ret ?_
    refine g_then_ret ?_
    refine fin_ret [.tmp 8] [.bool true] rfl ⟨rfl, trivial⟩ ?_
    exact ⟨rfl, H9.mask [true]⟩
   ·
    refine w_g (decide_eq_false hb7) xm ?_
    refine w_g (decide_eq_false hb7) (x_bin rfl rfl rfl b_gtr) ?_
    refine w_v (v := .bool (decide ((20 : Int) < b))) (x_pick_f rfl rfl (decide_eq_false hb7) rfl) ?_
    refine w_e ?_
    refine g_weak [(0, .string sd), (1, .slice p n c), (2, .int .i64 a), (3, .int .i64 b), (38, .bool (decide ((20 : Int) < b)))] ⟨rfl, rfl, rfl, rfl, rfl, trivial⟩ ?_
    by_cases hb10 : (20 : Int) < b
    ·
     refine g_cond_t rfl (decide_eq_true hb10) ?_
     refine w_s ?_
     refine l_of (s_call0 H2 (wt0 rfl) (x_call' rfl rfl cl7) (awake_s _) rfl rfl ?_)
     intro wq11 H12
     refine w_a ?_
     refine w_e ?_
     refine g_ret ?_
     refine g_then_ret ?_
     refine fin_ret [.tmp 8] [.bool true] rfl ⟨rfl, trivial⟩ ?_
     exact ⟨rfl, H12.mask [true]⟩
    ·
     refine g_cond_f rfl (decide_eq_false hb10) ?_
     refine g_skip ?_
     refine g_then ?_
     refine w_s ?_
     refine w_r2 ?_
     refine l_of (s_call (wt0 rfl) (x_call' rfl rfl cl8) (new_any sd l p n c (by omega) _ (H2.exReads (k := 0) rfl hr (fun _ _ _ h => h))) ?_)
     rintro ee15 wq13 hor16
     rcases hor16 with ⟨rfl, hEX, H14⟩ | ⟨X, rfl, hEX, hAX, hMX, hlX, H14⟩
     ·
      replace H14 : S wq13 [Old w no] := H2.absorb (new := []) H14
      refine b_ret rfl rfl ?_
      refine w_r5 ?_
      refine w_e ?_
      refine g_seq ?_
      refine w_s ?_
      refine w_m ?_
      refine w_b (v := .bool (!decide (((newE sd l) : Int) = 0))) (hb := b_neq) ?_
      refine w_e ?_
      refine g_cond_t rfl (nt hEX) ?_
      refine w_s ?_
      refine l_of (s_call0 H14 (wt0 rfl) (x_call' rfl rfl cl7) (awake_s _) rfl rfl ?_)
      intro wq17 H18
      refine w_a ?_
      refine w_e ?_
      refine g_weak [(8, .bool true)] ⟨rfl, trivial⟩ ?_
      refine g_ret ?_
      refine g_then_ret ?_
      refine fin_ret [.tmp 8] [.bool true] rfl ⟨rfl, trivial⟩ ?_
      exact ⟨rfl, H18.mask [true]⟩
     ·
      replace H14 : S wq13 [(GM.I X), Old w no] := H2.absorb (new := [(GM.I X)]) H14
      have H19 : S wq13 [(Pool []), (GM.I X), Old w no] := S.lstNil H14 RdI
      refine b_ret rfl rfl ?_
      refine w_r5 ?_
      refine w_e ?_
      refine g_seq ?_
      refine w_s ?_
      refine w_m ?_
      refine w_b (v := .bool (!decide ((0 : Int) = 0))) (hb := b_neq) ?_
      refine w_e ?_
      refine g_cond_f rfl (nf rfl) ?_
      refine g_skip ?_
      refine g_then ?_
      refine w_s ?_
      refine w_r2 ?_
      refine l_of (s_call (wt0 rfl) (x_call' rfl rfl cl8) (new_any sd l p n c (by omega) _ (H19.exReads (k := 2) rfl hr (fun _ _ _ h => h))) ?_)
      rintro ee22 wq20 hor23
      rcases hor23 with ⟨rfl, hEZ, H21⟩ | ⟨Z, rfl, hEZ, hAZ, hMZ, hlZ, H21⟩
      ·
       exact absurd hEX hEZ
      ·
       replace H21 : S wq20 [(GM.I Z), (Pool []), (GM.I X), Old w no] := H19.absorb (new := [(GM.I Z)]) H21
       refine b_ret rfl rfl ?_
       refine w_r5 ?_
       refine w_e ?_
       refine g_weak [(1, .slice p n c), (2, .int .i64 a), (3, .int .i64 b), (9, .pointer (some ⟨X.g, 0, none⟩)), (11, .pointer (some ⟨Z.g, 0, none⟩))] ⟨rfl, rfl, rfl, rfl, rfl, trivial⟩ ?_
       refine g_seq ?_
       refine w_s ?_
       refine w_r2 ?_
       refine l_of (s_call (wt0 rfl) (x_call' rfl rfl cl12) (play_g hMX a ⟨by omega, by omega⟩ (by omega) rfl (H21.takes [2, 1] (by decide))) ?_)
       rintro _ wq24 ⟨X1, pl1, rfl, hA1, hg1, hl1, hM1, hp1, H25⟩
       replace H25 : S wq24 [(GM.I X1), (Pool pl1), (GM.I Z), Old w no] := by have h := H21.absorbI [2, 1] H25; exact h
       have hZM1 := MOK.more hMZ hp1
       refine b_ret rfl rfl ?_
       refine w_b (v := .bool (!decide ((0 : Int) = 0))) (hb := b_neq) ?_
       refine w_m ?_
       refine w_g (nf rfl) xm ?_
       have hrr1 : (X1.gs.length : Int) = a := (by omega)
       refine l_of (s_call (wt1 rfl rfl rfl rfl (nf rfl)) (x_call' rfl rfl cl13) (rounds_g hg1 (H25.takes [0] (by decide))) ?_)
       rintro _ wq27 ⟨rfl, H28⟩
       replace H28 : S wq27 [(GM.I X1), (Pool pl1), (GM.I Z), Old w no] := by have h := H25.absorbI [0] H28; exact h
       refine b_ret rfl rfl ?_
       refine w_g (nf rfl) xm ?_
       refine w_g (v := .bool (!decide (((X1.gs.length : Int) : Int) = a))) (nf rfl) (x_bin rfl rfl rfl b_neq) ?_
       refine w_v (v := .bool (!decide (((X1.gs.length : Int) : Int) = a))) (x_pick_f rfl rfl (nf rfl) rfl) ?_
       refine w_e ?_
       refine g_cond_f rfl (nf (by omega)) ?_
       refine g_skip ?_
       refine g_then ?_
       refine w_s ?_
       refine w_m ?_
       refine l_of (s_call (wt0 rfl) (x_call' rfl rfl cl14) (copy_g hM1 (by omega) hg1 (H28.takes [0, 1] (by decide))) ?_)
       rintro _ wq29 ⟨C, rfl, hCA, hCl, hCM, H30⟩
       replace H30 : S wq29 [(GM.I C), (GM.I X1), (Pool pl1), (GM.I Z), Old w no] := by have h := H28.absorbI [0, 1] H30; exact h
       refine b_ret rfl rfl ?_
       refine w_a ?_
       refine w_e ?_
       refine g_weak [(1, .slice p n c), (2, .int .i64 a), (3, .int .i64 b), (9, .pointer (some ⟨X.g, 0, none⟩)), (11, .pointer (some ⟨Z.g, 0, none⟩)), (13, .pointer (some ⟨C.g, 0, none⟩))] ⟨rfl, rfl, rfl, rfl, rfl, rfl, trivial⟩ ?_
       refine g_seq ?_
       refine w_s ?_
       refine w_m ?_
       refine w_b (v := .bool false) (hb := (b_eqN (r := false) Tryz.underlying25 rfl)) ?_
       refine w_e ?_
       refine g_cond_f rfl rfl ?_
       refine g_skip ?_
       refine g_then ?_
       refine w_s ?_
       refine w_m ?_
       refine l_of (s_call (wt0 rfl) (x_call' rfl rfl cl15) (best_0 hM1 hg1 2 (by decide) (by have e9 : (2 : Int).toNat = 2 := rfl; omega) (H30.takes [1, 2] (by decide))) ?_)
       rintro _ wq31 ⟨vb, plb, rfl, hpb, H32⟩
       replace H32 : S wq31 [(GM.I X1), (Pool plb), (GM.I C), (GM.I Z), Old w no] := by have h := H30.absorbI [1, 2] H32; exact h
       have hMb := MOK.more hM1 hpb
       have hCMb := MOK.more hCM hpb
       have hZMb := MOK.more hZM1 hpb
       refine b_ret rfl rfl ?_
       refine w_e ?_
       refine g_seq ?_
       refine w_s ?_
       refine w_r2 ?_
       refine l_of (s_call (wt0 rfl) (x_call' rfl rfl cl12) (play_g hMb b ⟨by omega, by omega⟩ (by omega) hg1 (H32.takes [0, 1] (by decide))) ?_)
       rintro _ wq33 ⟨X2, pl2, rfl, hA2, hg2, hl2, hM2, hp2, H34⟩
       replace H34 : S wq33 [(GM.I X2), (Pool pl2), (GM.I C), (GM.I Z), Old w no] := by have h := H32.absorbI [0, 1] H34; exact h
       have hCM2 := MOK.more hCMb hp2
       have hZM2 := MOK.more hZMb hp2
       refine b_ret rfl rfl ?_
       refine w_b (v := .bool (!decide ((0 : Int) = 0))) (hb := b_neq) ?_
       refine w_m ?_
       refine w_g (nf rfl) xm ?_
       refine w_g (nf rfl) xm ?_
       refine l_of (s_call (wt1 rfl rfl rfl rfl (nf rfl)) (x_call' rfl rfl cl12) (play_g hCM2 b ⟨by omega, by omega⟩ (by omega) rfl (H34.takes [2, 1] (by decide))) ?_)
       rintro _ wq35 ⟨C2, pl3, rfl, hA3, hg3, hl3, hM3, hp3, H36⟩
       replace H36 : S wq35 [(GM.I C2), (Pool pl3), (GM.I X2), (GM.I Z), Old w no] := by have h := H34.absorbI [2, 1] H36; exact h
       have hZM3 := MOK.more hZM2 hp3
       have hXM3 := MOK.more hM2 hp3
       refine b_ret rfl rfl ?_
       refine w_g (v := .bool (!decide ((0 : Int) = 0))) (nf rfl) (x_bin rfl rfl rfl b_neq) ?_
       refine w_v (v := .bool (!decide ((0 : Int) = 0))) (x_pick_f rfl rfl (nf rfl) rfl) ?_
       refine w_m ?_
       refine w_g (nf rfl) xm ?_
       refine w_g (nf rfl) xm ?_
       refine w_g (nf rfl) xm ?_
       refine w_g (v := .int .i64 (a + b)) (nf rfl) (x_bin rfl rfl rfl (b_add (w64 (by omega)))) ?_
       refine l_of (s_call (wt1 rfl rfl rfl rfl (nf rfl)) (x_call' rfl rfl cl12) (play_g hZM3 (a + b) ⟨by omega, by omega⟩ (by omega) rfl (H36.takes [3, 1] (by decide))) ?_)
       rintro _ wq37 ⟨Z2, pl4, rfl, hA4, hg4, hl4, hM4, hp4, H38⟩
       replace H38 : S wq37 [(GM.I Z2), (Pool pl4), (GM.I C2), (GM.I X2), Old w no] := by have h := H36.absorbI [3, 1] H38; exact h
       refine b_ret rfl rfl ?_
       refine w_g (v := .bool (!decide ((0 : Int) = 0))) (nf rfl) (x_bin rfl rfl rfl b_neq) ?_
       refine w_v (v := .bool (!decide ((0 : Int) = 0))) (x_pick_f rfl rfl (nf rfl) rfl) ?_
       refine w_m ?_
       refine w_g (nf rfl) xm ?_
       have hrr2 : (C2.gs.length : Int) = (a + b) := (by omega)
       refine l_of (s_call (wt1 rfl rfl rfl rfl (nf rfl)) (x_call' rfl rfl cl13) (rounds_g hg3 (H38.takes [2] (by decide))) ?_)
       rintro _ wq40 ⟨rfl, H41⟩
       replace H41 : S wq40 [(GM.I C2), (GM.I Z2), (Pool pl4), (GM.I X2), Old w no] := by have h := H38.absorbI [2] H41; exact h
       refine b_ret rfl rfl ?_
       refine w_g (nf rfl) xm ?_
       refine w_g (nf rfl) xm ?_
       refine w_g (v := .int .i64 (a + b)) (nf rfl) (x_bin rfl rfl rfl (b_add (w64 (by omega)))) ?_
       refine w_g (v := .bool (!decide (((C2.gs.length : Int) : Int) = a + b))) (nf rfl) (x_bin rfl rfl rfl b_neq) ?_
       refine w_v (v := .bool (!decide (((C2.gs.length : Int) : Int) = a + b))) (x_pick_f rfl rfl (nf rfl) rfl) ?_
       refine w_e ?_
       refine g_weak [(1, .slice p n c), (9, .pointer (some ⟨X.g, 0, none⟩)), (11, .pointer (some ⟨Z.g, 0, none⟩)), (13, .pointer (some ⟨C.g, 0, none⟩)), (96, .bool (!decide (((C2.gs.length : Int) : Int) = a + b)))] ⟨rfl, rfl, rfl, rfl, rfl, trivial⟩ ?_
       refine g_cond_f rfl (nf (by omega)) ?_
       refine g_skip ?_
       refine g_then ?_
       refine g_seq ?_
       refine w_s ?_
       refine w_m ?_
       refine w_v (v := .int .i64 ((n : Int))) (x_lenl rfl rfl Tryz.underlying22) ?_
       refine w_m ?_
       refine w_e ?_
       refine g_block ?_
       have hXe : X2.A = (stepsA (a + b).toNat (newA sd l)) := by rw [hA2, hA1, hAX, ← stepsA_add]; congr 1; omega
       have hCe : C2.A = (stepsA (a + b).toNat (newA sd l)) := by rw [hA3, hCA, hA1, hAX, ← stepsA_add]; congr 1; omega
       have hZe : Z2.A = (stepsA (a + b).toNat (newA sd l)) := by rw [hA4, hAZ]
       refine g_loop (ι := Nat) (fun i => [(1, .slice p n c), (9, .pointer (some ⟨X.g, 0, none⟩)), (11, .pointer (some ⟨Z.g, 0, none⟩)), (13, .pointer (some ⟨C.g, 0, none⟩)), (98, .int .i64 ((n : Int))), (99, .int .i64 ((i : Int)))]) (fun i wx => (i ≤ n) ∧ S wx [(GM.I X2), (GM.I C2), (GM.I Z2), (Pool pl4), Old w no]) (fun i => n - i) (0) ⟨rfl, rfl, rfl, rfl, rfl, rfl, trivial⟩ ⟨Nat.zero_le _, (H41.takes [3, 0, 1, 2, 4] (by decide))⟩ ?_
       rintro i wq42 ⟨hi, H43⟩
       refine g_weak [(1, .slice p n c), (9, .pointer (some ⟨X.g, 0, none⟩)), (11, .pointer (some ⟨Z.g, 0, none⟩)), (13, .pointer (some ⟨C.g, 0, none⟩)), (98, .int .i64 ((n : Int))), (99, .int .i64 ((i : Int)))] ⟨rfl, rfl, rfl, rfl, rfl, rfl, trivial⟩ ?_
       refine w_s ?_
       refine w_b ?_
       refine w_e ?_
       refine g_seq ?_
       by_cases hb44 : ((i : Int) : Int) < (n : Int)
       ·
        refine g_cond_t rfl (decide_eq_true hb44) ?_
        refine g_skip ?_
        refine g_then ?_
        refine g_seq ?_
        refine g_block ?_
        refine w_s ?_
        refine w_r2 ?_
        refine w_e ?_
        refine w_s ?_
        refine w_m ?_
        refine w_v (v := .int .i64 ((n : Int))) (x_lenl rfl rfl Tryz.underlying22) ?_
        refine w_m ?_
        refine w_e ?_
        refine g_block ?_
        refine g_loop (ι := Nat) (fun j => [(1, .slice p n c), (9, .pointer (some ⟨X.g, 0, none⟩)), (11, .pointer (some ⟨Z.g, 0, none⟩)), (13, .pointer (some ⟨C.g, 0, none⟩)), (14, .int .i64 ((i : Int))), (98, .int .i64 ((n : Int))), (99, .int .i64 ((i : Int))), (103, .int .i64 ((n : Int))), (104, .int .i64 ((j : Int)))]) (fun j wx => (j ≤ n) ∧ S wx [(GM.I X2), (GM.I C2), (GM.I Z2), (Pool pl4), Old w no]) (fun j => n - j) (0) ⟨rfl, rfl, rfl, rfl, rfl, rfl, rfl, rfl, rfl, trivial⟩ ⟨Nat.zero_le _, (H43.takes [0, 1, 2, 3, 4] (by decide))⟩ ?_
        rintro j wq45 ⟨hj, H46⟩
        refine g_weak [(1, .slice p n c), (9, .pointer (some ⟨X.g, 0, none⟩)), (11, .pointer (some ⟨Z.g, 0, none⟩)), (13, .pointer (some ⟨C.g, 0, none⟩)), (14, .int .i64 ((i : Int))), (98, .int .i64 ((n : Int))), (99, .int .i64 ((i : Int))), (103, .int .i64 ((n : Int))), (104, .int .i64 ((j : Int)))] ⟨rfl, rfl, rfl, rfl, rfl, rfl, rfl, rfl, rfl, trivial⟩ ?_
        refine w_s ?_
        refine w_b ?_
        refine w_e ?_
        refine g_seq ?_
        by_cases hb47 : ((j : Int) : Int) < (n : Int)
        ·
         refine g_cond_t rfl (decide_eq_true hb47) ?_
         refine g_skip ?_
         refine g_then ?_
         refine g_seq ?_
         refine g_block ?_
         refine w_s ?_
         refine w_r2 ?_
         refine w_e ?_
         refine w_s ?_
         refine w_r3 ?_
         refine l_of (s_call (wt0 rfl) (x_call' rfl rfl cl16) (between_v hM2.ok hg2 (i : Int) (j : Int) (by rw [hXe, stepsA_ps]; show (0 ≤ (i : Int) ∧ (i : Int) < (l.length : Int)) ∧ 0 ≤ (j : Int) ∧ (j : Int) < (l.length : Int); omega) (v := at2 (stepsA (a + b).toNat (newA sd l)).bw (i : Int) (j : Int)) (by rw [hXe]) (H46.takes [0] (by decide))) ?_)
         rintro _ wq48 ⟨rfl, H49⟩
         replace H49 : S wq48 [(GM.I X2), (GM.I C2), (GM.I Z2), (Pool pl4), Old w no] := by have h := H46.absorbI [0] H49; exact h
         refine b_ret rfl rfl ?_
         refine w_r5 ?_
         refine w_e ?_
         refine w_s ?_
         refine w_r3 ?_
         refine l_of (s_call (wt0 rfl) (x_call' rfl rfl cl16) (between_v hM3.ok hg3 (i : Int) (j : Int) (by rw [hCe, stepsA_ps]; show (0 ≤ (i : Int) ∧ (i : Int) < (l.length : Int)) ∧ 0 ≤ (j : Int) ∧ (j : Int) < (l.length : Int); omega) (v := at2 (stepsA (a + b).toNat (newA sd l)).bw (i : Int) (j : Int)) (by rw [hCe]) (H49.takes [1] (by decide))) ?_)
         rintro _ wq50 ⟨rfl, H51⟩
         replace H51 : S wq50 [(GM.I C2), (GM.I X2), (GM.I Z2), (Pool pl4), Old w no] := by have h := H49.absorbI [1] H51; exact h
         refine b_ret rfl rfl ?_
         refine w_r5 ?_
         refine w_e ?_
         refine g_weak [(1, .slice p n c), (9, .pointer (some ⟨X.g, 0, none⟩)), (11, .pointer (some ⟨Z.g, 0, none⟩)), (13, .pointer (some ⟨C.g, 0, none⟩)), (14, .int .i64 ((i : Int))), (15, .int .i64 ((j : Int))), (16, .int .i64 ((at2 (stepsA (a + b).toNat (newA sd l)).bw (i : Int) (j : Int)))), (17, .int .i64 0), (18, .int .i64 ((at2 (stepsA (a + b).toNat (newA sd l)).bw (i : Int) (j : Int)))), (19, .int .i64 0), (98, .int .i64 ((n : Int))), (99, .int .i64 ((i : Int))), (103, .int .i64 ((n : Int))), (104, .int .i64 ((j : Int)))] ⟨rfl, rfl, rfl, rfl, rfl, rfl, rfl, rfl, rfl, rfl, rfl, rfl, rfl, rfl, trivial⟩ ?_
         refine w_s ?_
         refine w_r3 ?_
         refine l_of (s_call (wt0 rfl) (x_call' rfl rfl cl16) (between_v hM4.ok hg4 (i : Int) (j : Int) (by rw [hZe, stepsA_ps]; show (0 ≤ (i : Int) ∧ (i : Int) < (l.length : Int)) ∧ 0 ≤ (j : Int) ∧ (j : Int) < (l.length : Int); omega) (v := at2 (stepsA (a + b).toNat (newA sd l)).bw (i : Int) (j : Int)) (by rw [hZe]) (H51.takes [2] (by decide))) ?_)
         rintro _ wq52 ⟨rfl, H53⟩
         replace H53 : S wq52 [(GM.I Z2), (GM.I C2), (GM.I X2), (Pool pl4), Old w no] := by have h := H51.absorbI [2] H53; exact h
         refine b_ret rfl rfl ?_
         refine w_r5 ?_
         refine w_e ?_
         refine w_s ?_
         refine w_m ?_
         refine w_b (v := .bool (!decide ((0 : Int) = 0))) (hb := b_neq) ?_
         refine w_m ?_
         refine w_g (nf rfl) xm ?_
         refine w_g (v := .bool (!decide ((0 : Int) = 0))) (nf rfl) (x_bin rfl rfl rfl b_neq) ?_
         refine w_v (v := .bool (!decide ((0 : Int) = 0))) (x_pick_f rfl rfl (nf rfl) rfl) ?_
         refine w_m ?_
         refine w_g (nf rfl) xm ?_
         refine w_g (v := .bool (!decide ((0 : Int) = 0))) (nf rfl) (x_bin rfl rfl rfl b_neq) ?_
         refine w_v (v := .bool (!decide ((0 : Int) = 0))) (x_pick_f rfl rfl (nf rfl) rfl) ?_
         refine w_m ?_
         refine w_g (nf rfl) xm ?_
         refine w_g (nf rfl) xm ?_
         refine w_g (v := .bool (!decide (((at2 (stepsA (a + b).toNat (newA sd l)).bw (i : Int) (j : Int)) : Int) = (at2 (stepsA (a + b).toNat (newA sd l)).bw (i : Int) (j : Int))))) (nf rfl) (x_bin rfl rfl rfl b_neq) ?_
         refine w_v (v := .bool (!decide (((at2 (stepsA (a + b).toNat (newA sd l)).bw (i : Int) (j : Int)) : Int) = (at2 (stepsA (a + b).toNat (newA sd l)).bw (i : Int) (j : Int))))) (x_pick_f rfl rfl (nf rfl) rfl) ?_
         refine w_m ?_
         refine w_g (nf rfl) xm ?_
         refine w_g (nf rfl) xm ?_
         refine w_g (v := .bool (!decide (((at2 (stepsA (a + b).toNat (newA sd l)).bw (i : Int) (j : Int)) : Int) = (at2 (stepsA (a + b).toNat (newA sd l)).bw (i : Int) (j : Int))))) (nf rfl) (x_bin rfl rfl rfl b_neq) ?_
         refine w_v (v := .bool (!decide (((at2 (stepsA (a + b).toNat (newA sd l)).bw (i : Int) (j : Int)) : Int) = (at2 (stepsA (a + b).toNat (newA sd l)).bw (i : Int) (j : Int))))) (x_pick_f rfl rfl (nf rfl) rfl) ?_
         refine w_e ?_
         refine g_weak [(1, .slice p n c), (9, .pointer (some ⟨X.g, 0, none⟩)), (11, .pointer (some ⟨Z.g, 0, none⟩)), (13, .pointer (some ⟨C.g, 0, none⟩)), (14, .int .i64 ((i : Int))), (98, .int .i64 ((n : Int))), (99, .int .i64 ((i : Int))), (103, .int .i64 ((n : Int))), (104, .int .i64 ((j : Int))), (147, .bool (!decide (((at2 (stepsA (a + b).toNat (newA sd l)).bw (i : Int) (j : Int)) : Int) = (at2 (stepsA (a + b).toNat (newA sd l)).bw (i : Int) (j : Int)))))] ⟨rfl, rfl, rfl, rfl, rfl, rfl, rfl, rfl, rfl, rfl, trivial⟩ ?_
         refine g_cond_f rfl (nf rfl) ?_
         refine g_skip ?_
         refine g_in ?_
         refine g_then ?_
         refine g_region ?_
         refine w_b (v := .int .i64 (((j + 1 : Nat) : Int))) (hb := (b_add (by rw [w64 (by omega)]; omega))) ?_
         refine w_m ?_
         refine w_e ?_
         refine g_round (i := (j)) ((j + 1)) ?_ ?_ ?_
         · exact ⟨rfl, rfl, rfl, rfl, rfl, rfl, rfl, rfl, rfl, trivial⟩
         · exact ⟨by omega, (H53.takes [2, 1, 0, 3, 4] (by decide))⟩
         · (try dsimp only); omega
        ·
         refine g_cond_f rfl (decide_eq_false hb47) ?_
         refine g_exit ?_
         refine g_then_exit ?_
         refine g_then_exit ?_
         refine g_in_hit ?_
         refine g_in ?_
         refine g_then ?_
         refine g_region ?_
         refine w_b (v := .int .i64 (((i + 1 : Nat) : Int))) (hb := (b_add (by rw [w64 (by omega)]; omega))) ?_
         refine w_m ?_
         refine w_e ?_
         refine g_round (i := (i)) ((i + 1)) ?_ ?_ ?_
         · exact ⟨rfl, rfl, rfl, rfl, rfl, rfl, trivial⟩
         · exact ⟨by omega, (H46.takes [0, 1, 2, 3, 4] (by decide))⟩
         · (try dsimp only); omega
       ·
        refine g_cond_f rfl (decide_eq_false hb44) ?_
        refine g_exit ?_
        refine g_then_exit ?_
        refine g_then_exit ?_
        refine g_in_hit ?_
        refine g_then ?_
        refine w_s ?_
        refine l_of (s_call0 H43 (wt0 rfl) (x_call' rfl rfl cl7) (awake_s _) rfl rfl ?_)
        intro wq54 H55
        refine w_a ?_
        refine w_e ?_
        refine g_ret ?_
        refine fin_ret [.tmp 8] [.bool true] rfl ⟨rfl, trivial⟩ ?_
        exact ⟨rfl, H55.mask [false, false, false, false, true]⟩
 ·
  refine w_n (nt hb3) ?_
  refine w_n (nt hb3) ?_
  refine w_v (v := .bool true) (x_pick_t rfl rfl (nt hb3) rfl) ?_
  refine w_m ?_
  refine w_n rfl ?_
  refine w_n rfl ?_
  refine w_v (v := .bool true) (x_pick_t rfl rfl rfl rfl) ?_
  refine w_m ?_
  refine w_n rfl ?_
  refine w_n rfl ?_
  refine w_v (v := .bool true) (x_pick_t rfl rfl rfl rfl) ?_
  refine w_e ?_
  refine g_weak [(0, .string sd), (1, .slice p n c), (2, .int .i64 a), (3, .int .i64 b), (38, .bool true)] ⟨rfl, rfl, rfl, rfl, rfl, trivial⟩ ?_
  refine g_cond_t rfl rfl ?_
  refine w_s ?_
  refine l_of (s_call0 H2 (wt0 rfl) (x_call' rfl rfl cl7) (awake_s _) rfl rfl ?_)
  intro wq56 H57
  refine w_a ?_
  refine w_e ?_
  refine g_ret ?_
  refine g_then_ret ?_
  refine fin_ret [.tmp 8] [.bool true] rfl ⟨rfl, trivial⟩ ?_
  exact ⟨rfl, H57.mask [true]⟩
end Go.Proofs.YtpbjekdjebjbkaaGreat
