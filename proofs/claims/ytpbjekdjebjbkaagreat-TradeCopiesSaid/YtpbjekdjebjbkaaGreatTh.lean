import Derived.Test.YtpbjekdjebjbkaaGreatFk
import Derived.Test.YtpbjekdjebjbkaaGreatTg
set_option linter.unusedSimpArgs false
set_option linter.unusedVariables false
namespace Go.Proofs.YtpbjekdjebjbkaaGreat
open Go.RowKit

theorem cl50 : callable Tryz.prog 50 = true := by kernel_rfl
theorem cl51 : callable Tryz.prog 51 = true := by kernel_rfl
theorem fo52_1 : foO Tryz.prog 52 1 = some 1 := by kernel_rfl
theorem fo52_6 : foO Tryz.prog 52 6 = some 6 := by kernel_rfl
theorem at2_bw {bs : List (Ro Int)} {a b : Int} {x : Ro Int} {y : Int} (hx : bs[a.toNat]? = some x) (hy : x.l[b.toNat]? = some y) : at2 (bs.map Ro.l) a b = y := at2_is (r := (⟨none, 0, bs⟩ : Rd)) hx hy
set_option maxRecDepth 20000 in
set_option maxHeartbeats 4000000 in
theorem mirrored_s (g : Nat) (seed : ByteArray) (pp : Option Addr) (pc : Nat) (ps : List Pl) (sp : Option Addr) (sc sn : Nat) (tp : Option Addr) (tc tn : Nat) (vp : Option Addr) (vc vn : Nat) (bp : Option Addr) (bc bn : Nat) (pl gs : List Rd) (gp : Option Addr) (gc : Nat) (hG : GsOK ps.length pl gs) (hgl : gs.length ≤ 200) (hnp : ps.length ≤ 9) (me : Int) (h0m : 0 ≤ me) (pm : Pl) (hm : ps[me.toNat]? = some pm) (rt : Int) (hrt : pm.rt = rt) (hr0 : 0 ≤ rt ∧ rt ≤ 1000000)  (w : World) (HS : S w [Ob g (.cells #[.slice gp gs.length gc, .string seed, .slice pp ps.length pc, .slice sp sn sc, .slice tp tn tc, .slice vp vn vc, .slice bp bn bc] 52 (0, 0)), Rw 29 1 gp gs.length gc (fl rowL gs), Rw 33 2 pp ps.length pc (fl plL ps), (Pool pl)]) : Calls Tryz.prog 180 #[.agg #[], .pointer (some ⟨g, 0, none⟩), .int .i64 me] w fun e w' => ∃ p' c', e = .returned (.slice p' (mirV ps.length rt (gs.map Rd.v) me).length c') ∧ S w' ([Rw 3 1 p' (mirV ps.length rt (gs.map Rd.v) me).length c' (fl intL (mirV ps.length rt (gs.map Rd.v) me)), Ob g (.cells #[.slice gp gs.length gc, .string seed, .slice pp ps.length pc, .slice sp sn sc, .slice tp tn tc, .slice vp vn vc, .slice bp bn bc] 52 (0, 0)), Rw 29 1 gp gs.length gc (fl rowL gs), Rw 33 2 pp ps.length pc (fl plL ps), (Pool pl)] ++ [Old w (fps [Ob g (.cells #[.slice gp gs.length gc, .string seed, .slice pp ps.length pc, .slice sp sn sc, .slice tp tn tc, .slice vp vn vc, .slice bp bn bc] 52 (0, 0)), Rw 29 1 gp gs.length gc (fl rowL gs), Rw 33 2 pp ps.length pc (fl plL ps), (Pool pl)])]) := by
 have H0 := HS.beginI
 have hmp := (List.getElem?_eq_some_iff.1 hm).1
 refine enter 66 Tryz.func180 rfl rfl rfl ?_
 refine g_weak [(0, .agg #[]), (1, .pointer (some ⟨g, 0, none⟩)), (2, .int .i64 me)] ⟨rfl, rfl, rfl, trivial⟩ ?_
 refine w_s ?_
 refine l_of (s_box H0 (wt0 rfl) rfl rfl rfl rfl ?_)
 intro g1 wq2 H3
 refine w_a ?_
 refine w_e ?_
 refine g_seq ?_
 refine w_s ?_
 refine w_r4 ?_
 refine w_1 H3 1 ?_
 refine w_v (v := .int .i64 ((gs.length : Int))) (x_lenl rfl rfl Tryz.underlying47) ?_
 refine w_b ?_
 refine w_e ?_
 by_cases hb4 : ((gs.length : Int) : Int) = 0
 ·
  refine g_cond_t rfl (decide_eq_true hb4) ?_
  refine w_s ?_
  refine w_r4 ?_
  refine l_of (s_call (wt0 rfl) (x_call' rfl rfl cl49) (others_s g gp gc gs.length seed pp pc ps sp sc sn tp tc tn vp vc vn bp bc bn (by omega) me _ (H3.takes [1] (by decide))) ?_)
  rintro _ wq7 ⟨po5, co6, rfl, H8⟩
  replace H8 : S wq7 [Rw 3 1 po5 ((othV ps.length me).length) co6 (fl intL (othV ps.length me)), Ob g (.cells #[.slice gp gs.length gc, .string seed, .slice pp ps.length pc, .slice sp sn sc, .slice tp tn tc, .slice vp vn vc, .slice bp bn bc] 52 (0, 0)), Ob g1 (.cells #[] 80 (0, 0)), Rw 29 1 gp gs.length gc (fl rowL gs), Rw 33 2 pp ps.length pc (fl plL ps), (Pool pl), Old w (fps [Ob g (.cells #[.slice gp gs.length gc, .string seed, .slice pp ps.length pc, .slice sp sn sc, .slice tp tn tc, .slice vp vn vc, .slice bp bn bc] 52 (0, 0)), Rw 29 1 gp gs.length gc (fl rowL gs), Rw 33 2 pp ps.length pc (fl plL ps), (Pool pl)])] := by have h := H3.absorbI [1] H8; exact h
  have hol := othV_len ps.length me
  refine b_ret rfl rfl ?_
  refine l_of (s_call (wt0 rfl) (x_call' rfl rfl cl53) (evenly_s g gp gc gs.length seed pp pc ps sp sc sn tp tc tn vp vc vn bp bc bn (by omega) me h0m pm hm rt hrt hr0 (othV ps.length me) po5 co6 (fun x hx => (othV_mem.1 hx).1) (by omega) _ (H8.takes [0, 1, 4] (by decide))) ?_)
  rintro _ wq11 ⟨pe9, ce10, rfl, H12⟩
  replace H12 : S wq11 [Rw 3 1 pe9 ((evnV ps.length rt (othV ps.length me)).length) ce10 (fl intL (evnV ps.length rt (othV ps.length me))), Rw 3 1 po5 ((othV ps.length me).length) co6 (fl intL (othV ps.length me)), Ob g (.cells #[.slice gp gs.length gc, .string seed, .slice pp ps.length pc, .slice sp sn sc, .slice tp tn tc, .slice vp vn vc, .slice bp bn bc] 52 (0, 0)), Rw 33 2 pp ps.length pc (fl plL ps), Ob g1 (.cells #[] 80 (0, 0)), Rw 29 1 gp gs.length gc (fl rowL gs), (Pool pl), Old w (fps [Ob g (.cells #[.slice gp gs.length gc, .string seed, .slice pp ps.length pc, .slice sp sn sc, .slice tp tn tc, .slice vp vn vc, .slice bp bn bc] 52 (0, 0)), Rw 29 1 gp gs.length gc (fl rowL gs), Rw 33 2 pp ps.length pc (fl plL ps), (Pool pl)])] := by have h := H8.absorbI [0, 1, 4] H12; exact h
  refine b_ret rfl rfl ?_
  refine w_a ?_
  refine w_e ?_
  refine g_weak [(6, .slice pe9 ((evnV ps.length rt (othV ps.length me)).length) ce10)] ⟨rfl, trivial⟩ ?_
  refine g_ret ?_
  refine g_then_ret ?_
  refine fin_ret [.tmp 6] [.slice pe9 ((evnV ps.length rt (othV ps.length me)).length) ce10] rfl ⟨rfl, trivial⟩ ?_
  have hv : mirV ps.length rt (gs.map Rd.v) me = evnV ps.length rt (othV ps.length me) := by unfold mirV; rw [if_pos (by rw [List.length_map]; omega)]
  rw [hv]
  exact ⟨_, _, rfl, H12.takes [0, 2, 5, 3, 6, 7] (by decide)⟩
 ·
  refine g_cond_f rfl (decide_eq_false hb4) ?_
  refine g_skip ?_
  refine g_then ?_
  refine w_s ?_
  refine w_r3 ?_
  refine w_1 H3 1 ?_
  refine w_v (v := .int .i64 ((ps.length : Int))) (x_lenl rfl rfl Tryz.underlying22) ?_
  refine l_of (s_make1 ps.length H3 (wt0 rfl) rfl rfl rfl rfl rfl Tryz.underlying34 inf3 rfl (by omega) ?_)
  intro g13 wq14 H15
  replace H15 : S wq14 [Rw 3 1 (some ⟨g13, 0, none⟩ : Option Addr) ps.length ps.length (fl intL (List.replicate ps.length (0 : Int))), Ob g1 (.cells #[] 80 (0, 0)), Ob g (.cells #[.slice gp gs.length gc, .string seed, .slice pp ps.length pc, .slice sp sn sc, .slice tp tn tc, .slice vp vn vc, .slice bp bn bc] 52 (0, 0)), Rw 29 1 gp gs.length gc (fl rowL gs), Rw 33 2 pp ps.length pc (fl plL ps), (Pool pl), Old w (fps [Ob g (.cells #[.slice gp gs.length gc, .string seed, .slice pp ps.length pc, .slice sp sn sc, .slice tp tn tc, .slice vp vn vc, .slice bp bn bc] 52 (0, 0)), Rw 29 1 gp gs.length gc (fl rowL gs), Rw 33 2 pp ps.length pc (fl plL ps), (Pool pl)])] := S.obFl (l := (List.replicate ps.length (0 : Int))) intE H15 (k := 0) rfl (by rw [List.length_replicate]) (by unfold maxLen; omega) (zero_fl _)
  refine w_a ?_
  refine w_e ?_
  refine g_weak [(1, .pointer (some ⟨g, 0, none⟩)), (2, .int .i64 me), (7, .slice (some ⟨g13, 0, none⟩ : Option Addr) ps.length ps.length)] ⟨rfl, rfl, rfl, trivial⟩ ?_
  refine w_s ?_
  refine w_r3 ?_
  refine w_1 H15 2 ?_
  refine w_m ?_
  refine w_v (v := .pointer ((pp).map fun q => q.add (((me).toNat) * 2))) (x_idxR ((me).toNat) (H15.rwReads (k := 4) rfl) rfl rfl rfl Tryz.underlying22 sz33 (by omega)) ?_
  refine w_v (v := .pointer ((pp).map fun q => q.add (((me).toNat) * 2 + 1))) (ex_cast (x_fieldAddrG (m := ((me).toNat) * 2) ((H15.rwReads (k := 4) rfl).some (by omega)) rfl rfl fo33_1) rfl) ?_
  have hlq := (H15.rwReads (k := 4) rfl).lenL plE
  obtain ⟨x16, hx16⟩ := ex_at (l := ps) (j := ((me).toNat)) (by omega)
  clear hlq
  have hrx : x16.rt = rt := by rw [show x16 = pm from Option.some.inj (hx16.symm.trans hm)]; exact hrt
  refine w_v (v := .int .i64 rt) (ex_cast (x_loadF1 (i := 1) (j := ((me).toNat)) plE (H15.rwReads (k := 4) rfl) hx16 rfl rfl Tryz.underlying3 rfl rfl) (by rw [hrx])) ?_
  refine w_a ?_
  refine w_e ?_
  refine g_seq ?_
  refine w_s ?_
  refine w_r2 ?_
  refine l_of (s_call (wt0 rfl) (x_call' rfl rfl cl49) (others_s g gp gc gs.length seed pp pc ps sp sc sn tp tc tn vp vc vn bp bc bn (by omega) me _ (H15.takes [2] (by decide))) ?_)
  rintro _ wq19 ⟨po17, co18, rfl, H20⟩
  replace H20 : S wq19 [Rw 3 1 po17 ((othV ps.length me).length) co18 (fl intL (othV ps.length me)), Ob g (.cells #[.slice gp gs.length gc, .string seed, .slice pp ps.length pc, .slice sp sn sc, .slice tp tn tc, .slice vp vn vc, .slice bp bn bc] 52 (0, 0)), Rw 3 1 (some ⟨g13, 0, none⟩ : Option Addr) ps.length ps.length (fl intL (List.replicate ps.length (0 : Int))), Ob g1 (.cells #[] 80 (0, 0)), Rw 29 1 gp gs.length gc (fl rowL gs), Rw 33 2 pp ps.length pc (fl plL ps), (Pool pl), Old w (fps [Ob g (.cells #[.slice gp gs.length gc, .string seed, .slice pp ps.length pc, .slice sp sn sc, .slice tp tn tc, .slice vp vn vc, .slice bp bn bc] 52 (0, 0)), Rw 29 1 gp gs.length gc (fl rowL gs), Rw 33 2 pp ps.length pc (fl plL ps), (Pool pl)])] := by have h := H15.absorbI [2] H20; exact h
  have hol := othV_len ps.length me
  refine b_ret rfl rfl ?_
  refine w_v (v := .int .i64 (((othV ps.length me).length : Int))) (x_lenl rfl rfl Tryz.underlying34) ?_
  refine w_m ?_
  refine w_e ?_
  refine g_block ?_
  refine g_loop (ι := Nat × List Int × Int) (fun (i, o, lf) => [(1, .pointer (some ⟨g, 0, none⟩)), (2, .int .i64 me), (7, .slice (some ⟨g13, 0, none⟩ : Option Addr) ps.length ps.length), (8, .int .i64 lf), (40, .slice po17 ((othV ps.length me).length) co18), (41, .int .i64 (((othV ps.length me).length : Int))), (42, .int .i64 ((i : Int)))]) (fun (i, o, lf) wx => (i ≤ (othV ps.length me).length) ∧ ((o, lf) = mirF (fun i => lastV (gs.map Rd.v) i me) ps.length rt ((othV ps.length me).take i)) ∧ (o.length = ps.length) ∧ (0 ≤ lf ∧ lf ≤ rt) ∧ S wx [Rw 3 1 (some ⟨g13, 0, none⟩ : Option Addr) ps.length ps.length (fl intL o), Rw 3 1 po17 ((othV ps.length me).length) co18 (fl intL (othV ps.length me)), Ob g (.cells #[.slice gp gs.length gc, .string seed, .slice pp ps.length pc, .slice sp sn sc, .slice tp tn tc, .slice vp vn vc, .slice bp bn bc] 52 (0, 0)), Rw 29 1 gp gs.length gc (fl rowL gs), Rw 33 2 pp ps.length pc (fl plL ps), (Pool pl), Old w (fps [Ob g (.cells #[.slice gp gs.length gc, .string seed, .slice pp ps.length pc, .slice sp sn sc, .slice tp tn tc, .slice vp vn vc, .slice bp bn bc] 52 (0, 0)), Rw 29 1 gp gs.length gc (fl rowL gs), Rw 33 2 pp ps.length pc (fl plL ps), (Pool pl)])]) (fun (i, o, lf) => ((othV ps.length me).length) - i) (0, (List.replicate ps.length (0 : Int)), rt) ⟨rfl, rfl, rfl, rfl, rfl, rfl, rfl, trivial⟩ ⟨Nat.zero_le _, rfl, List.length_replicate, (by omega), (H20.takes [2, 0, 1, 4, 5, 6, 7] (by decide))⟩ ?_
  rintro ⟨i, o, lf⟩ wq21 ⟨hi, ho, hol, hlf, H22⟩
  refine g_weak [(1, .pointer (some ⟨g, 0, none⟩)), (2, .int .i64 me), (7, .slice (some ⟨g13, 0, none⟩ : Option Addr) ps.length ps.length), (8, .int .i64 lf), (40, .slice po17 ((othV ps.length me).length) co18), (41, .int .i64 (((othV ps.length me).length : Int))), (42, .int .i64 ((i : Int)))] ⟨rfl, rfl, rfl, rfl, rfl, rfl, rfl, trivial⟩ ?_
  refine w_s ?_
  refine w_b ?_
  refine w_e ?_
  refine g_seq ?_
  by_cases hb23 : ((i : Int) : Int) < ((othV ps.length me).length : Int)
  ·
   refine g_cond_t rfl (decide_eq_true hb23) ?_
   refine g_skip ?_
   refine g_then ?_
   refine g_seq ?_
   refine g_block ?_
   refine w_s ?_
   refine w_v (v := .pointer ((po17).map fun q => q.add (i * 1))) (x_idxR i (H22.rwReads (k := 1) rfl) rfl rfl rfl Tryz.underlying34 sz3 (by omega)) ?_
   have hlq := (H22.rwReads (k := 1) rfl).lenL intE
   obtain ⟨x24, hx24⟩ := ex_at (l := (othV ps.length me)) (j := i) (by omega)
   clear hlq
   have hx9 := othV_at hx24
   refine w_v (v := .int .i64 x24) (x_loadR1 i (H22.rwReads (k := 1) rfl) (by omega) rfl rfl Tryz.underlying3 rfl (intE.flAt1 hx24 rfl)) ?_
   refine w_a ?_
   refine w_e ?_
   refine w_s ?_
   refine w_r5 ?_
   refine w_v (v := .agg #[.slice gp gs.length gc]) (x_loadA H22 2 rfl rfl Tryz.underlying49 rfl sz49 rfl rfl rfl) ?_
   refine w_r2 ?_
   refine l_of (s_call (wt0 rfl) (x_call' rfl rfl cl45) (tlast_s ps.length pl gs gp gc hnp hG hgl x24 me hx9.1 ⟨h0m, by omega⟩ _ (H22.takes [3, 5] (by decide))) ?_)
   rintro _ wq26 ⟨rfl, H27⟩
   replace H27 : S wq26 [Rw 29 1 gp gs.length gc (fl rowL gs), (Pool pl), Rw 3 1 (some ⟨g13, 0, none⟩ : Option Addr) ps.length ps.length (fl intL o), Rw 3 1 po17 ((othV ps.length me).length) co18 (fl intL (othV ps.length me)), Ob g (.cells #[.slice gp gs.length gc, .string seed, .slice pp ps.length pc, .slice sp sn sc, .slice tp tn tc, .slice vp vn vc, .slice bp bn bc] 52 (0, 0)), Rw 33 2 pp ps.length pc (fl plL ps), Old w (fps [Ob g (.cells #[.slice gp gs.length gc, .string seed, .slice pp ps.length pc, .slice sp sn sc, .slice tp tn tc, .slice vp vn vc, .slice bp bn bc] 52 (0, 0)), Rw 29 1 gp gs.length gc (fl rowL gs), Rw 33 2 pp ps.length pc (fl plL ps), (Pool pl)])] := by have h := H22.absorbI [3, 5] H27; exact h
   have hlbq25 := lastV_bd hG x24 me
   refine b_ret rfl rfl ?_
   refine w_m ?_
   refine w_v (v := .int .i64 (min (lastV (gs.map Rd.v) x24 me) lf)) (x_min rfl rfl rfl) ?_
   refine w_v (v := .pointer (((some ⟨g13, 0, none⟩ : Option Addr)).map fun q => q.add (((x24).toNat) * 1))) (x_idxR ((x24).toNat) (H27.rwReads (k := 2) rfl) rfl rfl rfl Tryz.underlying34 sz3 (by omega)) ?_
   refine l_of (s_stoL (j := ((x24).toNat)) intE (min (lastV (gs.map Rd.v) x24 me) lf) H27 2 (wt0 rfl) rfl rfl rfl rfl rfl rfl sz3 (by omega) ?_)
   intro wq28 H29
   refine w_e ?_
   refine g_weak [(1, .pointer (some ⟨g, 0, none⟩)), (2, .int .i64 me), (7, .slice (some ⟨g13, 0, none⟩ : Option Addr) ps.length ps.length), (8, .int .i64 lf), (10, .int .i64 x24), (40, .slice po17 ((othV ps.length me).length) co18), (41, .int .i64 (((othV ps.length me).length : Int))), (42, .int .i64 ((i : Int)))] ⟨rfl, rfl, rfl, rfl, rfl, rfl, rfl, rfl, trivial⟩ ?_
   refine g_region ?_
   refine w_r3 ?_
   refine w_v (v := .pointer (((some ⟨g13, 0, none⟩ : Option Addr)).map fun q => q.add (((x24).toNat) * 1))) (x_idxR ((x24).toNat) (H29.rwReads (k := 2) rfl) rfl rfl rfl Tryz.underlying34 sz3 (by omega)) ?_
   refine w_v (v := .int .i64 ((min (lastV (gs.map Rd.v) x24 me) lf))) (x_loadR1 ((x24).toNat) (H29.rwReads (k := 2) rfl) (by omega) rfl rfl Tryz.underlying3 rfl (intE.flAt1 (List.getElem?_set_self (by omega)) rfl)) ?_
   refine w_b (v := .int .i64 (lf - (min (lastV (gs.map Rd.v) x24 me) lf))) (hb := (b_sub (w64 (by omega)))) ?_
   refine w_a ?_
   refine g_nil ?_
   refine g_in ?_
   refine g_then ?_
   refine g_region ?_
   refine w_b (v := .int .i64 (((i + 1 : Nat) : Int))) (hb := (b_add (by rw [w64 (by omega)]; omega))) ?_
   refine w_m ?_
   refine w_e ?_
   refine g_round (i := (i, o, lf)) ((i + 1), (o.set x24.toNat (min (lastV (gs.map Rd.v) x24 me) lf)), (lf - (min (lastV (gs.map Rd.v) x24 me) lf))) ?_ ?_ ?_
   · exact ⟨rfl, rfl, rfl, rfl, rfl, rfl, rfl, trivial⟩
   · exact ⟨by omega, (by rw [take_snocT hx24, mirF_snoc, ← ho]; rfl), (by rw [List.length_set]; exact hol), (by omega), (H29.takes [2, 3, 4, 0, 5, 1, 6] (by decide))⟩
   · (try dsimp only); omega
  ·
   refine g_cond_f rfl (decide_eq_false hb23) ?_
   refine g_exit ?_
   refine g_then_exit ?_
   refine g_then_exit ?_
   refine g_in_hit ?_
   refine g_then ?_
   refine w_s ?_
   refine w_r2 ?_
   refine w_e ?_
   refine g_ret ?_
   refine fin_ret [.tmp 6] [.slice (some ⟨g13, 0, none⟩ : Option Addr) ps.length ps.length] rfl ⟨rfl, trivial⟩ ?_
   rw [List.take_of_length_le (by omega)] at ho
   have hv : mirV ps.length rt (gs.map Rd.v) me = o := by unfold mirV; rw [if_neg (by rw [List.length_map]; omega), ← ho]
   rw [hv, hol]
   exact ⟨_, _, rfl, H22.takes [0, 2, 3, 4, 5, 6] (by decide)⟩
set_option maxRecDepth 20000 in
set_option maxHeartbeats 4000000 in
theorem fairly_s (g : Nat) (seed : ByteArray) (pp : Option Addr) (pc : Nat) (ps : List Pl) (sp : Option Addr) (sc sn : Nat) (tp : Option Addr) (tc tn : Nat) (vp : Option Addr) (vc vn : Nat) (bp : Option Addr) (bc bn : Nat) (pl gs : List Rd) (gp : Option Addr) (gc : Nat) (hG : GsOK ps.length pl gs) (hgl : gs.length ≤ 200) (hnp : ps.length ≤ 9) (me : Int) (h0m : 0 ≤ me) (pm : Pl) (hm : ps[me.toNat]? = some pm) (rt : Int) (hrt : pm.rt = rt) (hr0 : 0 ≤ rt ∧ rt ≤ 1000000) (bs : List (Ro Int)) (hbl : bs.length = ps.length) (hbw : ∀ x ∈ bs, x.l.length = ps.length) (hsd : seed.size ≤ 100)  (w : World) (HS : S w [Ob g (.cells #[.slice gp gs.length gc, .string seed, .slice pp ps.length pc, .slice sp sn sc, .slice tp tn tc, .slice vp vn vc, .slice bp bs.length bc] 52 (0, 0)), Rw 29 1 gp gs.length gc (fl rowL gs), Rw 33 2 pp ps.length pc (fl plL ps), (Pool pl), Rw 34 1 bp bs.length bc (fl rowL bs), (Lst BwI bs)]) : Calls Tryz.prog 48 #[.agg #[], .pointer (some ⟨g, 0, none⟩), .int .i64 me] w fun e w' => ∃ p' c', e = .returned (.slice p' (fairV seed ps.length rt (gs.map Rd.v) (bs.map Ro.l) me).length c') ∧ S w' ([Rw 3 1 p' (fairV seed ps.length rt (gs.map Rd.v) (bs.map Ro.l) me).length c' (fl intL (fairV seed ps.length rt (gs.map Rd.v) (bs.map Ro.l) me)), Ob g (.cells #[.slice gp gs.length gc, .string seed, .slice pp ps.length pc, .slice sp sn sc, .slice tp tn tc, .slice vp vn vc, .slice bp bs.length bc] 52 (0, 0)), Rw 29 1 gp gs.length gc (fl rowL gs), Rw 33 2 pp ps.length pc (fl plL ps), (Pool pl), Rw 34 1 bp bs.length bc (fl rowL bs), (Lst BwI bs)] ++ [Old w (fps [Ob g (.cells #[.slice gp gs.length gc, .string seed, .slice pp ps.length pc, .slice sp sn sc, .slice tp tn tc, .slice vp vn vc, .slice bp bs.length bc] 52 (0, 0)), Rw 29 1 gp gs.length gc (fl rowL gs), Rw 33 2 pp ps.length pc (fl plL ps), (Pool pl), Rw 34 1 bp bs.length bc (fl rowL bs), (Lst BwI bs)])]) := by
 have H0 := HS.beginI
 have hmp := (List.getElem?_eq_some_iff.1 hm).1
 have hs1 : (seed ++ (⟨#[32]⟩ : ByteArray)).size = seed.size + 1 := by rw [ByteArray.size_append]; rfl
 refine enter 81 Tryz.func48 rfl rfl rfl ?_
 refine g_weak [(0, .agg #[]), (1, .pointer (some ⟨g, 0, none⟩)), (2, .int .i64 me)] ⟨rfl, rfl, rfl, trivial⟩ ?_
 refine w_s ?_
 refine l_of (s_box H0 (wt0 rfl) rfl rfl rfl rfl ?_)
 intro g1 wq2 H3
 refine w_a ?_
 refine w_e ?_
 refine w_s ?_
 have H4 : S wq2 [Rw 102 10 none 0 0 (fl rvL ([] : List Rv)), Ob g1 (.cells #[] 70 (0, 0)), Ob g (.cells #[.slice gp gs.length gc, .string seed, .slice pp ps.length pc, .slice sp sn sc, .slice tp tn tc, .slice vp vn vc, .slice bp bs.length bc] 52 (0, 0)), Rw 29 1 gp gs.length gc (fl rowL gs), Rw 33 2 pp ps.length pc (fl plL ps), (Pool pl), Rw 34 1 bp bs.length bc (fl rowL bs), (Lst BwI bs), Old w (fps [Ob g (.cells #[.slice gp gs.length gc, .string seed, .slice pp ps.length pc, .slice sp sn sc, .slice tp tn tc, .slice vp vn vc, .slice bp bs.length bc] 52 (0, 0)), Rw 29 1 gp gs.length gc (fl rowL gs), Rw 33 2 pp ps.length pc (fl plL ps), (Pool pl), Rw 34 1 bp bs.length bc (fl rowL bs), (Lst BwI bs)])] := H3.nilFl 102 10 rvL
 refine w_a ?_
 refine w_e ?_
 refine g_seq ?_
 refine w_s ?_
 refine w_r2 ?_
 refine l_of (s_call (wt0 rfl) (x_call' rfl rfl cl49) (others_s g gp gc gs.length seed pp pc ps sp sc sn tp tc tn vp vc vn bp bc bs.length (by omega) me _ (H4.takes [2] (by decide))) ?_)
 rintro _ wq7 ⟨po5, co6, rfl, H8⟩
 replace H8 : S wq7 [Rw 3 1 po5 ((othV ps.length me).length) co6 (fl intL (othV ps.length me)), Ob g (.cells #[.slice gp gs.length gc, .string seed, .slice pp ps.length pc, .slice sp sn sc, .slice tp tn tc, .slice vp vn vc, .slice bp bs.length bc] 52 (0, 0)), Rw 102 10 none 0 0 (fl rvL ([] : List Rv)), Ob g1 (.cells #[] 70 (0, 0)), Rw 29 1 gp gs.length gc (fl rowL gs), Rw 33 2 pp ps.length pc (fl plL ps), (Pool pl), Rw 34 1 bp bs.length bc (fl rowL bs), (Lst BwI bs), Old w (fps [Ob g (.cells #[.slice gp gs.length gc, .string seed, .slice pp ps.length pc, .slice sp sn sc, .slice tp tn tc, .slice vp vn vc, .slice bp bs.length bc] 52 (0, 0)), Rw 29 1 gp gs.length gc (fl rowL gs), Rw 33 2 pp ps.length pc (fl plL ps), (Pool pl), Rw 34 1 bp bs.length bc (fl rowL bs), (Lst BwI bs)])] := by have h := H4.absorbI [2] H8; exact h
 have hol := othV_len ps.length me
 refine b_ret rfl rfl ?_
 refine w_v (v := .int .i64 (((othV ps.length me).length : Int))) (x_lenl rfl rfl Tryz.underlying34) ?_
 refine w_m ?_
 refine w_e ?_
 refine g_block ?_
 refine g_loop (ι := Nat × Option Addr × Nat × List Rv) (fun (i, pq, cq, rl) => [(1, .pointer (some ⟨g, 0, none⟩)), (2, .int .i64 me), (7, .slice pq rl.length cq), (14, .slice po5 ((othV ps.length me).length) co6), (15, .int .i64 (((othV ps.length me).length : Int))), (16, .int .i64 ((i : Int)))]) (fun (i, pq, cq, rl) wx => (i ≤ (othV ps.length me).length) ∧ (rl = ((othV ps.length me).take i).map (rvOf (gs.map Rd.v) (bs.map Ro.l) me)) ∧ S wx [Rw 102 10 pq rl.length cq (fl rvL rl), Rw 3 1 po5 ((othV ps.length me).length) co6 (fl intL (othV ps.length me)), Ob g (.cells #[.slice gp gs.length gc, .string seed, .slice pp ps.length pc, .slice sp sn sc, .slice tp tn tc, .slice vp vn vc, .slice bp bs.length bc] 52 (0, 0)), Rw 29 1 gp gs.length gc (fl rowL gs), Rw 33 2 pp ps.length pc (fl plL ps), (Pool pl), Rw 34 1 bp bs.length bc (fl rowL bs), (Lst BwI bs), Old w (fps [Ob g (.cells #[.slice gp gs.length gc, .string seed, .slice pp ps.length pc, .slice sp sn sc, .slice tp tn tc, .slice vp vn vc, .slice bp bs.length bc] 52 (0, 0)), Rw 29 1 gp gs.length gc (fl rowL gs), Rw 33 2 pp ps.length pc (fl plL ps), (Pool pl), Rw 34 1 bp bs.length bc (fl rowL bs), (Lst BwI bs)])]) (fun (i, pq, cq, rl) => ((othV ps.length me).length) - i) (0, none, 0, []) ⟨rfl, rfl, rfl, rfl, rfl, rfl, trivial⟩ ⟨Nat.zero_le _, rfl, (H8.takes [2, 0, 1, 4, 5, 6, 7, 8, 9] (by decide))⟩ ?_
 rintro ⟨i, pq, cq, rl⟩ wq9 ⟨hi, hrl, H10⟩
 refine g_weak [(1, .pointer (some ⟨g, 0, none⟩)), (2, .int .i64 me), (7, .slice pq rl.length cq), (14, .slice po5 ((othV ps.length me).length) co6), (15, .int .i64 (((othV ps.length me).length : Int))), (16, .int .i64 ((i : Int)))] ⟨rfl, rfl, rfl, rfl, rfl, rfl, trivial⟩ ?_
 have hrll : rl.length ≤ i := by rw [hrl, List.length_map, List.length_take]; omega
 refine w_s ?_
 refine w_b ?_
 refine w_e ?_
 refine g_seq ?_
 by_cases hb11 : ((i : Int) : Int) < ((othV ps.length me).length : Int)
 ·
  refine g_cond_t rfl (decide_eq_true hb11) ?_
  refine g_skip ?_
  refine g_then ?_
  refine g_seq ?_
  refine g_block ?_
  refine w_s ?_
  refine w_v (v := .pointer ((po5).map fun q => q.add (i * 1))) (x_idxR i (H10.rwReads (k := 1) rfl) rfl rfl rfl Tryz.underlying34 sz3 (by omega)) ?_
  have hlq := (H10.rwReads (k := 1) rfl).lenL intE
  obtain ⟨x12, hx12⟩ := ex_at (l := (othV ps.length me)) (j := i) (by omega)
  clear hlq
  have hx9 := othV_at hx12
  refine w_v (v := .int .i64 x12) (x_loadR1 i (H10.rwReads (k := 1) rfl) (by omega) rfl rfl Tryz.underlying3 rfl (intE.flAt1 hx12 rfl)) ?_
  refine w_a ?_
  refine w_e ?_
  refine g_seq ?_
  refine g_cut (ι := Nat) (fun rb => [(1, .pointer (some ⟨g, 0, none⟩)), (2, .int .i64 me), (7, .slice pq rl.length cq), (9, .int .i64 x12), (10, .pointer (some ⟨rb, 0, none⟩)), (14, .slice po5 ((othV ps.length me).length) co6), (15, .int .i64 (((othV ps.length me).length : Int))), (16, .int .i64 ((i : Int)))]) (fun rb wx => S wx [Ob rb (.cells #[.int .i64 x12, .bool true, .bool false, .int .i64 ((lastV (gs.map Rd.v) x12 me)), .int .i64 ((lastV (gs.map Rd.v) me x12)), .int .i64 0, .int .i64 0, .bool ((snubV (gs.map Rd.v) me x12)), .bool false, .bool false] 102 (0, 0)), Rw 102 10 pq rl.length cq (fl rvL rl), Rw 3 1 po5 ((othV ps.length me).length) co6 (fl intL (othV ps.length me)), Ob g (.cells #[.slice gp gs.length gc, .string seed, .slice pp ps.length pc, .slice sp sn sc, .slice tp tn tc, .slice vp vn vc, .slice bp bs.length bc] 52 (0, 0)), Rw 29 1 gp gs.length gc (fl rowL gs), Rw 33 2 pp ps.length pc (fl plL ps), (Pool pl), Rw 34 1 bp bs.length bc (fl rowL bs), (Lst BwI bs), Old w (fps [Ob g (.cells #[.slice gp gs.length gc, .string seed, .slice pp ps.length pc, .slice sp sn sc, .slice tp tn tc, .slice vp vn vc, .slice bp bs.length bc] 52 (0, 0)), Rw 29 1 gp gs.length gc (fl rowL gs), Rw 33 2 pp ps.length pc (fl plL ps), (Pool pl), Rw 34 1 bp bs.length bc (fl rowL bs), (Lst BwI bs)])]) ?_ ?_
  ·
   refine g_anyY [] (fun wx => S wx [Ob g (.cells #[.slice gp gs.length gc, .string seed, .slice pp ps.length pc, .slice sp sn sc, .slice tp tn tc, .slice vp vn vc, .slice bp bs.length bc] 52 (0, 0))]) (fun wx => S wx [Ob g (.cells #[.slice gp gs.length gc, .string seed, .slice pp ps.length pc, .slice sp sn sc, .slice tp tn tc, .slice vp vn vc, .slice bp bs.length bc] 52 (0, 0))]) [] (by kernel_rfl) H10 (fun wq13 H14 => ?_)
   refine w_y 0 rfl (wt0 rfl) rfl rfl rfl (by kernel_rfl) (fun _ => x_move rfl rfl) ?_
   refine w_y 1 rfl (wt0 rfl) rfl rfl rfl (by kernel_rfl) (fun _ => x_move rfl rfl) ?_
   refine w_y 2 rfl (wt0 rfl) rfl rfl rfl (by kernel_rfl) (fun _ => x_nilCheck rfl rfl) ?_
   refine w_y 3 rfl (wt0 rfl) rfl rfl rfl (by kernel_rfl) (fun _ => x_fieldAddr (off' := 0) rfl rfl fo52_0 rfl) ?_
   have cm1 := H14.mask [false, false, true, false, false, false, false, false, false]
   refine y_take (v := .agg #[.slice gp gs.length gc]) 4 rfl (wt0 rfl) rfl rfl rfl (by kernel_rfl) (by kernel_rfl) (by kernel_rfl) (by kernel_rfl) (by kernel_rfl) cm1 (fun wx H => x_loadA H 0 rfl rfl Tryz.underlying49 rfl sz49 rfl rfl rfl) ?_
   refine w_y 5 rfl (wt0 rfl) rfl rfl rfl (by kernel_rfl) (fun _ => x_move rfl rfl) ?_
   refine w_y 6 rfl (wt0 rfl) rfl rfl rfl (by kernel_rfl) (fun _ => x_move rfl rfl) ?_
   refine w_y 8 rfl (wt0 rfl) rfl rfl rfl (by kernel_rfl) (fun _ => x_move rfl rfl) ?_
   refine w_y 9 rfl (wt0 rfl) rfl rfl rfl (by kernel_rfl) (fun _ => x_nilCheck rfl rfl) ?_
   refine w_y 10 rfl (wt0 rfl) rfl rfl rfl (by kernel_rfl) (fun _ => x_fieldAddr (off' := 0) rfl rfl fo52_0 rfl) ?_
   refine y_take (v := .agg #[.slice gp gs.length gc]) 11 rfl (wt0 rfl) rfl rfl rfl (by kernel_rfl) (by kernel_rfl) (by kernel_rfl) (by kernel_rfl) (by kernel_rfl) cm1 (fun wx H => x_loadA H 0 rfl rfl Tryz.underlying49 rfl sz49 rfl rfl rfl) ?_
   refine w_y 12 rfl (wt0 rfl) rfl rfl rfl (by kernel_rfl) (fun _ => x_move rfl rfl) ?_
   refine w_y 13 rfl (wt0 rfl) rfl rfl rfl (by kernel_rfl) (fun _ => x_move rfl rfl) ?_
   refine w_y 15 rfl (wt0 rfl) rfl rfl rfl (by kernel_rfl) (fun _ => x_move rfl rfl) ?_
   refine w_y 16 rfl (wt0 rfl) rfl rfl rfl (by kernel_rfl) (fun _ => x_move rfl rfl) ?_
   refine w_y 17 rfl (wt0 rfl) rfl rfl rfl (by kernel_rfl) (fun _ => x_move rfl rfl) ?_
   refine y_two (i := 7) (j := 20) (by kernel_rfl) rfl rfl ?_ ?_
   ·
    refine s_call (wt0 rfl) (x_call' rfl rfl cl45) (tlast_s ps.length pl gs gp gc hnp hG hgl x12 me hx9.1 ⟨h0m, by omega⟩ _ (H14.takes [3, 5] (by decide))) ?_
    rintro _ wq16 ⟨rfl, H17⟩
    replace H17 : S wq16 [Rw 29 1 gp gs.length gc (fl rowL gs), (Pool pl), Rw 102 10 pq rl.length cq (fl rvL rl), Rw 3 1 po5 ((othV ps.length me).length) co6 (fl intL (othV ps.length me)), Ob g (.cells #[.slice gp gs.length gc, .string seed, .slice pp ps.length pc, .slice sp sn sc, .slice tp tn tc, .slice vp vn vc, .slice bp bs.length bc] 52 (0, 0)), Rw 33 2 pp ps.length pc (fl plL ps), Rw 34 1 bp bs.length bc (fl rowL bs), (Lst BwI bs), Old w (fps [Ob g (.cells #[.slice gp gs.length gc, .string seed, .slice pp ps.length pc, .slice sp sn sc, .slice tp tn tc, .slice vp vn vc, .slice bp bs.length bc] 52 (0, 0)), Rw 29 1 gp gs.length gc (fl rowL gs), Rw 33 2 pp ps.length pc (fl plL ps), (Pool pl), Rw 34 1 bp bs.length bc (fl rowL bs), (Lst BwI bs)])] := by have h := H14.absorbI [3, 5] H17; exact h
    have hlbq15 := lastV_bd hG x12 me
    refine b_ret rfl rfl ?_
    have cm2 := H17.mask [false, false, false, false, true, false, false, false, false]
    refine y_k cm2 cm2 ?_
    refine y_two (i := 14) (j := 20) (by kernel_rfl) rfl rfl ?_ ?_
    ·
     refine s_call (wt0 rfl) (x_call' rfl rfl cl45) (tlast_s ps.length pl gs gp gc hnp hG hgl me x12 ⟨h0m, by omega⟩ hx9.1 _ (H17.takes [0, 1] (by decide))) ?_
     rintro _ wq19 ⟨rfl, H20⟩
     replace H20 : S wq19 [Rw 29 1 gp gs.length gc (fl rowL gs), (Pool pl), Rw 102 10 pq rl.length cq (fl rvL rl), Rw 3 1 po5 ((othV ps.length me).length) co6 (fl intL (othV ps.length me)), Ob g (.cells #[.slice gp gs.length gc, .string seed, .slice pp ps.length pc, .slice sp sn sc, .slice tp tn tc, .slice vp vn vc, .slice bp bs.length bc] 52 (0, 0)), Rw 33 2 pp ps.length pc (fl plL ps), Rw 34 1 bp bs.length bc (fl rowL bs), (Lst BwI bs), Old w (fps [Ob g (.cells #[.slice gp gs.length gc, .string seed, .slice pp ps.length pc, .slice sp sn sc, .slice tp tn tc, .slice vp vn vc, .slice bp bs.length bc] 52 (0, 0)), Rw 29 1 gp gs.length gc (fl rowL gs), Rw 33 2 pp ps.length pc (fl plL ps), (Pool pl), Rw 34 1 bp bs.length bc (fl rowL bs), (Lst BwI bs)])] := by have h := H17.absorbI [0, 1] H20; exact h
     have hlbq18 := lastV_bd hG me x12
     refine b_ret rfl rfl ?_
     have cm3 := H20.mask [false, false, false, false, true, false, false, false, false]
     refine y_k cm3 cm3 ?_
     refine y_two (i := 18) (j := 20) (by kernel_rfl) rfl rfl ?_ ?_
     ·
      refine s_call (wt0 rfl) (x_call' rfl rfl cl50) (tsnub_s ps.length pl gs gp gc hnp hG hgl me x12 ⟨h0m, by omega⟩ hx9.1 g seed pp pc ps sp sc sn tp tc tn vp vc vn bp bc bs.length _ (H20.takes [4, 0, 1] (by decide))) ?_
      rintro _ wq21 ⟨rfl, H22⟩
      replace H22 : S wq21 [Ob g (.cells #[.slice gp gs.length gc, .string seed, .slice pp ps.length pc, .slice sp sn sc, .slice tp tn tc, .slice vp vn vc, .slice bp bs.length bc] 52 (0, 0)), Rw 29 1 gp gs.length gc (fl rowL gs), (Pool pl), Rw 102 10 pq rl.length cq (fl rvL rl), Rw 3 1 po5 ((othV ps.length me).length) co6 (fl intL (othV ps.length me)), Rw 33 2 pp ps.length pc (fl plL ps), Rw 34 1 bp bs.length bc (fl rowL bs), (Lst BwI bs), Old w (fps [Ob g (.cells #[.slice gp gs.length gc, .string seed, .slice pp ps.length pc, .slice sp sn sc, .slice tp tn tc, .slice vp vn vc, .slice bp bs.length bc] 52 (0, 0)), Rw 29 1 gp gs.length gc (fl rowL gs), Rw 33 2 pp ps.length pc (fl plL ps), (Pool pl), Rw 34 1 bp bs.length bc (fl rowL bs), (Lst BwI bs)])] := by have h := H20.absorbI [4, 0, 1] H22; exact h
      refine b_ret rfl rfl ?_
      have cm4 := H22.mask [true, false, false, false, false, false, false, false, false]
      refine y_k cm4 cm4 ?_
      refine w_y (v := .agg #[.int .i64 x12, .bool true, .bool false, .int .i64 ((lastV (gs.map Rd.v) x12 me)), .int .i64 ((lastV (gs.map Rd.v) me x12)), .int .i64 0, .int .i64 0, .bool ((snubV (gs.map Rd.v) me x12)), .bool false, .bool false]) 19 rfl (wt0 rfl) rfl rfl rfl (by kernel_rfl) (fun _ => x_build (vs := [.int .i64 x12, .bool true, .int .i64 ((lastV (gs.map Rd.v) x12 me)), .int .i64 ((lastV (gs.map Rd.v) me x12)), .bool ((snubV (gs.map Rd.v) me x12))]) rfl rfl (cells := #[.int .i64 x12, .bool true, .bool false, .int .i64 ((lastV (gs.map Rd.v) x12 me)), .int .i64 ((lastV (gs.map Rd.v) me x12)), .int .i64 0, .int .i64 0, .bool ((snubV (gs.map Rd.v) me x12)), .bool false, .bool false]) (by kernel_rfl)) ?_
      refine y_one (i := 20) (by kernel_rfl) rfl ?_
      refine s_alloc H22 (wt0 rfl) rfl rfl rfl ze102 ?_
      intro g23 wq24 H25
      have cm5 := H25.mask [false, true, false, false, false, false, false, false, false, false]
      refine y_k cm5 cm5 ?_
      refine y_one (i := 21) (by kernel_rfl) rfl ?_
      refine w_st #[.int .i64 x12, .bool true, .bool false, .int .i64 ((lastV (gs.map Rd.v) x12 me)), .int .i64 ((lastV (gs.map Rd.v) me x12)), .int .i64 0, .int .i64 0, .bool ((snubV (gs.map Rd.v) me x12)), .bool false, .bool false] H25 0 ?_
      intro wq26 H27
      have cm6 := H27.mask [false, true, false, false, false, false, false, false, false, false]
      refine y_k cm6 cm6 ?_
      refine y_done (by kernel_rfl) ?_
      refine g_then ?_
      refine g_mid (g23) ?_ ?_
      · exact ⟨rfl, rfl, rfl, rfl, rfl, rfl, rfl, rfl, trivial⟩
      · exact (H27.takes [0, 4, 5, 1, 2, 6, 3, 7, 8, 9] (by decide))
     ·
      refine s_alloc H20 (wt0 rfl) rfl rfl rfl ze102 ?_
      intro g28 wq29 H30
      have cm7 := H30.mask [false, false, false, false, false, true, false, false, false, false]
      refine y_k cm7 cm7 ?_
      refine y_one (i := 18) (by kernel_rfl) rfl ?_
      refine s_call (wt0 rfl) (x_call' rfl rfl cl50) (tsnub_s ps.length pl gs gp gc hnp hG hgl me x12 ⟨h0m, by omega⟩ hx9.1 g seed pp pc ps sp sc sn tp tc tn vp vc vn bp bc bs.length _ (H30.takes [5, 1, 2] (by decide))) ?_
      rintro _ wq31 ⟨rfl, H32⟩
      replace H32 : S wq31 [Ob g (.cells #[.slice gp gs.length gc, .string seed, .slice pp ps.length pc, .slice sp sn sc, .slice tp tn tc, .slice vp vn vc, .slice bp bs.length bc] 52 (0, 0)), Rw 29 1 gp gs.length gc (fl rowL gs), (Pool pl), Ob g28 (.cells #[.int .i64 0, .bool false, .bool false, .int .i64 0, .int .i64 0, .int .i64 0, .int .i64 0, .bool false, .bool false, .bool false] 102 (0, 0)), Rw 102 10 pq rl.length cq (fl rvL rl), Rw 3 1 po5 ((othV ps.length me).length) co6 (fl intL (othV ps.length me)), Rw 33 2 pp ps.length pc (fl plL ps), Rw 34 1 bp bs.length bc (fl rowL bs), (Lst BwI bs), Old w (fps [Ob g (.cells #[.slice gp gs.length gc, .string seed, .slice pp ps.length pc, .slice sp sn sc, .slice tp tn tc, .slice vp vn vc, .slice bp bs.length bc] 52 (0, 0)), Rw 29 1 gp gs.length gc (fl rowL gs), Rw 33 2 pp ps.length pc (fl plL ps), (Pool pl), Rw 34 1 bp bs.length bc (fl rowL bs), (Lst BwI bs)])] := by have h := H30.absorbI [5, 1, 2] H32; exact h
      refine b_ret rfl rfl ?_
      have cm8 := H32.mask [true, false, false, false, false, false, false, false, false, false]
      refine y_k cm8 cm8 ?_
      refine w_y (v := .agg #[.int .i64 x12, .bool true, .bool false, .int .i64 ((lastV (gs.map Rd.v) x12 me)), .int .i64 ((lastV (gs.map Rd.v) me x12)), .int .i64 0, .int .i64 0, .bool ((snubV (gs.map Rd.v) me x12)), .bool false, .bool false]) 19 rfl (wt0 rfl) rfl rfl rfl (by kernel_rfl) (fun _ => x_build (vs := [.int .i64 x12, .bool true, .int .i64 ((lastV (gs.map Rd.v) x12 me)), .int .i64 ((lastV (gs.map Rd.v) me x12)), .bool ((snubV (gs.map Rd.v) me x12))]) rfl rfl (cells := #[.int .i64 x12, .bool true, .bool false, .int .i64 ((lastV (gs.map Rd.v) x12 me)), .int .i64 ((lastV (gs.map Rd.v) me x12)), .int .i64 0, .int .i64 0, .bool ((snubV (gs.map Rd.v) me x12)), .bool false, .bool false]) (by kernel_rfl)) ?_
      refine y_one (i := 21) (by kernel_rfl) rfl ?_
      refine w_st #[.int .i64 x12, .bool true, .bool false, .int .i64 ((lastV (gs.map Rd.v) x12 me)), .int .i64 ((lastV (gs.map Rd.v) me x12)), .int .i64 0, .int .i64 0, .bool ((snubV (gs.map Rd.v) me x12)), .bool false, .bool false] H32 3 ?_
      intro wq33 H34
      have cm9 := H34.mask [true, false, false, false, false, false, false, false, false, false]
      refine y_k cm9 cm9 ?_
      refine y_done (by kernel_rfl) ?_
      refine g_then ?_
      refine g_mid (g28) ?_ ?_
      · exact ⟨rfl, rfl, rfl, rfl, rfl, rfl, rfl, rfl, trivial⟩
      · exact (H34.takes [3, 4, 5, 0, 1, 6, 2, 7, 8, 9] (by decide))
    ·
     refine s_alloc H17 (wt0 rfl) rfl rfl rfl ze102 ?_
     intro g35 wq36 H37
     have cm10 := H37.mask [false, false, false, false, false, true, false, false, false, false]
     refine y_k cm10 cm10 ?_
     refine y_one (i := 14) (by kernel_rfl) rfl ?_
     refine s_call (wt0 rfl) (x_call' rfl rfl cl45) (tlast_s ps.length pl gs gp gc hnp hG hgl me x12 ⟨h0m, by omega⟩ hx9.1 _ (H37.takes [1, 2] (by decide))) ?_
     rintro _ wq39 ⟨rfl, H40⟩
     replace H40 : S wq39 [Rw 29 1 gp gs.length gc (fl rowL gs), (Pool pl), Ob g35 (.cells #[.int .i64 0, .bool false, .bool false, .int .i64 0, .int .i64 0, .int .i64 0, .int .i64 0, .bool false, .bool false, .bool false] 102 (0, 0)), Rw 102 10 pq rl.length cq (fl rvL rl), Rw 3 1 po5 ((othV ps.length me).length) co6 (fl intL (othV ps.length me)), Ob g (.cells #[.slice gp gs.length gc, .string seed, .slice pp ps.length pc, .slice sp sn sc, .slice tp tn tc, .slice vp vn vc, .slice bp bs.length bc] 52 (0, 0)), Rw 33 2 pp ps.length pc (fl plL ps), Rw 34 1 bp bs.length bc (fl rowL bs), (Lst BwI bs), Old w (fps [Ob g (.cells #[.slice gp gs.length gc, .string seed, .slice pp ps.length pc, .slice sp sn sc, .slice tp tn tc, .slice vp vn vc, .slice bp bs.length bc] 52 (0, 0)), Rw 29 1 gp gs.length gc (fl rowL gs), Rw 33 2 pp ps.length pc (fl plL ps), (Pool pl), Rw 34 1 bp bs.length bc (fl rowL bs), (Lst BwI bs)])] := by have h := H37.absorbI [1, 2] H40; exact h
     have hlbq38 := lastV_bd hG me x12
     refine b_ret rfl rfl ?_
     have cm11 := H40.mask [false, false, false, false, false, true, false, false, false, false]
     refine y_k cm11 cm11 ?_
     refine y_one (i := 18) (by kernel_rfl) rfl ?_
     refine s_call (wt0 rfl) (x_call' rfl rfl cl50) (tsnub_s ps.length pl gs gp gc hnp hG hgl me x12 ⟨h0m, by omega⟩ hx9.1 g seed pp pc ps sp sc sn tp tc tn vp vc vn bp bc bs.length _ (H40.takes [5, 0, 1] (by decide))) ?_
     rintro _ wq41 ⟨rfl, H42⟩
     replace H42 : S wq41 [Ob g (.cells #[.slice gp gs.length gc, .string seed, .slice pp ps.length pc, .slice sp sn sc, .slice tp tn tc, .slice vp vn vc, .slice bp bs.length bc] 52 (0, 0)), Rw 29 1 gp gs.length gc (fl rowL gs), (Pool pl), Ob g35 (.cells #[.int .i64 0, .bool false, .bool false, .int .i64 0, .int .i64 0, .int .i64 0, .int .i64 0, .bool false, .bool false, .bool false] 102 (0, 0)), Rw 102 10 pq rl.length cq (fl rvL rl), Rw 3 1 po5 ((othV ps.length me).length) co6 (fl intL (othV ps.length me)), Rw 33 2 pp ps.length pc (fl plL ps), Rw 34 1 bp bs.length bc (fl rowL bs), (Lst BwI bs), Old w (fps [Ob g (.cells #[.slice gp gs.length gc, .string seed, .slice pp ps.length pc, .slice sp sn sc, .slice tp tn tc, .slice vp vn vc, .slice bp bs.length bc] 52 (0, 0)), Rw 29 1 gp gs.length gc (fl rowL gs), Rw 33 2 pp ps.length pc (fl plL ps), (Pool pl), Rw 34 1 bp bs.length bc (fl rowL bs), (Lst BwI bs)])] := by have h := H40.absorbI [5, 0, 1] H42; exact h
     refine b_ret rfl rfl ?_
     have cm12 := H42.mask [true, false, false, false, false, false, false, false, false, false]
     refine y_k cm12 cm12 ?_
     refine w_y (v := .agg #[.int .i64 x12, .bool true, .bool false, .int .i64 ((lastV (gs.map Rd.v) x12 me)), .int .i64 ((lastV (gs.map Rd.v) me x12)), .int .i64 0, .int .i64 0, .bool ((snubV (gs.map Rd.v) me x12)), .bool false, .bool false]) 19 rfl (wt0 rfl) rfl rfl rfl (by kernel_rfl) (fun _ => x_build (vs := [.int .i64 x12, .bool true, .int .i64 ((lastV (gs.map Rd.v) x12 me)), .int .i64 ((lastV (gs.map Rd.v) me x12)), .bool ((snubV (gs.map Rd.v) me x12))]) rfl rfl (cells := #[.int .i64 x12, .bool true, .bool false, .int .i64 ((lastV (gs.map Rd.v) x12 me)), .int .i64 ((lastV (gs.map Rd.v) me x12)), .int .i64 0, .int .i64 0, .bool ((snubV (gs.map Rd.v) me x12)), .bool false, .bool false]) (by kernel_rfl)) ?_
     refine y_one (i := 21) (by kernel_rfl) rfl ?_
     refine w_st #[.int .i64 x12, .bool true, .bool false, .int .i64 ((lastV (gs.map Rd.v) x12 me)), .int .i64 ((lastV (gs.map Rd.v) me x12)), .int .i64 0, .int .i64 0, .bool ((snubV (gs.map Rd.v) me x12)), .bool false, .bool false] H42 3 ?_
     intro wq43 H44
     have cm13 := H44.mask [true, false, false, false, false, false, false, false, false, false]
     refine y_k cm13 cm13 ?_
     refine y_done (by kernel_rfl) ?_
     refine g_then ?_
     refine g_mid (g35) ?_ ?_
     · exact ⟨rfl, rfl, rfl, rfl, rfl, rfl, rfl, rfl, trivial⟩
     · exact (H44.takes [3, 4, 5, 0, 1, 6, 2, 7, 8, 9] (by decide))
   ·
    refine s_alloc H14 (wt0 rfl) rfl rfl rfl ze102 ?_
    intro g45 wq46 H47
    have cm14 := H47.mask [false, false, false, true, false, false, false, false, false, false]
    refine y_k cm14 cm14 ?_
    refine y_one (i := 7) (by kernel_rfl) rfl ?_
    refine s_call (wt0 rfl) (x_call' rfl rfl cl45) (tlast_s ps.length pl gs gp gc hnp hG hgl x12 me hx9.1 ⟨h0m, by omega⟩ _ (H47.takes [4, 6] (by decide))) ?_
    rintro _ wq49 ⟨rfl, H50⟩
    replace H50 : S wq49 [Rw 29 1 gp gs.length gc (fl rowL gs), (Pool pl), Ob g45 (.cells #[.int .i64 0, .bool false, .bool false, .int .i64 0, .int .i64 0, .int .i64 0, .int .i64 0, .bool false, .bool false, .bool false] 102 (0, 0)), Rw 102 10 pq rl.length cq (fl rvL rl), Rw 3 1 po5 ((othV ps.length me).length) co6 (fl intL (othV ps.length me)), Ob g (.cells #[.slice gp gs.length gc, .string seed, .slice pp ps.length pc, .slice sp sn sc, .slice tp tn tc, .slice vp vn vc, .slice bp bs.length bc] 52 (0, 0)), Rw 33 2 pp ps.length pc (fl plL ps), Rw 34 1 bp bs.length bc (fl rowL bs), (Lst BwI bs), Old w (fps [Ob g (.cells #[.slice gp gs.length gc, .string seed, .slice pp ps.length pc, .slice sp sn sc, .slice tp tn tc, .slice vp vn vc, .slice bp bs.length bc] 52 (0, 0)), Rw 29 1 gp gs.length gc (fl rowL gs), Rw 33 2 pp ps.length pc (fl plL ps), (Pool pl), Rw 34 1 bp bs.length bc (fl rowL bs), (Lst BwI bs)])] := by have h := H47.absorbI [4, 6] H50; exact h
    have hlbq48 := lastV_bd hG x12 me
    refine b_ret rfl rfl ?_
    have cm15 := H50.mask [false, false, false, false, false, true, false, false, false, false]
    refine y_k cm15 cm15 ?_
    refine y_one (i := 14) (by kernel_rfl) rfl ?_
    refine s_call (wt0 rfl) (x_call' rfl rfl cl45) (tlast_s ps.length pl gs gp gc hnp hG hgl me x12 ⟨h0m, by omega⟩ hx9.1 _ (H50.takes [0, 1] (by decide))) ?_
    rintro _ wq52 ⟨rfl, H53⟩
    replace H53 : S wq52 [Rw 29 1 gp gs.length gc (fl rowL gs), (Pool pl), Ob g45 (.cells #[.int .i64 0, .bool false, .bool false, .int .i64 0, .int .i64 0, .int .i64 0, .int .i64 0, .bool false, .bool false, .bool false] 102 (0, 0)), Rw 102 10 pq rl.length cq (fl rvL rl), Rw 3 1 po5 ((othV ps.length me).length) co6 (fl intL (othV ps.length me)), Ob g (.cells #[.slice gp gs.length gc, .string seed, .slice pp ps.length pc, .slice sp sn sc, .slice tp tn tc, .slice vp vn vc, .slice bp bs.length bc] 52 (0, 0)), Rw 33 2 pp ps.length pc (fl plL ps), Rw 34 1 bp bs.length bc (fl rowL bs), (Lst BwI bs), Old w (fps [Ob g (.cells #[.slice gp gs.length gc, .string seed, .slice pp ps.length pc, .slice sp sn sc, .slice tp tn tc, .slice vp vn vc, .slice bp bs.length bc] 52 (0, 0)), Rw 29 1 gp gs.length gc (fl rowL gs), Rw 33 2 pp ps.length pc (fl plL ps), (Pool pl), Rw 34 1 bp bs.length bc (fl rowL bs), (Lst BwI bs)])] := by have h := H50.absorbI [0, 1] H53; exact h
    have hlbq51 := lastV_bd hG me x12
    refine b_ret rfl rfl ?_
    have cm16 := H53.mask [false, false, false, false, false, true, false, false, false, false]
    refine y_k cm16 cm16 ?_
    refine y_one (i := 18) (by kernel_rfl) rfl ?_
    refine s_call (wt0 rfl) (x_call' rfl rfl cl50) (tsnub_s ps.length pl gs gp gc hnp hG hgl me x12 ⟨h0m, by omega⟩ hx9.1 g seed pp pc ps sp sc sn tp tc tn vp vc vn bp bc bs.length _ (H53.takes [5, 0, 1] (by decide))) ?_
    rintro _ wq54 ⟨rfl, H55⟩
    replace H55 : S wq54 [Ob g (.cells #[.slice gp gs.length gc, .string seed, .slice pp ps.length pc, .slice sp sn sc, .slice tp tn tc, .slice vp vn vc, .slice bp bs.length bc] 52 (0, 0)), Rw 29 1 gp gs.length gc (fl rowL gs), (Pool pl), Ob g45 (.cells #[.int .i64 0, .bool false, .bool false, .int .i64 0, .int .i64 0, .int .i64 0, .int .i64 0, .bool false, .bool false, .bool false] 102 (0, 0)), Rw 102 10 pq rl.length cq (fl rvL rl), Rw 3 1 po5 ((othV ps.length me).length) co6 (fl intL (othV ps.length me)), Rw 33 2 pp ps.length pc (fl plL ps), Rw 34 1 bp bs.length bc (fl rowL bs), (Lst BwI bs), Old w (fps [Ob g (.cells #[.slice gp gs.length gc, .string seed, .slice pp ps.length pc, .slice sp sn sc, .slice tp tn tc, .slice vp vn vc, .slice bp bs.length bc] 52 (0, 0)), Rw 29 1 gp gs.length gc (fl rowL gs), Rw 33 2 pp ps.length pc (fl plL ps), (Pool pl), Rw 34 1 bp bs.length bc (fl rowL bs), (Lst BwI bs)])] := by have h := H53.absorbI [5, 0, 1] H55; exact h
    refine b_ret rfl rfl ?_
    have cm17 := H55.mask [true, false, false, false, false, false, false, false, false, false]
    refine y_k cm17 cm17 ?_
    refine w_y (v := .agg #[.int .i64 x12, .bool true, .bool false, .int .i64 ((lastV (gs.map Rd.v) x12 me)), .int .i64 ((lastV (gs.map Rd.v) me x12)), .int .i64 0, .int .i64 0, .bool ((snubV (gs.map Rd.v) me x12)), .bool false, .bool false]) 19 rfl (wt0 rfl) rfl rfl rfl (by kernel_rfl) (fun _ => x_build (vs := [.int .i64 x12, .bool true, .int .i64 ((lastV (gs.map Rd.v) x12 me)), .int .i64 ((lastV (gs.map Rd.v) me x12)), .bool ((snubV (gs.map Rd.v) me x12))]) rfl rfl (cells := #[.int .i64 x12, .bool true, .bool false, .int .i64 ((lastV (gs.map Rd.v) x12 me)), .int .i64 ((lastV (gs.map Rd.v) me x12)), .int .i64 0, .int .i64 0, .bool ((snubV (gs.map Rd.v) me x12)), .bool false, .bool false]) (by kernel_rfl)) ?_
    refine y_one (i := 21) (by kernel_rfl) rfl ?_
    refine w_st #[.int .i64 x12, .bool true, .bool false, .int .i64 ((lastV (gs.map Rd.v) x12 me)), .int .i64 ((lastV (gs.map Rd.v) me x12)), .int .i64 0, .int .i64 0, .bool ((snubV (gs.map Rd.v) me x12)), .bool false, .bool false] H55 3 ?_
    intro wq56 H57
    have cm18 := H57.mask [true, false, false, false, false, false, false, false, false, false]
    refine y_k cm18 cm18 ?_
    refine y_done (by kernel_rfl) ?_
    refine g_then ?_
    refine g_mid (g45) ?_ ?_
    · exact ⟨rfl, rfl, rfl, rfl, rfl, rfl, rfl, rfl, trivial⟩
    · exact (H57.takes [3, 4, 5, 0, 1, 6, 2, 7, 8, 9] (by decide))
  rintro rb wq58 H59
  refine g_weak [(1, .pointer (some ⟨g, 0, none⟩)), (2, .int .i64 me), (7, .slice pq rl.length cq), (9, .int .i64 x12), (10, .pointer (some ⟨rb, 0, none⟩)), (14, .slice po5 ((othV ps.length me).length) co6), (15, .int .i64 (((othV ps.length me).length : Int))), (16, .int .i64 ((i : Int)))] ⟨rfl, rfl, rfl, rfl, rfl, rfl, rfl, rfl, trivial⟩ ?_
  refine g_seq ?_
  refine w_s ?_
  refine w_f 3 ?_
  refine w_1 H59 0 ?_
  refine w_b ?_
  refine w_f 2 ?_
  refine l_of (w_st #[.int .i64 x12, .bool true, .bool (decide (((lastV (gs.map Rd.v) x12 me) : Int) = 0)), .int .i64 ((lastV (gs.map Rd.v) x12 me)), .int .i64 ((lastV (gs.map Rd.v) me x12)), .int .i64 0, .int .i64 0, .bool ((snubV (gs.map Rd.v) me x12)), .bool false, .bool false] H59 0 ?_)
  intro wq60 H61
  refine w_e ?_
  refine w_s ?_
  refine w_r3 ?_
  refine w_1 H61 3 ?_
  refine w_m ?_
  refine w_v (v := .pointer ((bp).map fun q => q.add (((me).toNat) * 1))) (x_idxR ((me).toNat) (H61.rwReads (k := 7) rfl) rfl rfl rfl Tryz.underlying29 sz34 (by omega)) ?_
  have hlq := (H61.rwReads (k := 7) rfl).lenL rowE
  obtain ⟨x62, hx62⟩ := ex_at (l := bs) (j := ((me).toNat)) (by omega)
  clear hlq
  have hblx62 := hbw x62 (List.mem_of_getElem? hx62)
  refine w_v (v := .slice x62.p x62.l.length x62.c) (x_loadR1 ((me).toNat) (H61.rwReads (k := 7) rfl) (by omega) rfl rfl Tryz.underlying34 rfl (rowE.flAt1 hx62 rfl)) ?_
  refine w_m ?_
  refine w_v (v := .pointer ((x62.p).map fun q => q.add (((x12).toNat) * 1))) (x_idxR ((x12).toNat) (H61.bwRd (k := 8) rfl hx62) rfl rfl rfl Tryz.underlying34 sz3 (by omega)) ?_
  have hlq := (H61.bwRd (k := 8) rfl hx62).lenL intE
  obtain ⟨x63, hx63⟩ := ex_at (l := x62.l) (j := ((x12).toNat)) (by omega)
  clear hlq
  refine w_v (v := .int .i64 ((at2 (bs.map Ro.l) me x12))) (ex_cast (x_loadR1 ((x12).toNat) (H61.bwRd (k := 8) rfl hx62) (by omega) rfl rfl Tryz.underlying3 rfl (intE.flAt1 hx63 rfl)) (by rw [at2_bw hx62 hx63])) ?_
  refine w_b ?_
  refine w_e ?_
  refine g_weak [(1, .pointer (some ⟨g, 0, none⟩)), (2, .int .i64 me), (7, .slice pq rl.length cq), (10, .pointer (some ⟨rb, 0, none⟩)), (14, .slice po5 ((othV ps.length me).length) co6), (15, .int .i64 (((othV ps.length me).length : Int))), (16, .int .i64 ((i : Int))), (54, .bool (decide (((at2 (bs.map Ro.l) me x12) : Int) = 0)))] ⟨rfl, rfl, rfl, rfl, rfl, rfl, rfl, rfl, trivial⟩ ?_
  by_cases hb64 : ((at2 (bs.map Ro.l) me x12) : Int) = 0
  ·
   refine g_cond_t rfl (decide_eq_true hb64) ?_
   refine g_region ?_
   refine w_f 5 ?_
   refine l_of (w_st #[.int .i64 x12, .bool true, .bool (decide (((lastV (gs.map Rd.v) x12 me) : Int) = 0)), .int .i64 ((lastV (gs.map Rd.v) x12 me)), .int .i64 ((lastV (gs.map Rd.v) me x12)), .int .i64 (-1), .int .i64 0, .bool ((snubV (gs.map Rd.v) me x12)), .bool false, .bool false] H61 0 ?_)
   intro wq65 H66
   refine w_e ?_
   refine g_region ?_
   refine w_m ?_
   refine w_v (v := .agg #[.int .i64 x12, .bool true, .bool (decide (((lastV (gs.map Rd.v) x12 me) : Int) = 0)), .int .i64 ((lastV (gs.map Rd.v) x12 me)), .int .i64 ((lastV (gs.map Rd.v) me x12)), .int .i64 (-1), .int .i64 0, .bool ((snubV (gs.map Rd.v) me x12)), .bool false, .bool false]) (x_loadA H66 0 rfl rfl Tryz.underlying102 rfl sz102 rfl rfl rfl) ?_
   refine l_of (s_buildSlice H66 (wt0 rfl) rfl rfl rfl (vs := [.agg #[.int .i64 x12, .bool true, .bool (decide (((lastV (gs.map Rd.v) x12 me) : Int) = 0)), .int .i64 ((lastV (gs.map Rd.v) x12 me)), .int .i64 ((lastV (gs.map Rd.v) me x12)), .int .i64 (-1), .int .i64 0, .bool ((snubV (gs.map Rd.v) me x12)), .bool false, .bool false]]) rfl Tryz.underlying98 sz102 ze102 rfl rfl (cells := #[.int .i64 x12, .bool true, .bool (decide (((lastV (gs.map Rd.v) x12 me) : Int) = 0)), .int .i64 ((lastV (gs.map Rd.v) x12 me)), .int .i64 ((lastV (gs.map Rd.v) me x12)), .int .i64 (-1), .int .i64 0, .bool ((snubV (gs.map Rd.v) me x12)), .bool false, .bool false]) (by kernel_rfl) ?_)
   intro g67 wq68 H69
   have hln74a := (H69.rwReads (k := 2) rfl).lenL rvE
   have hln74 : (rl ++ [(⟨x12, true, decide (((lastV (gs.map Rd.v) x12 me) : Int) = 0), (lastV (gs.map Rd.v) x12 me), (lastV (gs.map Rd.v) me x12), -1, 0, (snubV (gs.map Rd.v) me x12), false, false⟩ : Rv)]).length = rl.length + 1 := by simp only [List.length_append, List.length_cons, List.length_nil] <;> omega
   refine l_of (s_appBn (m := 1) (l := rl) (l2 := [(⟨x12, true, decide (((lastV (gs.map Rd.v) x12 me) : Int) = 0), (lastV (gs.map Rd.v) x12 me), (lastV (gs.map Rd.v) me x12), -1, 0, (snubV (gs.map Rd.v) me x12), false, false⟩ : Rv)]) rvE H69 2 (j0 := 0) rfl rfl ⟨rfl, Nat.le_refl _⟩ (wt0 rfl) rfl rfl rfl rfl rfl rfl Tryz.underlying98 inf102 rfl (by decide) (by omega) ?_)
   intro p70 c71 wq72 H73
   refine w_a ?_
   refine g_nil ?_
   refine g_in ?_
   refine g_then ?_
   refine g_region ?_
   refine w_b (v := .int .i64 (((i + 1 : Nat) : Int))) (hb := (b_add (by rw [w64 (by omega)]; omega))) ?_
   refine w_m ?_
   refine w_e ?_
   have he9 : (rvOf (gs.map Rd.v) (bs.map Ro.l) me) x12 = (⟨x12, true, decide (((lastV (gs.map Rd.v) x12 me) : Int) = 0), (lastV (gs.map Rd.v) x12 me), (lastV (gs.map Rd.v) me x12), -1, 0, (snubV (gs.map Rd.v) me x12), false, false⟩ : Rv) := by unfold rvOf; rw [if_pos hb64]
   refine g_round (i := (i, pq, cq, rl)) ((i + 1), p70, c71, (rl ++ [(⟨x12, true, decide (((lastV (gs.map Rd.v) x12 me) : Int) = 0), (lastV (gs.map Rd.v) x12 me), (lastV (gs.map Rd.v) me x12), -1, 0, (snubV (gs.map Rd.v) me x12), false, false⟩ : Rv)])) ?_ ?_ ?_
   · exact ⟨rfl, rfl, rfl, rfl, rfl, rfl, trivial⟩
   · exact ⟨by omega, (by rw [take_snocT hx12, List.map_append, ← hrl]; show _ = rl ++ [(rvOf (gs.map Rd.v) (bs.map Ro.l) me) x12]; rw [he9]), (H73.takes [2, 3, 4, 5, 6, 7, 8, 9, 10] (by decide))⟩
   · (try dsimp only); omega
  ·
   refine g_cond_f rfl (decide_eq_false hb64) ?_
   refine g_skip ?_
   refine g_then ?_
   refine g_region ?_
   refine w_m ?_
   refine w_v (v := .agg #[.int .i64 x12, .bool true, .bool (decide (((lastV (gs.map Rd.v) x12 me) : Int) = 0)), .int .i64 ((lastV (gs.map Rd.v) x12 me)), .int .i64 ((lastV (gs.map Rd.v) me x12)), .int .i64 0, .int .i64 0, .bool ((snubV (gs.map Rd.v) me x12)), .bool false, .bool false]) (x_loadA H61 0 rfl rfl Tryz.underlying102 rfl sz102 rfl rfl rfl) ?_
   refine l_of (s_buildSlice H61 (wt0 rfl) rfl rfl rfl (vs := [.agg #[.int .i64 x12, .bool true, .bool (decide (((lastV (gs.map Rd.v) x12 me) : Int) = 0)), .int .i64 ((lastV (gs.map Rd.v) x12 me)), .int .i64 ((lastV (gs.map Rd.v) me x12)), .int .i64 0, .int .i64 0, .bool ((snubV (gs.map Rd.v) me x12)), .bool false, .bool false]]) rfl Tryz.underlying98 sz102 ze102 rfl rfl (cells := #[.int .i64 x12, .bool true, .bool (decide (((lastV (gs.map Rd.v) x12 me) : Int) = 0)), .int .i64 ((lastV (gs.map Rd.v) x12 me)), .int .i64 ((lastV (gs.map Rd.v) me x12)), .int .i64 0, .int .i64 0, .bool ((snubV (gs.map Rd.v) me x12)), .bool false, .bool false]) (by kernel_rfl) ?_)
   intro g75 wq76 H77
   have hln82a := (H77.rwReads (k := 2) rfl).lenL rvE
   have hln82 : (rl ++ [(⟨x12, true, decide (((lastV (gs.map Rd.v) x12 me) : Int) = 0), (lastV (gs.map Rd.v) x12 me), (lastV (gs.map Rd.v) me x12), 0, 0, (snubV (gs.map Rd.v) me x12), false, false⟩ : Rv)]).length = rl.length + 1 := by simp only [List.length_append, List.length_cons, List.length_nil] <;> omega
   refine l_of (s_appBn (m := 1) (l := rl) (l2 := [(⟨x12, true, decide (((lastV (gs.map Rd.v) x12 me) : Int) = 0), (lastV (gs.map Rd.v) x12 me), (lastV (gs.map Rd.v) me x12), 0, 0, (snubV (gs.map Rd.v) me x12), false, false⟩ : Rv)]) rvE H77 2 (j0 := 0) rfl rfl ⟨rfl, Nat.le_refl _⟩ (wt0 rfl) rfl rfl rfl rfl rfl rfl Tryz.underlying98 inf102 rfl (by decide) (by omega) ?_)
   intro p78 c79 wq80 H81
   refine w_a ?_
   refine g_nil ?_
   refine g_in ?_
   refine g_then ?_
   refine g_region ?_
   refine w_b (v := .int .i64 (((i + 1 : Nat) : Int))) (hb := (b_add (by rw [w64 (by omega)]; omega))) ?_
   refine w_m ?_
   refine w_e ?_
   have he9 : (rvOf (gs.map Rd.v) (bs.map Ro.l) me) x12 = (⟨x12, true, decide (((lastV (gs.map Rd.v) x12 me) : Int) = 0), (lastV (gs.map Rd.v) x12 me), (lastV (gs.map Rd.v) me x12), 0, 0, (snubV (gs.map Rd.v) me x12), false, false⟩ : Rv) := by unfold rvOf; rw [if_neg hb64]
   refine g_round (i := (i, pq, cq, rl)) ((i + 1), p78, c79, (rl ++ [(⟨x12, true, decide (((lastV (gs.map Rd.v) x12 me) : Int) = 0), (lastV (gs.map Rd.v) x12 me), (lastV (gs.map Rd.v) me x12), 0, 0, (snubV (gs.map Rd.v) me x12), false, false⟩ : Rv)])) ?_ ?_ ?_
   · exact ⟨rfl, rfl, rfl, rfl, rfl, rfl, trivial⟩
   · exact ⟨by omega, (by rw [take_snocT hx12, List.map_append, ← hrl]; show _ = rl ++ [(rvOf (gs.map Rd.v) (bs.map Ro.l) me) x12]; rw [he9]), (H81.takes [2, 3, 4, 5, 6, 7, 8, 9, 10] (by decide))⟩
   · (try dsimp only); omega
 ·
  refine g_cond_f rfl (decide_eq_false hb11) ?_
  refine g_exit ?_
  refine g_then_exit ?_
  refine g_then_exit ?_
  refine g_in_hit ?_
  refine g_then ?_
  refine g_seq ?_
  refine g_anyY [] (fun wx => S wx [Ob g (.cells #[.slice gp gs.length gc, .string seed, .slice pp ps.length pc, .slice sp sn sc, .slice tp tn tc, .slice vp vn vc, .slice bp bs.length bc] 52 (0, 0))]) (fun wx => S wx [Ob g (.cells #[.slice gp gs.length gc, .string seed, .slice pp ps.length pc, .slice sp sn sc, .slice tp tn tc, .slice vp vn vc, .slice bp bs.length bc] 52 (0, 0))]) [] (by kernel_rfl) H10 (fun wq83 H84 => ?_)
  refine w_y 0 rfl (wt0 rfl) rfl rfl rfl (by kernel_rfl) (fun _ => x_move rfl rfl) ?_
  refine w_y 1 rfl (wt0 rfl) rfl rfl rfl (by kernel_rfl) (fun _ => x_nilCheck rfl rfl) ?_
  refine w_y 2 rfl (wt0 rfl) rfl rfl rfl (by kernel_rfl) (fun _ => x_fieldAddr (off' := 0) rfl rfl fo52_0 rfl) ?_
  refine w_y 3 rfl (wt0 rfl) rfl rfl rfl (by kernel_rfl) (fun _ => x_fieldAddr (off' := 0) rfl rfl fo49_0 rfl) ?_
  have cm19 := H84.mask [false, false, true, false, false, false, false, false, false]
  refine y_take (v := .slice gp gs.length gc) 4 rfl (wt0 rfl) rfl rfl rfl (by kernel_rfl) (by kernel_rfl) (by kernel_rfl) (by kernel_rfl) (by kernel_rfl) cm19 (fun wx H => x_load1 H 0 rfl rfl Tryz.underlying47 rfl rfl rfl) ?_
  refine w_y (v := .int .i64 ((gs.length : Int))) 5 rfl (wt0 rfl) rfl rfl rfl (by kernel_rfl) (fun _ => x_lenl rfl rfl Tryz.underlying47) ?_
  refine w_y 6 rfl (wt0 rfl) rfl rfl rfl (by kernel_rfl) (fun _ => x_move rfl rfl) ?_
  refine w_y 7 rfl (wt0 rfl) rfl rfl rfl (by kernel_rfl) (fun _ => x_nilCheck rfl rfl) ?_
  refine w_y 8 rfl (wt0 rfl) rfl rfl rfl (by kernel_rfl) (fun _ => x_fieldAddr (off' := 1) rfl rfl fo52_1 rfl) ?_
  refine y_take (v := .string seed) 9 rfl (wt0 rfl) rfl rfl rfl (by kernel_rfl) (by kernel_rfl) (by kernel_rfl) (by kernel_rfl) (by kernel_rfl) cm19 (fun wx H => x_load1 H 0 rfl rfl Tryz.underlying9 rfl rfl rfl) ?_
  have hsz85 : (seed ++ (⟨#[32]⟩ : ByteArray)).size = seed.size + (⟨#[32]⟩ : ByteArray).size := ByteArray.size_append
  refine w_y (v := .string (seed ++ (⟨#[32]⟩ : ByteArray))) 10 rfl (wt0 rfl) rfl rfl rfl (by kernel_rfl) (fun _ => x_bin rfl rfl rfl (b_cat (by omega))) ?_
  refine w_y 11 rfl (wt0 rfl) rfl rfl rfl (by kernel_rfl) (fun _ => x_move rfl rfl) ?_
  refine w_y 14 rfl (wt0 rfl) rfl rfl rfl (by kernel_rfl) (fun _ => x_move rfl rfl) ?_
  refine y_one (i := 12) (by kernel_rfl) rfl ?_
  refine s_call (wt0 rfl) (x_call' rfl rfl cl52) (itoa_s me (by omega) (by omega) _ trivial) ?_
  rintro _ wq86 ⟨rfl, H87⟩
  replace H87 : S wq86 [Rw 102 10 pq rl.length cq (fl rvL rl), Rw 3 1 po5 ((othV ps.length me).length) co6 (fl intL (othV ps.length me)), Ob g (.cells #[.slice gp gs.length gc, .string seed, .slice pp ps.length pc, .slice sp sn sc, .slice tp tn tc, .slice vp vn vc, .slice bp bs.length bc] 52 (0, 0)), Rw 29 1 gp gs.length gc (fl rowL gs), Rw 33 2 pp ps.length pc (fl plL ps), (Pool pl), Rw 34 1 bp bs.length bc (fl rowL bs), (Lst BwI bs), Old w (fps [Ob g (.cells #[.slice gp gs.length gc, .string seed, .slice pp ps.length pc, .slice sp sn sc, .slice tp tn tc, .slice vp vn vc, .slice bp bs.length bc] 52 (0, 0)), Rw 29 1 gp gs.length gc (fl rowL gs), Rw 33 2 pp ps.length pc (fl plL ps), (Pool pl), Rw 34 1 bp bs.length bc (fl rowL bs), (Lst BwI bs)])] := H84.absorb (new := []) H87
  have hits := itS_size (n := me) (by omega) (by omega)
  have hs2 : ((seed ++ (⟨#[32]⟩ : ByteArray)) ++ itS me).size = seed.size + 1 + (itS me).size := by rw [ByteArray.size_append, hs1]
  refine b_ret rfl rfl ?_
  have cm20 := H87.mask [false, false, true, false, false, false, false, false, false]
  refine y_k cm20 cm20 ?_
  have hsz88 : ((seed ++ (⟨#[32]⟩ : ByteArray)) ++ (itS me)).size = (seed ++ (⟨#[32]⟩ : ByteArray)).size + (itS me).size := ByteArray.size_append
  refine w_y (v := .string ((seed ++ (⟨#[32]⟩ : ByteArray)) ++ (itS me))) 13 rfl (wt0 rfl) rfl rfl rfl (by kernel_rfl) (fun _ => x_bin rfl rfl rfl (b_cat (by omega))) ?_
  refine y_one (i := 15) (by kernel_rfl) rfl ?_
  have hrv9 : rl = rivL ps.length (gs.map Rd.v) (bs.map Ro.l) me := by rw [hrl, List.take_of_length_le (by omega)]; rfl
  refine s_call (wt0 rfl) (x_call' rfl rfl cl51) (decided1_s (gs.length : Int) 4 ((seed ++ (⟨#[32]⟩ : ByteArray)) ++ (itS me)) rl pq rl.length cq (by omega) (fun x hx => rivL_valid hG hnp (hrv9 ▸ hx)) (by omega) (by omega) (by omega) _ (H87.rwReads (k := 0) rfl) trivial) ?_
  rintro _ wq91 ⟨pd89, cd90, rfl, H92⟩
  replace H92 : S wq91 [Rw 3 1 pd89 ((ids1 (gs.length : Int) 4 ((seed ++ (⟨#[32]⟩ : ByteArray)) ++ (itS me)) rl).length) cd90 (fl intL (ids1 (gs.length : Int) 4 ((seed ++ (⟨#[32]⟩ : ByteArray)) ++ (itS me)) rl)), Rw 102 10 pq rl.length cq (fl rvL rl), Rw 3 1 po5 ((othV ps.length me).length) co6 (fl intL (othV ps.length me)), Ob g (.cells #[.slice gp gs.length gc, .string seed, .slice pp ps.length pc, .slice sp sn sc, .slice tp tn tc, .slice vp vn vc, .slice bp bs.length bc] 52 (0, 0)), Rw 29 1 gp gs.length gc (fl rowL gs), Rw 33 2 pp ps.length pc (fl plL ps), (Pool pl), Rw 34 1 bp bs.length bc (fl rowL bs), (Lst BwI bs), Old w (fps [Ob g (.cells #[.slice gp gs.length gc, .string seed, .slice pp ps.length pc, .slice sp sn sc, .slice tp tn tc, .slice vp vn vc, .slice bp bs.length bc] 52 (0, 0)), Rw 29 1 gp gs.length gc (fl rowL gs), Rw 33 2 pp ps.length pc (fl plL ps), (Pool pl), Rw 34 1 bp bs.length bc (fl rowL bs), (Lst BwI bs)])] := by have h := H87.absorb H92; exact h
  refine b_ret rfl rfl ?_
  have cm21 := H92.mask [false, false, false, true, false, false, false, false, false, false]
  refine y_k cm21 cm21 ?_
  refine w_y 16 rfl (wt0 rfl) rfl rfl rfl (by kernel_rfl) (fun _ => x_assign rfl rfl) ?_
  refine y_done (by kernel_rfl) ?_
  refine g_then ?_
  refine g_weak [(1, .pointer (some ⟨g, 0, none⟩)), (2, .int .i64 me), (11, .slice pd89 ((ids1 (gs.length : Int) 4 ((seed ++ (⟨#[32]⟩ : ByteArray)) ++ (itS me)) rl).length) cd90)] ⟨rfl, rfl, rfl, trivial⟩ ?_
  refine w_s ?_
  refine w_r3 ?_
  refine l_of (s_call (wt0 rfl) (x_call' rfl rfl cl53) (evenly_s g gp gc gs.length seed pp pc ps sp sc sn tp tc tn vp vc vn bp bc bs.length (by omega) me h0m pm hm rt hrt hr0 (ids1 (gs.length : Int) 4 ((seed ++ (⟨#[32]⟩ : ByteArray)) ++ (itS me)) rl) pd89 cd90 (fun x hx => (fair_ids (hrv9 ▸ hx)).1) (by have h8 := ids1_len (gs.length : Int) 4 ((seed ++ (⟨#[32]⟩ : ByteArray)) ++ (itS me)) rl; omega) _ (H92.takes [0, 3, 5] (by decide))) ?_)
  rintro _ wq95 ⟨pe93, ce94, rfl, H96⟩
  replace H96 : S wq95 [Rw 3 1 pe93 ((evnV ps.length rt (ids1 (gs.length : Int) 4 ((seed ++ (⟨#[32]⟩ : ByteArray)) ++ (itS me)) rl)).length) ce94 (fl intL (evnV ps.length rt (ids1 (gs.length : Int) 4 ((seed ++ (⟨#[32]⟩ : ByteArray)) ++ (itS me)) rl))), Rw 3 1 pd89 ((ids1 (gs.length : Int) 4 ((seed ++ (⟨#[32]⟩ : ByteArray)) ++ (itS me)) rl).length) cd90 (fl intL (ids1 (gs.length : Int) 4 ((seed ++ (⟨#[32]⟩ : ByteArray)) ++ (itS me)) rl)), Ob g (.cells #[.slice gp gs.length gc, .string seed, .slice pp ps.length pc, .slice sp sn sc, .slice tp tn tc, .slice vp vn vc, .slice bp bs.length bc] 52 (0, 0)), Rw 33 2 pp ps.length pc (fl plL ps), Rw 102 10 pq rl.length cq (fl rvL rl), Rw 3 1 po5 ((othV ps.length me).length) co6 (fl intL (othV ps.length me)), Rw 29 1 gp gs.length gc (fl rowL gs), (Pool pl), Rw 34 1 bp bs.length bc (fl rowL bs), (Lst BwI bs), Old w (fps [Ob g (.cells #[.slice gp gs.length gc, .string seed, .slice pp ps.length pc, .slice sp sn sc, .slice tp tn tc, .slice vp vn vc, .slice bp bs.length bc] 52 (0, 0)), Rw 29 1 gp gs.length gc (fl rowL gs), Rw 33 2 pp ps.length pc (fl plL ps), (Pool pl), Rw 34 1 bp bs.length bc (fl rowL bs), (Lst BwI bs)])] := by have h := H92.absorbI [0, 3, 5] H96; exact h
  refine b_ret rfl rfl ?_
  refine w_a ?_
  refine w_e ?_
  refine g_ret ?_
  refine fin_ret [.tmp 6] [.slice pe93 ((evnV ps.length rt (ids1 (gs.length : Int) 4 ((seed ++ (⟨#[32]⟩ : ByteArray)) ++ (itS me)) rl)).length) ce94] rfl ⟨rfl, trivial⟩ ?_
  have hv : (fairV seed ps.length rt (gs.map Rd.v) (bs.map Ro.l) me) = (evnV ps.length rt (ids1 (gs.length : Int) 4 ((seed ++ (⟨#[32]⟩ : ByteArray)) ++ (itS me)) rl)) := by unfold fairV; rw [hrv9, List.length_map]
  rw [hv]
  exact ⟨_, _, rfl, H96.takes [0, 2, 6, 3, 7, 8, 9, 10] (by decide)⟩
end Go.Proofs.YtpbjekdjebjbkaaGreat
