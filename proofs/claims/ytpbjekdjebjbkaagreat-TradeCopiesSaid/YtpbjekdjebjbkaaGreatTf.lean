import Derived.Test.YtpbjekdjebjbkaaGreatFk
import Derived.Test.YtpbjekdjebjbkaaGreatTe
set_option linter.unusedSimpArgs false
set_option linter.unusedVariables false
namespace Go.Proofs.YtpbjekdjebjbkaaGreat
open Go.RowKit

theorem cl158 : callable Tryz.prog 158 = true := by kernel_rfl
theorem cl160 : callable Tryz.prog 160 = true := by kernel_rfl
theorem cl49 : callable Tryz.prog 49 = true := by kernel_rfl
theorem cl53 : callable Tryz.prog 53 = true := by kernel_rfl
theorem keepS_len {α : Type} (q : α → Bool) (l : List α) : (keepS q l).length ≤ l.length := by unfold keepS; exact List.length_filter_le _ _
theorem grim_t {gs : List Rd} {me a : Int} {x : Rd} (hx : x ∈ gs) (h : at2 x.v a me = 0) : grimB (gs.map Rd.v) me a = true := List.any_eq_true.2 ⟨x.v, List.mem_map.2 ⟨x, hx, rfl⟩, decide_eq_true h⟩
theorem grim_f {gs : List Rd} {me a : Int} (h : ∀ r ∈ gs.reverse, ¬ at2 r.v a me = 0) : grimB (gs.map Rd.v) me a = false := List.any_eq_false.2 fun y hy => by
  obtain ⟨x, hx, rfl⟩ := List.mem_map.1 hy
  rw [decide_eq_false (h x (List.mem_reverse.2 hx))]
  decide
set_option maxRecDepth 20000 in
set_option maxHeartbeats 4000000 in
set_option maxRecDepth 20000 in
set_option maxHeartbeats 4000000 in
theorem delF_i (l : List Int) (p : Option Addr) (c : Nat) (hl : l.length ≤ 9223372036854775807) (q : Int → Bool) (gc : Nat) (fi ca : Array Value) (X : Item) (D : Int → Prop) (hq : FunC Tryz.prog gc fi ca X (fun x : Int => [.int .i64 x]) (fun x => .bool (q x)) D) (hD : ∀ x ∈ l, D x)  (w : World) (HS : S w [X, Rw 3 1 p l.length c (fl intL l)]) : Calls Tryz.prog 158 #[.slice p l.length c, .func (.func gc) fi ca] w fun e w' => e = .returned (.slice p (keepS q l).length c) ∧ S w' ([X, Rw 3 1 p ((keepS q l).length) c (fl intL (keepS q l))] ++ [Old w (fps [X, Rw 3 1 p l.length c (fl intL l)])]) := by
 have H0 := HS.beginI
 refine enter 42 Tryz.func158 rfl rfl rfl ?_
 refine g_weak [(0, .slice p l.length c), (1, .func (.func gc) fi ca)] ⟨rfl, rfl, trivial⟩ ?_
 refine g_seq ?_
 refine g_region ?_
 refine l_of (s_val (v := .slice none 0 0) (wt0 rfl) rfl rfl (x_assign rfl rfl) ?_)
 refine g_nil ?_
 refine g_then ?_
 refine g_seq ?_
 refine g_region ?_
 refine l_of (s_val (v := .slice p l.length c) (wt0 rfl) rfl rfl (x_move rfl rfl) ?_)
 refine l_of (s_val (v := .func (.func gc) fi ca) (wt0 rfl) rfl rfl (x_move rfl rfl) ?_)
 refine l_of (s_call (wt0 rfl) (x_call' rfl rfl cl160) (indexF_i l p l.length c hl q gc fi ca X D hq hD _ (H0.takes [0] (by decide)) (H0.rwReads (k := 1) rfl) (H0.apartRw (i := 1) (k := 0) rfl rfl (by decide))) ?_)
 rintro _ wq1 ⟨rfl, H2⟩
 replace H2 : S wq1 [X, Rw 3 1 p l.length c (fl intL l), Old w (fps [X, Rw 3 1 p l.length c (fl intL l)])] := H0.absorbI (new := [X]) [0] H2
 refine b_ret rfl rfl ?_
 refine l_of (s_val (v := .int .i64 ((ixI q l))) (wt0 rfl) rfl rfl (x_assign rfl rfl) ?_)
 refine g_nil ?_
 refine g_then ?_
 refine g_seq ?_
 refine g_seq ?_
 refine g_region ?_
 refine l_of (s_val (v := .int .i64 ((ixI q l))) (wt0 rfl) rfl rfl (x_move rfl rfl) ?_)
 refine l_of (s_val (v := .bool (decide (((ixI q l) : Int) = -1))) (wt0 rfl) rfl rfl (x_bin rfl rfl rfl b_eql) ?_)
 refine g_nil ?_
 refine g_then ?_
 by_cases hb3 : ((ixI q l) : Int) = -1
 ·
  refine g_cond_t rfl (decide_eq_true hb3) ?_
  refine g_seq ?_
  refine g_region ?_
  refine l_of (s_val (v := .slice p l.length c) (wt0 rfl) rfl rfl (x_move rfl rfl) ?_)
  refine l_of (s_val (v := .slice p l.length c) (wt0 rfl) rfl rfl (x_assign rfl rfl) ?_)
  refine g_nil ?_
  refine g_then ?_
  refine g_ret ?_
  refine g_then_ret ?_
  refine fin_ret [.tmp 4] [.slice p l.length c] rfl ⟨rfl, trivial⟩ ?_
  have hd : keepS q l = l := keep_all (fun y hy => by cases h9 : q y with | false => rfl | true => exact absurd (hb3) (by unfold ixI; rw [if_pos (List.any_eq_true.2 ⟨y, hy, h9⟩)]; omega))
  exact ⟨by rw [hd]; rfl, by rw [hd]; exact H2.takes [0, 1, 2] (by decide)⟩
 ·
  obtain ⟨i0, x0, hix, hx0, hq0, hno⟩ := ixI_some hb3
  have hi0 := (List.getElem?_eq_some_iff.1 hx0).1
  refine g_cond_f rfl (decide_eq_false hb3) ?_
  refine g_skip ?_
  refine g_then ?_
  refine g_seq ?_
  refine g_seq ?_
  refine g_region ?_
  rw [hix]
  refine l_of (s_val (v := .int .i64 ((i0 : Int))) (wt0 rfl) rfl rfl (x_move rfl rfl) ?_)
  refine l_of (s_val (v := .int .i64 (((i0 + 1 : Nat) : Int))) (wt0 rfl) rfl rfl (x_bin rfl rfl rfl (b_addN (a := i0) (b := 1) (by omega))) ?_)
  refine l_of (s_val (v := .int .i64 (((i0 + 1 : Nat) : Int))) (wt0 rfl) rfl rfl (x_assign rfl rfl) ?_)
  refine g_nil ?_
  refine g_then ?_
  refine g_block ?_
  refine g_loop (ι := Nat × Nat × List Int) (fun (i, j, cur) => [(0, .slice p l.length c), (1, .func (.func gc) fi ca), (5, .int .i64 ((i : Int))), (6, .int .i64 ((j : Int)))]) (fun (i, j, cur) wx => (cur.length = l.length) ∧ (i < j) ∧ (j ≤ l.length) ∧ (cur.take i = keepS q (l.take j)) ∧ (cur.drop j = l.drop j) ∧ S wx [X, Rw 3 1 p l.length c (fl intL cur), Old w (fps [X, Rw 3 1 p l.length c (fl intL l)])]) (fun (i, j, cur) => l.length - j) (i0, (i0 + 1), l) ⟨rfl, rfl, rfl, rfl, trivial⟩ ⟨rfl, Nat.lt_succ_self _, (by omega), (keep_first hx0 hq0 hno).symm, rfl, (H2.takes [0, 1, 2] (by decide))⟩ ?_
  rintro ⟨i, j, cur⟩ wq4 ⟨hcl, hij, hj, hp, hs, H5⟩
  refine g_weak [(0, .slice p l.length c), (1, .func (.func gc) fi ca), (5, .int .i64 ((i : Int))), (6, .int .i64 ((j : Int)))] ⟨rfl, rfl, rfl, rfl, trivial⟩ ?_
  refine g_seq ?_
  refine g_seq ?_
  refine g_region ?_
  refine l_of (s_val (v := .int .i64 ((j : Int))) (wt0 rfl) rfl rfl (x_move rfl rfl) ?_)
  refine l_of (s_val (v := .slice p l.length c) (wt0 rfl) rfl rfl (x_move rfl rfl) ?_)
  refine l_of (s_val (v := .int .i64 ((l.length : Int))) (wt0 rfl) rfl rfl (x_lenl rfl rfl Tryz.underlying34) ?_)
  refine l_of (s_val (v := .bool (decide (((j : Int) : Int) < (l.length : Int)))) (wt0 rfl) rfl rfl (x_bin rfl rfl rfl b_lss) ?_)
  refine g_nil ?_
  refine g_then ?_
  by_cases hb6 : ((j : Int) : Int) < (l.length : Int)
  ·
   refine g_cond_t rfl (decide_eq_true hb6) ?_
   refine g_skip ?_
   refine g_then ?_
   refine g_seq ?_
   refine g_block ?_
   refine g_seq ?_
   refine g_region ?_
   refine l_of (s_val (v := .slice p l.length c) (wt0 rfl) rfl rfl (x_move rfl rfl) ?_)
   refine l_of (s_val (v := .int .i64 ((j : Int))) (wt0 rfl) rfl rfl (x_move rfl rfl) ?_)
   refine l_of (s_val (v := .pointer ((p).map fun q => q.add (j * 1))) (wt0 rfl) rfl rfl (x_idxR j (H5.rwReads (k := 1) rfl) rfl rfl rfl Tryz.underlying34 sz3 (by omega)) ?_)
   have hlq := (H5.rwReads (k := 1) rfl).lenL intE
   obtain ⟨x7, hx7⟩ := ex_at (l := cur) (j := j) (by omega)
   clear hlq
   have hmc : ∀ y, cur[j]? = some y → y ∈ l := fun y hy => List.mem_of_getElem? (by rw [← drop_at hs]; exact hy)
   have hDc : ∀ x ∈ l, D x := hD
   refine l_of (s_val (v := .int .i64 x7) (wt0 rfl) rfl rfl (x_loadR1 j (H5.rwReads (k := 1) rfl) (by omega) rfl rfl Tryz.underlying3 rfl (intE.flAt1 hx7 rfl)) ?_)
   refine l_of (s_val (v := .int .i64 x7) (wt0 rfl) rfl rfl (x_assign rfl rfl) ?_)
   refine g_nil ?_
   refine g_then ?_
   refine g_seq ?_
   refine g_region ?_
   refine l_of (s_val (v := .func (.func gc) fi ca) (wt0 rfl) rfl rfl (x_move rfl rfl) ?_)
   refine l_of (s_val (v := .int .i64 x7) (wt0 rfl) rfl rfl (x_move rfl rfl) ?_)
   refine l_of (s_call (wt0 rfl) (x_call rfl rfl rfl hq.ok) (hq.does x7 (hDc x7 (by first | exact List.mem_of_getElem? hx7 | exact hmc _ hx7)) _ (H5.takes [0] (by decide))) ?_)
   rintro _ wq8 ⟨rfl, H9⟩
   replace H9 : S wq8 [X, Rw 3 1 p l.length c (fl intL cur), Old w (fps [X, Rw 3 1 p l.length c (fl intL l)])] := H5.absorbI (new := [X]) [0] H9
   refine b_ret rfl rfl ?_
   refine l_of (s_val (v := .bool (!(q x7))) (wt0 rfl) rfl rfl (x_not (b := q x7) rfl rfl) ?_)
   refine g_nil ?_
   refine g_then ?_
   rcases Bool.eq_false_or_eq_true (q x7) with hb10 | hb10
   ·
    refine g_cond_f rfl (neg_of hb10) ?_
    refine g_skip ?_
    refine g_in ?_
    refine g_then ?_
    refine g_weak [(0, .slice p l.length c), (1, .func (.func gc) fi ca), (5, .int .i64 ((i : Int))), (6, .int .i64 ((j : Int)))] ⟨rfl, rfl, rfl, rfl, trivial⟩ ?_
    refine g_region ?_
    refine l_of (s_val (v := .int .i64 ((j : Int))) (wt0 rfl) rfl rfl (x_move rfl rfl) ?_)
    refine l_of (s_val (v := .int .i64 (((j + 1 : Nat) : Int))) (wt0 rfl) rfl rfl (x_bin rfl rfl rfl (b_addN (a := j) (b := 1) (by omega))) ?_)
    refine l_of (s_val (v := .int .i64 (((j + 1 : Nat) : Int))) (wt0 rfl) rfl rfl (x_assign rfl rfl) ?_)
    refine g_nil ?_
    refine g_then ?_
    refine g_round (i := (i, j, cur)) (i, (j + 1), cur) ?_ ?_ ?_
    · exact ⟨rfl, rfl, rfl, rfl, trivial⟩
    · exact ⟨hcl, by omega, by omega, (del_skip hp hs hx7 hb10).1, (del_skip hp hs hx7 hb10).2, (H9.takes [0, 1, 2] (by decide))⟩
    · (try dsimp only); omega
   ·
    refine g_cond_t rfl (neg_of hb10) ?_
    refine g_seq ?_
    refine g_region ?_
    refine l_of (s_val (v := .slice p l.length c) (wt0 rfl) rfl rfl (x_move rfl rfl) ?_)
    refine l_of (s_val (v := .int .i64 ((i : Int))) (wt0 rfl) rfl rfl (x_move rfl rfl) ?_)
    refine l_of (s_val (v := .int .i64 x7) (wt0 rfl) rfl rfl (x_move rfl rfl) ?_)
    refine l_of (s_val (v := .pointer ((p).map fun q => q.add (i * 1))) (wt0 rfl) rfl rfl (x_idxR i (H9.rwReads (k := 1) rfl) rfl rfl rfl Tryz.underlying34 sz3 (by omega)) ?_)
    refine l_of (s_stoL (j := i) intE x7 H9 1 (wt0 rfl) rfl rfl rfl rfl rfl rfl sz3 (by omega) ?_)
    intro wq11 H12
    refine g_nil ?_
    refine g_then ?_
    refine g_weak [(0, .slice p l.length c), (1, .func (.func gc) fi ca), (5, .int .i64 ((i : Int))), (6, .int .i64 ((j : Int)))] ⟨rfl, rfl, rfl, rfl, trivial⟩ ?_
    refine g_region ?_
    refine l_of (s_val (v := .int .i64 ((i : Int))) (wt0 rfl) rfl rfl (x_move rfl rfl) ?_)
    refine l_of (s_val (v := .int .i64 (((i + 1 : Nat) : Int))) (wt0 rfl) rfl rfl (x_bin rfl rfl rfl (b_addN (a := i) (b := 1) (by omega))) ?_)
    refine l_of (s_val (v := .int .i64 (((i + 1 : Nat) : Int))) (wt0 rfl) rfl rfl (x_assign rfl rfl) ?_)
    refine g_nil ?_
    refine g_in ?_
    refine g_then ?_
    refine g_region ?_
    refine l_of (s_val (v := .int .i64 ((j : Int))) (wt0 rfl) rfl rfl (x_move rfl rfl) ?_)
    refine l_of (s_val (v := .int .i64 (((j + 1 : Nat) : Int))) (wt0 rfl) rfl rfl (x_bin rfl rfl rfl (b_addN (a := j) (b := 1) (by omega))) ?_)
    refine l_of (s_val (v := .int .i64 (((j + 1 : Nat) : Int))) (wt0 rfl) rfl rfl (x_assign rfl rfl) ?_)
    refine g_nil ?_
    refine g_then ?_
    refine g_round (i := (i, j, cur)) ((i + 1), (j + 1), (cur.set i x7)) ?_ ?_ ?_
    · exact ⟨rfl, rfl, rfl, rfl, trivial⟩
    · exact ⟨(by rw [List.length_set]; exact hcl), by omega, by omega, (del_put hcl hij hp hs hx7 hb10).1, (del_put hcl hij hp hs hx7 hb10).2, (H12.takes [0, 1, 2] (by decide))⟩
    · (try dsimp only); omega
  ·
   refine g_cond_f rfl (decide_eq_false hb6) ?_
   refine g_exit ?_
   refine g_then_exit ?_
   refine g_then_exit ?_
   refine g_in_hit ?_
   refine g_then ?_
   refine g_seq ?_
   refine g_region ?_
   refine l_of (s_val (v := .slice p l.length c) (wt0 rfl) rfl rfl (x_move rfl rfl) ?_)
   refine l_of (s_val (v := .int .i64 ((i : Int))) (wt0 rfl) rfl rfl (x_move rfl rfl) ?_)
   refine l_of (s_val (v := .slice (cutP p i c 1) (l.length - i) (c - i)) (wt0 rfl) rfl rfl (x_cut i rfl rfl rfl Tryz.underlying34 sz3 (by omega)) ?_)
   refine l_of (s_clear (i := i) H5 1 (wt0 rfl) rfl rfl rfl rfl Tryz.underlying34 ze3 rfl rfl (by decide) (by omega) ?_)
   intro wq13 H14
   replace H14 : S wq13 [X, Rw 3 1 p i c (fl intL (cur.take i)), Old w (fps [X, Rw 3 1 p l.length c (fl intL l)])] := by have h9 := H14; rw [← intE.flTake]; exact h9
   refine g_nil ?_
   refine g_then ?_
   refine g_seq ?_
   refine g_region ?_
   refine l_of (s_val (v := .slice p l.length c) (wt0 rfl) rfl rfl (x_move rfl rfl) ?_)
   refine l_of (s_val (v := .int .i64 ((i : Int))) (wt0 rfl) rfl rfl (x_move rfl rfl) ?_)
   have hic := (H14.rwReads (k := 1) rfl).2.1
   refine l_of (s_val (v := .slice p i c) (wt0 rfl) rfl rfl (ex_cast (x_sliceH i rfl rfl rfl Tryz.underlying34 sz3 ⟨rfl, hic⟩) (by rw [cutP0])) ?_)
   refine l_of (s_val (v := .slice p i c) (wt0 rfl) rfl rfl (x_assign rfl rfl) ?_)
   refine g_nil ?_
   refine g_then ?_
   refine g_weak [(4, .slice p i c)] ⟨rfl, trivial⟩ ?_
   refine g_ret ?_
   refine fin_ret [.tmp 4] [.slice p i c] rfl ⟨rfl, trivial⟩ ?_
   have hjl : j = l.length := by omega
   have hd : keepS q l = cur.take i := by rw [hp, hjl, List.take_length]
   have hdl : (cur.take i).length = i := by rw [List.length_take]; omega
   exact ⟨by rw [hd, hdl]; rfl, by rw [hd, hdl]; exact H14.takes [0, 1, 2] (by decide)⟩
set_option maxRecDepth 20000 in
set_option maxHeartbeats 4000000 in
set_option maxRecDepth 20000 in
set_option maxHeartbeats 4000000 in
theorem freely_s (g : Nat) (seed : ByteArray) (pp : Option Addr) (pc : Nat) (ps : List Pl) (sp : Option Addr) (sc sn : Nat) (tp : Option Addr) (tc tn : Nat) (vp : Option Addr) (vc vn : Nat) (bp : Option Addr) (bc bn : Nat) (gs : List Rd) (gp : Option Addr) (gc : Nat) (hnp : ps.length ≤ 9) (me : Int) (h0m : 0 ≤ me) (pm : Pl) (hm : ps[me.toNat]? = some pm) (rt : Int) (hrt : pm.rt = rt) (hr0 : 0 ≤ rt ∧ rt ≤ 1000000)  (w : World) (HS : S w [Ob g (.cells #[.slice gp gs.length gc, .string seed, .slice pp ps.length pc, .slice sp sn sc, .slice tp tn tc, .slice vp vn vc, .slice bp bn bc] 52 (0, 0)), Rw 33 2 pp ps.length pc (fl plL ps)]) : Calls Tryz.prog 153 #[.agg #[], .pointer (some ⟨g, 0, none⟩), .int .i64 me] w fun e w' => ∃ p' c', e = .returned (.slice p' (evnV ps.length rt []).length c') ∧ S w' ([Rw 3 1 p' (evnV ps.length rt []).length c' (fl intL (evnV ps.length rt [])), Ob g (.cells #[.slice gp gs.length gc, .string seed, .slice pp ps.length pc, .slice sp sn sc, .slice tp tn tc, .slice vp vn vc, .slice bp bn bc] 52 (0, 0)), Rw 33 2 pp ps.length pc (fl plL ps)] ++ [Old w (fps [Ob g (.cells #[.slice gp gs.length gc, .string seed, .slice pp ps.length pc, .slice sp sn sc, .slice tp tn tc, .slice vp vn vc, .slice bp bn bc] 52 (0, 0)), Rw 33 2 pp ps.length pc (fl plL ps)])]) := by
 have H0 := HS.beginI
 refine enter 10 Tryz.func153 rfl rfl rfl ?_
 refine g_weak [(0, .agg #[]), (1, .pointer (some ⟨g, 0, none⟩)), (2, .int .i64 me)] ⟨rfl, rfl, rfl, trivial⟩ ?_
 refine g_seq ?_
 refine g_region ?_
 refine l_of (s_box H0 (wt0 rfl) rfl rfl rfl rfl ?_)
 intro g1 wq2 H3
 refine l_of (s_val (v := .slice none 0 0) (wt0 rfl) rfl rfl (x_assign rfl rfl) ?_)
 refine g_nil ?_
 refine g_then ?_
 refine g_seq ?_
 refine g_region ?_
 refine l_of (s_val (v := .pointer (some ⟨g, 0, none⟩)) (wt0 rfl) rfl rfl (x_move rfl rfl) ?_)
 refine l_of (s_val (v := .int .i64 me) (wt0 rfl) rfl rfl (x_move rfl rfl) ?_)
 have H4 : S wq2 [Rw 3 1 none 0 0 (fl intL ([] : List Int)), Ob g1 (.cells #[] 71 (0, 0)), Ob g (.cells #[.slice gp gs.length gc, .string seed, .slice pp ps.length pc, .slice sp sn sc, .slice tp tn tc, .slice vp vn vc, .slice bp bn bc] 52 (0, 0)), Rw 33 2 pp ps.length pc (fl plL ps), Old w (fps [Ob g (.cells #[.slice gp gs.length gc, .string seed, .slice pp ps.length pc, .slice sp sn sc, .slice tp tn tc, .slice vp vn vc, .slice bp bn bc] 52 (0, 0)), Rw 33 2 pp ps.length pc (fl plL ps)])] := H3.nilFl 3 1 intL
 refine l_of (s_call (wt0 rfl) (x_call' rfl rfl cl53) (evenly_s g gp gc gs.length seed pp pc ps sp sc sn tp tc tn vp vc vn bp bc bn (by omega) me h0m pm hm rt hrt hr0 ([]) none 0 (fun x hx => absurd hx List.not_mem_nil) (Nat.zero_le _) _ (H4.takes [0, 2, 3] (by decide))) ?_)
 rintro _ wq7 ⟨pe5, ce6, rfl, H8⟩
 replace H8 : S wq7 [Rw 3 1 pe5 ((evnV ps.length rt ([])).length) ce6 (fl intL (evnV ps.length rt ([]))), Rw 3 1 none 0 0 (fl intL ([] : List Int)), Ob g (.cells #[.slice gp gs.length gc, .string seed, .slice pp ps.length pc, .slice sp sn sc, .slice tp tn tc, .slice vp vn vc, .slice bp bn bc] 52 (0, 0)), Rw 33 2 pp ps.length pc (fl plL ps), Ob g1 (.cells #[] 71 (0, 0)), Old w (fps [Ob g (.cells #[.slice gp gs.length gc, .string seed, .slice pp ps.length pc, .slice sp sn sc, .slice tp tn tc, .slice vp vn vc, .slice bp bn bc] 52 (0, 0)), Rw 33 2 pp ps.length pc (fl plL ps)])] := H4.absorbI (new := [Rw 3 1 pe5 ((evnV ps.length rt ([])).length) ce6 (fl intL (evnV ps.length rt ([]))), Rw 3 1 none 0 0 (fl intL ([] : List Int)), Ob g (.cells #[.slice gp gs.length gc, .string seed, .slice pp ps.length pc, .slice sp sn sc, .slice tp tn tc, .slice vp vn vc, .slice bp bn bc] 52 (0, 0)), Rw 33 2 pp ps.length pc (fl plL ps)]) [0, 2, 3] H8
 refine b_ret rfl rfl ?_
 refine l_of (s_val (v := .slice pe5 ((evnV ps.length rt ([])).length) ce6) (wt0 rfl) rfl rfl (x_assign rfl rfl) ?_)
 refine g_nil ?_
 refine g_then ?_
 refine g_ret ?_
 refine fin_ret [.tmp 6] [.slice pe5 ((evnV ps.length rt ([])).length) ce6] rfl ⟨rfl, trivial⟩ ?_
 exact ⟨_, _, rfl, H8.takes [0, 2, 3, 5] (by decide)⟩
set_option maxRecDepth 20000 in
set_option maxHeartbeats 4000000 in
set_option maxRecDepth 20000 in
set_option maxHeartbeats 4000000 in
theorem openly_s (g : Nat) (seed : ByteArray) (pp : Option Addr) (pc : Nat) (ps : List Pl) (sp : Option Addr) (sc sn : Nat) (tp : Option Addr) (tc tn : Nat) (vp : Option Addr) (vc vn : Nat) (bp : Option Addr) (bc bn : Nat) (gs : List Rd) (gp : Option Addr) (gc : Nat) (hnp : ps.length ≤ 9) (me : Int) (h0m : 0 ≤ me) (pm : Pl) (hm : ps[me.toNat]? = some pm) (rt : Int) (hrt : pm.rt = rt) (hr0 : 0 ≤ rt ∧ rt ≤ 1000000)  (w : World) (HS : S w [Ob g (.cells #[.slice gp gs.length gc, .string seed, .slice pp ps.length pc, .slice sp sn sc, .slice tp tn tc, .slice vp vn vc, .slice bp bn bc] 52 (0, 0)), Rw 33 2 pp ps.length pc (fl plL ps)]) : Calls Tryz.prog 155 #[.agg #[], .pointer (some ⟨g, 0, none⟩), .int .i64 me] w fun e w' => ∃ p' c', e = .returned (.slice p' (evnV ps.length rt (othV ps.length me)).length c') ∧ S w' ([Rw 3 1 p' (evnV ps.length rt (othV ps.length me)).length c' (fl intL (evnV ps.length rt (othV ps.length me))), Ob g (.cells #[.slice gp gs.length gc, .string seed, .slice pp ps.length pc, .slice sp sn sc, .slice tp tn tc, .slice vp vn vc, .slice bp bn bc] 52 (0, 0)), Rw 33 2 pp ps.length pc (fl plL ps)] ++ [Old w (fps [Ob g (.cells #[.slice gp gs.length gc, .string seed, .slice pp ps.length pc, .slice sp sn sc, .slice tp tn tc, .slice vp vn vc, .slice bp bn bc] 52 (0, 0)), Rw 33 2 pp ps.length pc (fl plL ps)])]) := by
 have H0 := HS.beginI
 refine enter 13 Tryz.func155 rfl rfl rfl ?_
 refine g_weak [(0, .agg #[]), (1, .pointer (some ⟨g, 0, none⟩)), (2, .int .i64 me)] ⟨rfl, rfl, rfl, trivial⟩ ?_
 refine g_seq ?_
 refine g_region ?_
 refine l_of (s_box H0 (wt0 rfl) rfl rfl rfl rfl ?_)
 intro g1 wq2 H3
 refine l_of (s_val (v := .slice none 0 0) (wt0 rfl) rfl rfl (x_assign rfl rfl) ?_)
 refine g_nil ?_
 refine g_then ?_
 refine g_seq ?_
 refine g_region ?_
 refine l_of (s_val (v := .pointer (some ⟨g, 0, none⟩)) (wt0 rfl) rfl rfl (x_move rfl rfl) ?_)
 refine l_of (s_val (v := .int .i64 me) (wt0 rfl) rfl rfl (x_move rfl rfl) ?_)
 refine l_of (s_val (v := .pointer (some ⟨g, 0, none⟩)) (wt0 rfl) rfl rfl (x_move rfl rfl) ?_)
 refine l_of (s_val (v := .int .i64 me) (wt0 rfl) rfl rfl (x_move rfl rfl) ?_)
 refine l_of (s_call (wt0 rfl) (x_call' rfl rfl cl49) (others_s g gp gc gs.length seed pp pc ps sp sc sn tp tc tn vp vc vn bp bc bn (by omega) me _ (H3.takes [1] (by decide))) ?_)
 rintro _ wq6 ⟨po4, co5, rfl, H7⟩
 replace H7 : S wq6 [Rw 3 1 po4 ((othV ps.length me).length) co5 (fl intL (othV ps.length me)), Ob g (.cells #[.slice gp gs.length gc, .string seed, .slice pp ps.length pc, .slice sp sn sc, .slice tp tn tc, .slice vp vn vc, .slice bp bn bc] 52 (0, 0)), Ob g1 (.cells #[] 72 (0, 0)), Rw 33 2 pp ps.length pc (fl plL ps), Old w (fps [Ob g (.cells #[.slice gp gs.length gc, .string seed, .slice pp ps.length pc, .slice sp sn sc, .slice tp tn tc, .slice vp vn vc, .slice bp bn bc] 52 (0, 0)), Rw 33 2 pp ps.length pc (fl plL ps)])] := H3.absorbI (new := [Rw 3 1 po4 ((othV ps.length me).length) co5 (fl intL (othV ps.length me)), Ob g (.cells #[.slice gp gs.length gc, .string seed, .slice pp ps.length pc, .slice sp sn sc, .slice tp tn tc, .slice vp vn vc, .slice bp bn bc] 52 (0, 0))]) [1] H7
 have hol := othV_len ps.length me
 refine b_ret rfl rfl ?_
 refine l_of (s_call (wt0 rfl) (x_call' rfl rfl cl53) (evenly_s g gp gc gs.length seed pp pc ps sp sc sn tp tc tn vp vc vn bp bc bn (by omega) me h0m pm hm rt hrt hr0 (othV ps.length me) po4 co5 (fun x hx => (othV_mem.1 hx).1) (by omega) _ (H7.takes [0, 1, 3] (by decide))) ?_)
 rintro _ wq10 ⟨pe8, ce9, rfl, H11⟩
 replace H11 : S wq10 [Rw 3 1 pe8 ((evnV ps.length rt (othV ps.length me)).length) ce9 (fl intL (evnV ps.length rt (othV ps.length me))), Rw 3 1 po4 ((othV ps.length me).length) co5 (fl intL (othV ps.length me)), Ob g (.cells #[.slice gp gs.length gc, .string seed, .slice pp ps.length pc, .slice sp sn sc, .slice tp tn tc, .slice vp vn vc, .slice bp bn bc] 52 (0, 0)), Rw 33 2 pp ps.length pc (fl plL ps), Ob g1 (.cells #[] 72 (0, 0)), Old w (fps [Ob g (.cells #[.slice gp gs.length gc, .string seed, .slice pp ps.length pc, .slice sp sn sc, .slice tp tn tc, .slice vp vn vc, .slice bp bn bc] 52 (0, 0)), Rw 33 2 pp ps.length pc (fl plL ps)])] := H7.absorbI (new := [Rw 3 1 pe8 ((evnV ps.length rt (othV ps.length me)).length) ce9 (fl intL (evnV ps.length rt (othV ps.length me))), Rw 3 1 po4 ((othV ps.length me).length) co5 (fl intL (othV ps.length me)), Ob g (.cells #[.slice gp gs.length gc, .string seed, .slice pp ps.length pc, .slice sp sn sc, .slice tp tn tc, .slice vp vn vc, .slice bp bn bc] 52 (0, 0)), Rw 33 2 pp ps.length pc (fl plL ps)]) [0, 1, 3] H11
 refine b_ret rfl rfl ?_
 refine l_of (s_val (v := .slice pe8 ((evnV ps.length rt (othV ps.length me)).length) ce9) (wt0 rfl) rfl rfl (x_assign rfl rfl) ?_)
 refine g_nil ?_
 refine g_then ?_
 refine g_ret ?_
 refine fin_ret [.tmp 6] [.slice pe8 ((evnV ps.length rt (othV ps.length me)).length) ce9] rfl ⟨rfl, trivial⟩ ?_
 exact ⟨_, _, rfl, H11.takes [0, 2, 3, 5] (by decide)⟩
set_option maxRecDepth 20000 in
set_option maxHeartbeats 4000000 in
set_option maxRecDepth 20000 in
set_option maxHeartbeats 4000000 in
theorem grim1_s (bg bm : Nat) (g : Nat) (seed : ByteArray) (pp : Option Addr) (pc : Nat) (ps : List Pl) (sp : Option Addr) (sc sn : Nat) (tp : Option Addr) (tc tn : Nat) (vp : Option Addr) (vc vn : Nat) (bp : Option Addr) (bc bn : Nat) (pl gs : List Rd) (gp : Option Addr) (gc : Nat) (hG : GsOK ps.length pl gs) (hgl : gs.length ≤ 200) (hnp : ps.length ≤ 9) (me : Int) (hme : 0 ≤ me ∧ me < ps.length) (a : Int) (ha : 0 ≤ a ∧ a < ps.length)  (w : World) (HS : S w [Ob bg (.cells #[.pointer (some ⟨g, 0, none⟩)] 25 (0, 0)), Ob bm (.cells #[.int .i64 me] 3 (0, 0)), Ob g (.cells #[.slice gp gs.length gc, .string seed, .slice pp ps.length pc, .slice sp sn sc, .slice tp tn tc, .slice vp vn vc, .slice bp bn bc] 52 (0, 0)), Rw 29 1 gp gs.length gc (fl rowL gs), (Pool pl)]) : Calls Tryz.prog 159 #[.int .i64 a, .pointer (some ⟨bg, 0, none⟩), .pointer (some ⟨bm, 0, none⟩)] w fun e w' => e = .returned (.bool (grimB (gs.map Rd.v) me a)) ∧ S w' ([Ob bg (.cells #[.pointer (some ⟨g, 0, none⟩)] 25 (0, 0)), Ob bm (.cells #[.int .i64 me] 3 (0, 0)), Ob g (.cells #[.slice gp gs.length gc, .string seed, .slice pp ps.length pc, .slice sp sn sc, .slice tp tn tc, .slice vp vn vc, .slice bp bn bc] 52 (0, 0)), Rw 29 1 gp gs.length gc (fl rowL gs), (Pool pl)] ++ [Old w (fps [Ob bg (.cells #[.pointer (some ⟨g, 0, none⟩)] 25 (0, 0)), Ob bm (.cells #[.int .i64 me] 3 (0, 0)), Ob g (.cells #[.slice gp gs.length gc, .string seed, .slice pp ps.length pc, .slice sp sn sc, .slice tp tn tc, .slice vp vn vc, .slice bp bn bc] 52 (0, 0)), Rw 29 1 gp gs.length gc (fl rowL gs), (Pool pl)])]) := by
 have H0 := HS.beginI
 refine enter_m 20 Tryz.func159 rfl rfl rfl ?_
 have hL : ¬ LetsOut (bodyPostM (WF none) 9 Tryz.prog Tryz.f159 fun e w' => e = .returned (.bool (grimB (gs.map Rd.v) me a)) ∧ S w' ([Ob bg (.cells #[.pointer (some ⟨g, 0, none⟩)] 25 (0, 0)), Ob bm (.cells #[.int .i64 me] 3 (0, 0)), Ob g (.cells #[.slice gp gs.length gc, .string seed, .slice pp ps.length pc, .slice sp sn sc, .slice tp tn tc, .slice vp vn vc, .slice bp bn bc] 52 (0, 0)), Rw 29 1 gp gs.length gc (fl rowL gs), (Pool pl)] ++ [Old w (fps [Ob bg (.cells #[.pointer (some ⟨g, 0, none⟩)] 25 (0, 0)), Ob bm (.cells #[.int .i64 me] 3 (0, 0)), Ob g (.cells #[.slice gp gs.length gc, .string seed, .slice pp ps.length pc, .slice sp sn sc, .slice tp tn tc, .slice vp vn vc, .slice bp bn bc] 52 (0, 0)), Rw 29 1 gp gs.length gc (fl rowL gs), (Pool pl)])])) := by
  rintro ⟨_, _, h⟩
  simp only [bodyPostM, reduceCtorEq, false_and, and_false, exists_false, or_false, or_self, exists_const] at h
 refine g_weak [(0, .int .i64 a), (1, .pointer (some ⟨bg, 0, none⟩)), (2, .pointer (some ⟨bm, 0, none⟩))] ⟨rfl, rfl, rfl, trivial⟩ ?_
 refine R.g_seq ?_
 refine R.g_region ?_
 refine R.l_of rfl (fun h => hL h) (s_box H0 (wt0 rfl) rfl rfl rfl rfl ?_)
 intro g1 wq2 H3
 refine R.l_of rfl (fun h => hL h) (s_alloc H3 (wt0 rfl) rfl rfl rfl ze4 ?_)
 intro g4 wq5 H6
 refine R.g_nil ?_
 refine g_then ?_
 refine R.g_seq ?_
 refine R.g_seq ?_
 refine R.g_region ?_
 refine R.l_of rfl (fun h => hL h) (s_val (v := .pointer (some ⟨g, 0, none⟩)) (wt0 rfl) rfl rfl (x_load1 H6 2 rfl rfl Tryz.underlying25 rfl rfl rfl) ?_)
 refine R.l_of rfl (fun h => hL h) (s_val (v := .pointer (some ⟨g, 0, none⟩)) (wt0 rfl) rfl rfl (x_nilCheck rfl rfl) ?_)
 refine R.l_of rfl (fun h => hL h) (s_val (v := .pointer (some ⟨g, 0, none⟩)) (wt0 rfl) rfl rfl (x_fieldAddr rfl rfl fo52_0 rfl) ?_)
 refine R.l_of rfl (fun h => hL h) (s_val (v := .agg #[.slice gp gs.length gc]) (wt0 rfl) rfl rfl (x_loadA H6 4 rfl rfl Tryz.underlying49 rfl sz49 rfl rfl rfl) ?_)
 refine R.l_of rfl (fun h => hL h) (s_call (wt0 rfl) (x_call' rfl rfl cl54) (rounds_s gp gs.length gc _) ?_)
 rintro _ wq8 ⟨bk7, rfl, H9⟩
 replace H9 : S wq8 [Ob bk7 (.cells #[.slice gp gs.length gc] 49 (0, 0)), Ob g4 (.cells #[.bool false] 4 (0, 0)), Ob g1 (.cells #[.int .i64 a] 3 (0, 0)), Ob bg (.cells #[.pointer (some ⟨g, 0, none⟩)] 25 (0, 0)), Ob bm (.cells #[.int .i64 me] 3 (0, 0)), Ob g (.cells #[.slice gp gs.length gc, .string seed, .slice pp ps.length pc, .slice sp sn sc, .slice tp tn tc, .slice vp vn vc, .slice bp bn bc] 52 (0, 0)), Rw 29 1 gp gs.length gc (fl rowL gs), (Pool pl), Old w (fps [Ob bg (.cells #[.pointer (some ⟨g, 0, none⟩)] 25 (0, 0)), Ob bm (.cells #[.int .i64 me] 3 (0, 0)), Ob g (.cells #[.slice gp gs.length gc, .string seed, .slice pp ps.length pc, .slice sp sn sc, .slice tp tn tc, .slice vp vn vc, .slice bp bn bc] 52 (0, 0)), Rw 29 1 gp gs.length gc (fl rowL gs), (Pool pl)])] := H6.absorb (new := [Ob bk7 (.cells #[.slice gp gs.length gc] 49 (0, 0))]) H9
 refine b_ret rfl rfl ?_
 refine R.g_nil ?_
 refine g_then ?_
 refine R.g_block ?_
 have H10 : S wq8 [(Big [Rw 29 1 gp gs.length gc (fl rowL gs), (Pool pl)]), Ob bk7 (.cells #[.slice gp gs.length gc] 49 (0, 0)), Ob g4 (.cells #[.bool false] 4 (0, 0)), Ob g1 (.cells #[.int .i64 a] 3 (0, 0)), Ob bg (.cells #[.pointer (some ⟨g, 0, none⟩)] 25 (0, 0)), Ob bm (.cells #[.int .i64 me] 3 (0, 0)), Ob g (.cells #[.slice gp gs.length gc, .string seed, .slice pp ps.length pc, .slice sp sn sc, .slice tp tn tc, .slice vp vn vc, .slice bp bn bc] 52 (0, 0)), Old w (fps [Ob bg (.cells #[.pointer (some ⟨g, 0, none⟩)] 25 (0, 0)), Ob bm (.cells #[.int .i64 me] 3 (0, 0)), Ob g (.cells #[.slice gp gs.length gc, .string seed, .slice pp ps.length pc, .slice sp sn sc, .slice tp tn tc, .slice vp vn vc, .slice bp bn bc] 52 (0, 0)), Rw 29 1 gp gs.length gc (fl rowL gs), (Pool pl)])] := S.big (L := [Rw 29 1 gp gs.length gc (fl rowL gs), (Pool pl)]) (H9.takes [6, 7, 0, 1, 2, 3, 4, 5, 8] (by decide))
 have H11 : S wq8 [(Big [Ob bk7 (.cells #[.slice gp gs.length gc] 49 (0, 0)), (Big [Rw 29 1 gp gs.length gc (fl rowL gs), (Pool pl)])]), Ob g4 (.cells #[.bool false] 4 (0, 0)), Ob g1 (.cells #[.int .i64 a] 3 (0, 0)), Ob bg (.cells #[.pointer (some ⟨g, 0, none⟩)] 25 (0, 0)), Ob bm (.cells #[.int .i64 me] 3 (0, 0)), Ob g (.cells #[.slice gp gs.length gc, .string seed, .slice pp ps.length pc, .slice sp sn sc, .slice tp tn tc, .slice vp vn vc, .slice bp bn bc] 52 (0, 0)), Old w (fps [Ob bg (.cells #[.pointer (some ⟨g, 0, none⟩)] 25 (0, 0)), Ob bm (.cells #[.int .i64 me] 3 (0, 0)), Ob g (.cells #[.slice gp gs.length gc, .string seed, .slice pp ps.length pc, .slice sp sn sc, .slice tp tn tc, .slice vp vn vc, .slice bp bn bc] 52 (0, 0)), Rw 29 1 gp gs.length gc (fl rowL gs), (Pool pl)])] := S.big (L := [Ob bk7 (.cells #[.slice gp gs.length gc] 49 (0, 0)), (Big [Rw 29 1 gp gs.length gc (fl rowL gs), (Pool pl)])]) (H10.takes [1, 0, 2, 3, 4, 5, 6, 7] (by decide))
 have H12 := S.noI (H11.takes [0, 1, 2, 3, 4, 5, 6] (by decide))
 refine g_rangeJ (α := Rd) (ι := Unit) (encs := encG) (base := (Big [Ob bk7 (.cells #[.slice gp gs.length gc] 49 (0, 0)), (Big [Rw 29 1 gp gs.length gc (fl rowL gs), (Pool pl)])])) (by omega) rfl cl58 (rounds_it (by omega) (by omega) (fun w9 h9 => (S.unbig (L := [_, _]) (B := []) h9).rwReads (k := 0) rfl)) (fun _ => rfl) rfl (fun pre Lx => (∀ r ∈ pre, ¬ at2 r.v a me = 0) ∧ Lx = [Ob g4 (.cells #[.bool false] 4 (0, 0)), Ob g1 (.cells #[.int .i64 a] 3 (0, 0)), Ob bg (.cells #[.pointer (some ⟨g, 0, none⟩)] 25 (0, 0)), Ob bm (.cells #[.int .i64 me] 3 (0, 0)), Ob g (.cells #[.slice gp gs.length gc, .string seed, .slice pp ps.length pc, .slice sp sn sc, .slice tp tn tc, .slice vp vn vc, .slice bp bn bc] 52 (0, 0)), Old w (fps [Ob bg (.cells #[.pointer (some ⟨g, 0, none⟩)] 25 (0, 0)), Ob bm (.cells #[.int .i64 me] 3 (0, 0)), Ob g (.cells #[.slice gp gs.length gc, .string seed, .slice pp ps.length pc, .slice sp sn sc, .slice tp tn tc, .slice vp vn vc, .slice bp bn bc] 52 (0, 0)), Rw 29 1 gp gs.length gc (fl rowL gs), (Pool pl)])]) (fun cc pre Lx => (cc = .ret ∧ (grimB (gs.map Rd.v) me a = true) ∧ Lx = [Ob g4 (.cells #[.bool true] 4 (0, 0)), Ob g1 (.cells #[.int .i64 a] 3 (0, 0)), Ob bg (.cells #[.pointer (some ⟨g, 0, none⟩)] 25 (0, 0)), Ob bm (.cells #[.int .i64 me] 3 (0, 0)), Ob g (.cells #[.slice gp gs.length gc, .string seed, .slice pp ps.length pc, .slice sp sn sc, .slice tp tn tc, .slice vp vn vc, .slice bp bn bc] 52 (0, 0)), Old w (fps [Ob bg (.cells #[.pointer (some ⟨g, 0, none⟩)] 25 (0, 0)), Ob bm (.cells #[.int .i64 me] 3 (0, 0)), Ob g (.cells #[.slice gp gs.length gc, .string seed, .slice pp ps.length pc, .slice sp sn sc, .slice tp tn tc, .slice vp vn vc, .slice bp bn bc] 52 (0, 0)), Rw 29 1 gp gs.length gc (fl rowL gs), (Pool pl)])])) (fun p ia => [(2, .pointer (some ⟨bm, 0, none⟩)), (3, .pointer (some ⟨g1, 0, none⟩)), (4, .pointer (some ⟨g4, 0, none⟩)), (5, .slice p.p p.l.length p.c)]) (fun p ia => []) (fun _ _ _ _ _ => trivial) ⟨(fun r hr => absurd hr List.not_mem_nil), rfl⟩ H12 ?_ ?_ ?_ ?_
 ·
  rintro l1 p Ly W13 H14
  have hL : ¬ LetsOut (fun (_ : Exit) (_ : Act) (_ : World) => False) := fun ⟨_, _, h⟩ => h
  refine g_weak [(2, .pointer (some ⟨bm, 0, none⟩)), (3, .pointer (some ⟨g1, 0, none⟩)), (4, .pointer (some ⟨g4, 0, none⟩)), (11, roV p)] ⟨rfl, rfl, rfl, rfl, trivial⟩ ?_
  refine R.g_region ?_
  refine R.l_of rfl (fun h => hL h) (s_val (v := roV p) (wt0 rfl) rfl rfl (x_assign rfl rfl) ?_)
  refine R.g_nil ?_
  refine g_then ?_
  exact rw_assign () ⟨rfl, rfl, rfl, rfl, trivial⟩ H14
 ·
  rintro l1 pr x ia II Kx _ W15 ⟨hJ, rfl⟩ hphi H16
  have H17 := S.unbig (H16.takes [3, 0, 1, 2, 4, 5, 6, 7, 8, 9] (by decide))
  refine g_weak [(2, .pointer (some ⟨bm, 0, none⟩)), (3, .pointer (some ⟨g1, 0, none⟩)), (4, .pointer (some ⟨g4, 0, none⟩)), (5, .slice x.p x.l.length x.c)] ⟨rfl, rfl, rfl, rfl, trivial⟩ ?_
  have hxg : x ∈ gs := List.mem_reverse.1 (List.mem_of_getElem? hphi)
  have hxp := hG.mem x hxg
  have hox := hG.ok x hxg
  have hlx := hox.lenR
  have H18 : S W15 [Ob bk7 (.cells #[.slice gp gs.length gc] 49 (0, 0)), (Big [Rw 29 1 gp gs.length gc (fl rowL gs), (Pool pl)]), II, Kx, Ob g4 (.cells #[.bool false] 4 (0, 0)), Ob g1 (.cells #[.int .i64 a] 3 (0, 0)), Ob bg (.cells #[.pointer (some ⟨g, 0, none⟩)] 25 (0, 0)), Ob bm (.cells #[.int .i64 me] 3 (0, 0)), Ob g (.cells #[.slice gp gs.length gc, .string seed, .slice pp ps.length pc, .slice sp sn sc, .slice tp tn tc, .slice vp vn vc, .slice bp bn bc] 52 (0, 0)), Old w (fps [Ob bg (.cells #[.pointer (some ⟨g, 0, none⟩)] 25 (0, 0)), Ob bm (.cells #[.int .i64 me] 3 (0, 0)), Ob g (.cells #[.slice gp gs.length gc, .string seed, .slice pp ps.length pc, .slice sp sn sc, .slice tp tn tc, .slice vp vn vc, .slice bp bn bc] 52 (0, 0)), Rw 29 1 gp gs.length gc (fl rowL gs), (Pool pl)])] := S.unbig (H17.takes [0, 1, 2, 3, 4, 5, 6, 7, 8] (by decide))
  have H19 : S W15 [Rw 29 1 gp gs.length gc (fl rowL gs), (Pool pl), Ob bk7 (.cells #[.slice gp gs.length gc] 49 (0, 0)), II, Kx, Ob g4 (.cells #[.bool false] 4 (0, 0)), Ob g1 (.cells #[.int .i64 a] 3 (0, 0)), Ob bg (.cells #[.pointer (some ⟨g, 0, none⟩)] 25 (0, 0)), Ob bm (.cells #[.int .i64 me] 3 (0, 0)), Ob g (.cells #[.slice gp gs.length gc, .string seed, .slice pp ps.length pc, .slice sp sn sc, .slice tp tn tc, .slice vp vn vc, .slice bp bn bc] 52 (0, 0)), Old w (fps [Ob bg (.cells #[.pointer (some ⟨g, 0, none⟩)] 25 (0, 0)), Ob bm (.cells #[.int .i64 me] 3 (0, 0)), Ob g (.cells #[.slice gp gs.length gc, .string seed, .slice pp ps.length pc, .slice sp sn sc, .slice tp tn tc, .slice vp vn vc, .slice bp bn bc] 52 (0, 0)), Rw 29 1 gp gs.length gc (fl rowL gs), (Pool pl)])] := S.unbig (H18.takes [1, 0, 2, 3, 4, 5, 6, 7, 8, 9] (by decide))
  refine R.g_block ?_
  refine R.g_seq ?_
  refine R.g_anyY [] (fun wx => S wx [Rw 29 1 gp gs.length gc (fl rowL gs), (Pool pl), Ob bk7 (.cells #[.slice gp gs.length gc] 49 (0, 0)), II, Kx, Ob g4 (.cells #[.bool false] 4 (0, 0)), Ob g1 (.cells #[.int .i64 a] 3 (0, 0)), Ob bg (.cells #[.pointer (some ⟨g, 0, none⟩)] 25 (0, 0)), Ob bm (.cells #[.int .i64 me] 3 (0, 0)), Ob g (.cells #[.slice gp gs.length gc, .string seed, .slice pp ps.length pc, .slice sp sn sc, .slice tp tn tc, .slice vp vn vc, .slice bp bn bc] 52 (0, 0)), Old w (fps [Ob bg (.cells #[.pointer (some ⟨g, 0, none⟩)] 25 (0, 0)), Ob bm (.cells #[.int .i64 me] 3 (0, 0)), Ob g (.cells #[.slice gp gs.length gc, .string seed, .slice pp ps.length pc, .slice sp sn sc, .slice tp tn tc, .slice vp vn vc, .slice bp bn bc] 52 (0, 0)), Rw 29 1 gp gs.length gc (fl rowL gs), (Pool pl)])]) (fun wx => S wx [Rw 29 1 gp gs.length gc (fl rowL gs), (Pool pl), Ob bk7 (.cells #[.slice gp gs.length gc] 49 (0, 0)), II, Kx, Ob g4 (.cells #[.bool false] 4 (0, 0)), Ob g1 (.cells #[.int .i64 a] 3 (0, 0)), Ob bg (.cells #[.pointer (some ⟨g, 0, none⟩)] 25 (0, 0)), Ob bm (.cells #[.int .i64 me] 3 (0, 0)), Ob g (.cells #[.slice gp gs.length gc, .string seed, .slice pp ps.length pc, .slice sp sn sc, .slice tp tn tc, .slice vp vn vc, .slice bp bn bc] 52 (0, 0)), Old w (fps [Ob bg (.cells #[.pointer (some ⟨g, 0, none⟩)] 25 (0, 0)), Ob bm (.cells #[.int .i64 me] 3 (0, 0)), Ob g (.cells #[.slice gp gs.length gc, .string seed, .slice pp ps.length pc, .slice sp sn sc, .slice tp tn tc, .slice vp vn vc, .slice bp bn bc] 52 (0, 0)), Rw 29 1 gp gs.length gc (fl rowL gs), (Pool pl)])]) [] (by kernel_rfl) (by kernel_rfl) (fun ⟨_, _, h⟩ => h) H19 (fun wq20 H21 => ?_)
  refine y_pure (v := .slice x.p x.l.length x.c) 0 rfl (wt0 rfl) rfl rfl rfl (by kernel_rfl) (by kernel_rfl) (by kernel_rfl) (by kernel_rfl) (fun wx => x_move rfl rfl) ?_
  refine y_take (v := .int .i64 a) 1 rfl (wt0 rfl) rfl rfl rfl (by kernel_rfl) (by kernel_rfl) (by kernel_rfl) (by kernel_rfl) (by kernel_rfl) H21 (fun wx H => x_load1 H 6 rfl rfl Tryz.underlying3 rfl rfl rfl) ?_
  refine y_pure (v := .pointer ((x.p).map fun q => q.add (((a).toNat) * 1))) 2 rfl (wt0 rfl) rfl rfl rfl (by kernel_rfl) (by kernel_rfl) (by kernel_rfl) (by kernel_rfl) (fun wx => x_idxP ((a).toNat) ((H21.poolRd (k := 1) rfl hxp).some (by omega)) rfl rfl rfl Tryz.underlying29 sz34 (by omega)) ?_
  have hlq := (H21.poolRd (k := 1) rfl hxp).lenL rowE
  obtain ⟨x22, hx22⟩ := ex_at (l := x.l) (j := ((a).toNat)) (by omega)
  clear hlq
  have hlx22 := hox.row_at hx22
  refine y_take (v := .slice x22.p x22.l.length x22.c) 3 rfl (wt0 rfl) rfl rfl rfl (by kernel_rfl) (by kernel_rfl) (by kernel_rfl) (by kernel_rfl) (by kernel_rfl) H21 (fun wx H => x_loadR1 ((a).toNat) (H.poolRd (k := 1) rfl hxp) (by omega) rfl rfl Tryz.underlying34 rfl (rowE.flAt1 hx22 rfl)) ?_
  refine y_take (v := .int .i64 me) 4 rfl (wt0 rfl) rfl rfl rfl (by kernel_rfl) (by kernel_rfl) (by kernel_rfl) (by kernel_rfl) (by kernel_rfl) H21 (fun wx H => x_load1 H 8 rfl rfl Tryz.underlying3 rfl rfl rfl) ?_
  refine y_pure (v := .pointer ((x22.p).map fun q => q.add (((me).toNat) * 1))) 5 rfl (wt0 rfl) rfl rfl rfl (by kernel_rfl) (by kernel_rfl) (by kernel_rfl) (by kernel_rfl) (fun wx => x_idxP ((me).toNat) ((H21.poolRow (k := 1) rfl hxp hx22).some (by omega)) rfl rfl rfl Tryz.underlying34 sz3 (by omega)) ?_
  have hlq := (H21.poolRow (k := 1) rfl hxp hx22).lenL intE
  obtain ⟨x23, hx23⟩ := ex_at (l := x22.l) (j := ((me).toNat)) (by omega)
  clear hlq
  have hyx23 := hox.ent hx22 hx23
  refine y_take (v := .int .i64 ((at2 x.v a me))) 6 rfl (wt0 rfl) rfl rfl rfl (by kernel_rfl) (by kernel_rfl) (by kernel_rfl) (by kernel_rfl) (by kernel_rfl) H21 (fun wx H => ex_cast (x_loadR1 ((me).toNat) (H.poolRow (k := 1) rfl hxp hx22) (by omega) rfl rfl Tryz.underlying3 rfl (intE.flAt1 hx23 rfl)) (by rw [at2_is hx22 hx23])) ?_
  refine y_pure (v := .bool (decide (((at2 x.v a me) : Int) = 0))) 7 rfl (wt0 rfl) rfl rfl rfl (by kernel_rfl) (by kernel_rfl) (by kernel_rfl) (by kernel_rfl) (fun wx => x_bin rfl rfl rfl b_eql) ?_
  refine y_done (by kernel_rfl) ?_
  refine g_then ?_
  by_cases hb24 : ((at2 x.v a me) : Int) = 0
  ·
   refine R.g_cond_t rfl (decide_eq_true hb24) ?_
   refine R.g_seq ?_
   refine R.g_region ?_
   refine R.l_of rfl (fun ⟨_, _, h⟩ => h) (s_store H21 5 (wt0 rfl) rfl rfl rfl rfl rfl sz4 rfl rfl (cs' := #[.bool true]) rfl ?_)
   intro wq25 H26
   refine R.g_nil ?_
   refine g_then ?_
   refine R.g_ret ?_
   refine g_in_ret ?_
   have H27 : S wq25 [(Big [Rw 29 1 gp gs.length gc (fl rowL gs), (Pool pl)]), Ob bk7 (.cells #[.slice gp gs.length gc] 49 (0, 0)), II, Kx, Ob g4 (.cells #[.bool true] 4 (0, 0)), Ob g1 (.cells #[.int .i64 a] 3 (0, 0)), Ob bg (.cells #[.pointer (some ⟨g, 0, none⟩)] 25 (0, 0)), Ob bm (.cells #[.int .i64 me] 3 (0, 0)), Ob g (.cells #[.slice gp gs.length gc, .string seed, .slice pp ps.length pc, .slice sp sn sc, .slice tp tn tc, .slice vp vn vc, .slice bp bn bc] 52 (0, 0)), Old w (fps [Ob bg (.cells #[.pointer (some ⟨g, 0, none⟩)] 25 (0, 0)), Ob bm (.cells #[.int .i64 me] 3 (0, 0)), Ob g (.cells #[.slice gp gs.length gc, .string seed, .slice pp ps.length pc, .slice sp sn sc, .slice tp tn tc, .slice vp vn vc, .slice bp bn bc] 52 (0, 0)), Rw 29 1 gp gs.length gc (fl rowL gs), (Pool pl)])] := S.big (L := [Rw 29 1 gp gs.length gc (fl rowL gs), (Pool pl)]) (H26.takes [0, 1, 2, 3, 4, 5, 6, 7, 8, 9, 10] (by decide))
   have H28 : S wq25 [(Big [Ob bk7 (.cells #[.slice gp gs.length gc] 49 (0, 0)), (Big [Rw 29 1 gp gs.length gc (fl rowL gs), (Pool pl)])]), II, Kx, Ob g4 (.cells #[.bool true] 4 (0, 0)), Ob g1 (.cells #[.int .i64 a] 3 (0, 0)), Ob bg (.cells #[.pointer (some ⟨g, 0, none⟩)] 25 (0, 0)), Ob bm (.cells #[.int .i64 me] 3 (0, 0)), Ob g (.cells #[.slice gp gs.length gc, .string seed, .slice pp ps.length pc, .slice sp sn sc, .slice tp tn tc, .slice vp vn vc, .slice bp bn bc] 52 (0, 0)), Old w (fps [Ob bg (.cells #[.pointer (some ⟨g, 0, none⟩)] 25 (0, 0)), Ob bm (.cells #[.int .i64 me] 3 (0, 0)), Ob g (.cells #[.slice gp gs.length gc, .string seed, .slice pp ps.length pc, .slice sp sn sc, .slice tp tn tc, .slice vp vn vc, .slice bp bn bc] 52 (0, 0)), Rw 29 1 gp gs.length gc (fl rowL gs), (Pool pl)])] := S.big (L := [Ob bk7 (.cells #[.slice gp gs.length gc] 49 (0, 0)), (Big [Rw 29 1 gp gs.length gc (fl rowL gs), (Pool pl)])]) (H27.takes [1, 0, 2, 3, 4, 5, 6, 7, 8, 9] (by decide))
   exact rj_ret (⟨rfl, (grim_t hxg hb24), rfl⟩) (H28.takes [0, 1, 2, 3, 4, 5, 6, 7, 8] (by decide))
  ·
   refine R.g_cond_f rfl (decide_eq_false hb24) ?_
   refine R.g_skip ?_
   refine g_in ?_
   have H29 : S wq20 [(Big [Rw 29 1 gp gs.length gc (fl rowL gs), (Pool pl)]), Ob bk7 (.cells #[.slice gp gs.length gc] 49 (0, 0)), II, Kx, Ob g4 (.cells #[.bool false] 4 (0, 0)), Ob g1 (.cells #[.int .i64 a] 3 (0, 0)), Ob bg (.cells #[.pointer (some ⟨g, 0, none⟩)] 25 (0, 0)), Ob bm (.cells #[.int .i64 me] 3 (0, 0)), Ob g (.cells #[.slice gp gs.length gc, .string seed, .slice pp ps.length pc, .slice sp sn sc, .slice tp tn tc, .slice vp vn vc, .slice bp bn bc] 52 (0, 0)), Old w (fps [Ob bg (.cells #[.pointer (some ⟨g, 0, none⟩)] 25 (0, 0)), Ob bm (.cells #[.int .i64 me] 3 (0, 0)), Ob g (.cells #[.slice gp gs.length gc, .string seed, .slice pp ps.length pc, .slice sp sn sc, .slice tp tn tc, .slice vp vn vc, .slice bp bn bc] 52 (0, 0)), Rw 29 1 gp gs.length gc (fl rowL gs), (Pool pl)])] := S.big (L := [Rw 29 1 gp gs.length gc (fl rowL gs), (Pool pl)]) (H21.takes [0, 1, 2, 3, 4, 5, 6, 7, 8, 9, 10] (by decide))
   have H30 : S wq20 [(Big [Ob bk7 (.cells #[.slice gp gs.length gc] 49 (0, 0)), (Big [Rw 29 1 gp gs.length gc (fl rowL gs), (Pool pl)])]), II, Kx, Ob g4 (.cells #[.bool false] 4 (0, 0)), Ob g1 (.cells #[.int .i64 a] 3 (0, 0)), Ob bg (.cells #[.pointer (some ⟨g, 0, none⟩)] 25 (0, 0)), Ob bm (.cells #[.int .i64 me] 3 (0, 0)), Ob g (.cells #[.slice gp gs.length gc, .string seed, .slice pp ps.length pc, .slice sp sn sc, .slice tp tn tc, .slice vp vn vc, .slice bp bn bc] 52 (0, 0)), Old w (fps [Ob bg (.cells #[.pointer (some ⟨g, 0, none⟩)] 25 (0, 0)), Ob bm (.cells #[.int .i64 me] 3 (0, 0)), Ob g (.cells #[.slice gp gs.length gc, .string seed, .slice pp ps.length pc, .slice sp sn sc, .slice tp tn tc, .slice vp vn vc, .slice bp bn bc] 52 (0, 0)), Rw 29 1 gp gs.length gc (fl rowL gs), (Pool pl)])] := S.big (L := [Ob bk7 (.cells #[.slice gp gs.length gc] 49 (0, 0)), (Big [Rw 29 1 gp gs.length gc (fl rowL gs), (Pool pl)])]) (H29.takes [1, 0, 2, 3, 4, 5, 6, 7, 8, 9] (by decide))
   exact rj_next ⟨(fun r hr => by rcases List.mem_append.1 hr with hr | hr; exact hJ r hr; rw [List.mem_singleton] at hr; subst hr; exact hb24), rfl⟩ (H30.takes [0, 1, 2, 3, 4, 5, 6, 7, 8] (by decide))
 ·
  rintro D xs _ W31 hxs ⟨hJ, rfl⟩ H32
  have H33 : S W31 [Ob bk7 (.cells #[.slice gp gs.length gc] 49 (0, 0)), (Big [Rw 29 1 gp gs.length gc (fl rowL gs), (Pool pl)]), Ob D (.deferred (some [])), Ob g4 (.cells #[.bool false] 4 (0, 0)), Ob g1 (.cells #[.int .i64 a] 3 (0, 0)), Ob bg (.cells #[.pointer (some ⟨g, 0, none⟩)] 25 (0, 0)), Ob bm (.cells #[.int .i64 me] 3 (0, 0)), Ob g (.cells #[.slice gp gs.length gc, .string seed, .slice pp ps.length pc, .slice sp sn sc, .slice tp tn tc, .slice vp vn vc, .slice bp bn bc] 52 (0, 0)), Old w (fps [Ob bg (.cells #[.pointer (some ⟨g, 0, none⟩)] 25 (0, 0)), Ob bm (.cells #[.int .i64 me] 3 (0, 0)), Ob g (.cells #[.slice gp gs.length gc, .string seed, .slice pp ps.length pc, .slice sp sn sc, .slice tp tn tc, .slice vp vn vc, .slice bp bn bc] 52 (0, 0)), Rw 29 1 gp gs.length gc (fl rowL gs), (Pool pl)])] := S.unbig (H32.takes [1, 0, 2, 3, 4, 5, 6, 7] (by decide))
  have H34 : S W31 [Rw 29 1 gp gs.length gc (fl rowL gs), (Pool pl), Ob bk7 (.cells #[.slice gp gs.length gc] 49 (0, 0)), Ob D (.deferred (some [])), Ob g4 (.cells #[.bool false] 4 (0, 0)), Ob g1 (.cells #[.int .i64 a] 3 (0, 0)), Ob bg (.cells #[.pointer (some ⟨g, 0, none⟩)] 25 (0, 0)), Ob bm (.cells #[.int .i64 me] 3 (0, 0)), Ob g (.cells #[.slice gp gs.length gc, .string seed, .slice pp ps.length pc, .slice sp sn sc, .slice tp tn tc, .slice vp vn vc, .slice bp bn bc] 52 (0, 0)), Old w (fps [Ob bg (.cells #[.pointer (some ⟨g, 0, none⟩)] 25 (0, 0)), Ob bm (.cells #[.int .i64 me] 3 (0, 0)), Ob g (.cells #[.slice gp gs.length gc, .string seed, .slice pp ps.length pc, .slice sp sn sc, .slice tp tn tc, .slice vp vn vc, .slice bp bn bc] 52 (0, 0)), Rw 29 1 gp gs.length gc (fl rowL gs), (Pool pl)])] := S.unbig (H33.takes [1, 0, 2, 3, 4, 5, 6, 7, 8] (by decide))
  have hgf : grimB (gs.map Rd.v) me a = false := grim_f (by rw [← hxs]; exact hJ)
  refine g_in ?_
  refine g_then ?_
  refine R.g_seq ?_
  refine R.g_region ?_
  refine R.l_of rfl (fun h => hL h) (s_store H34 4 (wt0 rfl) rfl rfl rfl rfl rfl sz4 rfl rfl (cs' := #[.bool false]) rfl ?_)
  intro wq35 H36
  refine R.g_nil ?_
  refine g_then ?_
  refine R.g_ret ?_
  refine fin_mark H36 3 rfl [.cell 4 4] [.bool false] rfl (fun wq37 H38 => ⟨⟨⟨_, rfl, run_load1 Tryz.underlying4 rfl (H38.cell (k := 4) rfl rfl)⟩, trivial⟩, ?_⟩)
  rw [hgf]
  exact ⟨rfl, (H38.takes [6, 7, 8, 0, 1, 9] (by decide))⟩
 ·
  rintro D cc pr _ W39 _ ⟨rfl, hgt, rfl⟩ H40
  have H41 : S W39 [Ob bk7 (.cells #[.slice gp gs.length gc] 49 (0, 0)), (Big [Rw 29 1 gp gs.length gc (fl rowL gs), (Pool pl)]), Ob D (.deferred (some [])), Ob g4 (.cells #[.bool true] 4 (0, 0)), Ob g1 (.cells #[.int .i64 a] 3 (0, 0)), Ob bg (.cells #[.pointer (some ⟨g, 0, none⟩)] 25 (0, 0)), Ob bm (.cells #[.int .i64 me] 3 (0, 0)), Ob g (.cells #[.slice gp gs.length gc, .string seed, .slice pp ps.length pc, .slice sp sn sc, .slice tp tn tc, .slice vp vn vc, .slice bp bn bc] 52 (0, 0)), Old w (fps [Ob bg (.cells #[.pointer (some ⟨g, 0, none⟩)] 25 (0, 0)), Ob bm (.cells #[.int .i64 me] 3 (0, 0)), Ob g (.cells #[.slice gp gs.length gc, .string seed, .slice pp ps.length pc, .slice sp sn sc, .slice tp tn tc, .slice vp vn vc, .slice bp bn bc] 52 (0, 0)), Rw 29 1 gp gs.length gc (fl rowL gs), (Pool pl)])] := S.unbig (H40.takes [1, 0, 2, 3, 4, 5, 6, 7] (by decide))
  have H42 : S W39 [Rw 29 1 gp gs.length gc (fl rowL gs), (Pool pl), Ob bk7 (.cells #[.slice gp gs.length gc] 49 (0, 0)), Ob D (.deferred (some [])), Ob g4 (.cells #[.bool true] 4 (0, 0)), Ob g1 (.cells #[.int .i64 a] 3 (0, 0)), Ob bg (.cells #[.pointer (some ⟨g, 0, none⟩)] 25 (0, 0)), Ob bm (.cells #[.int .i64 me] 3 (0, 0)), Ob g (.cells #[.slice gp gs.length gc, .string seed, .slice pp ps.length pc, .slice sp sn sc, .slice tp tn tc, .slice vp vn vc, .slice bp bn bc] 52 (0, 0)), Old w (fps [Ob bg (.cells #[.pointer (some ⟨g, 0, none⟩)] 25 (0, 0)), Ob bm (.cells #[.int .i64 me] 3 (0, 0)), Ob g (.cells #[.slice gp gs.length gc, .string seed, .slice pp ps.length pc, .slice sp sn sc, .slice tp tn tc, .slice vp vn vc, .slice bp bn bc] 52 (0, 0)), Rw 29 1 gp gs.length gc (fl rowL gs), (Pool pl)])] := S.unbig (H41.takes [1, 0, 2, 3, 4, 5, 6, 7, 8] (by decide))
  refine gw_ret ?_
  refine g_in_ret ?_
  refine g_then_ret ?_
  refine fin_mark H42 3 rfl [.cell 4 4] [.bool true] rfl (fun wq43 H44 => ⟨⟨⟨_, rfl, run_load1 Tryz.underlying4 rfl (H44.cell (k := 4) rfl rfl)⟩, trivial⟩, ?_⟩)
  rw [hgt]
  exact ⟨rfl, (H44.takes [6, 7, 8, 0, 1, 9] (by decide))⟩
theorem grim1_f (bg bm : Nat) (g : Nat) (seed : ByteArray) (pp : Option Addr) (pc : Nat) (ps : List Pl) (sp : Option Addr) (sc sn : Nat) (tp : Option Addr) (tc tn : Nat) (vp : Option Addr) (vc vn : Nat) (bp : Option Addr) (bc bn : Nat) (pl gs : List Rd) (gp : Option Addr) (gc : Nat) (hG : GsOK ps.length pl gs) (hgl : gs.length ≤ 200) (hnp : ps.length ≤ 9) (me : Int) (hme : 0 ≤ me ∧ me < ps.length) : FunC Tryz.prog 159 #[] #[.pointer (some ⟨bg, 0, none⟩), .pointer (some ⟨bm, 0, none⟩)] (Big [Ob bg (.cells #[.pointer (some ⟨g, 0, none⟩)] 25 (0, 0)), Ob bm (.cells #[.int .i64 me] 3 (0, 0)), Ob g (.cells #[.slice gp gs.length gc, .string seed, .slice pp ps.length pc, .slice sp sn sc, .slice tp tn tc, .slice vp vn vc, .slice bp bn bc] 52 (0, 0)), Rw 29 1 gp gs.length gc (fl rowL gs), (Pool pl)]) (fun x : Int => [.int .i64 x]) (fun x => .bool (grimB (gs.map Rd.v) me x)) (fun x => 0 ≤ x ∧ x < (ps.length : Int)) :=
  FunC.ofBig (by kernel_rfl) fun z hb w HS => grim1_s bg bm g seed pp pc ps sp sc sn tp tc tn vp vc vn bp bc bn pl gs gp gc hG hgl hnp me hme _ hb w HS
set_option maxRecDepth 20000 in
set_option maxHeartbeats 4000000 in
set_option maxRecDepth 20000 in
set_option maxHeartbeats 4000000 in
theorem grimly_s (g : Nat) (seed : ByteArray) (pp : Option Addr) (pc : Nat) (ps : List Pl) (sp : Option Addr) (sc sn : Nat) (tp : Option Addr) (tc tn : Nat) (vp : Option Addr) (vc vn : Nat) (bp : Option Addr) (bc bn : Nat) (pl gs : List Rd) (gp : Option Addr) (gc : Nat) (hG : GsOK ps.length pl gs) (hgl : gs.length ≤ 200) (hnp : ps.length ≤ 9) (me : Int) (h0m : 0 ≤ me) (pm : Pl) (hm : ps[me.toNat]? = some pm) (rt : Int) (hrt : pm.rt = rt) (hr0 : 0 ≤ rt ∧ rt ≤ 1000000)  (w : World) (HS : S w [Ob g (.cells #[.slice gp gs.length gc, .string seed, .slice pp ps.length pc, .slice sp sn sc, .slice tp tn tc, .slice vp vn vc, .slice bp bn bc] 52 (0, 0)), Rw 29 1 gp gs.length gc (fl rowL gs), Rw 33 2 pp ps.length pc (fl plL ps), (Pool pl)]) : Calls Tryz.prog 157 #[.agg #[], .pointer (some ⟨g, 0, none⟩), .int .i64 me] w fun e w' => ∃ p' c', e = .returned (.slice p' (grimV ps.length rt (gs.map Rd.v) me).length c') ∧ S w' ([Rw 3 1 p' (grimV ps.length rt (gs.map Rd.v) me).length c' (fl intL (grimV ps.length rt (gs.map Rd.v) me)), Ob g (.cells #[.slice gp gs.length gc, .string seed, .slice pp ps.length pc, .slice sp sn sc, .slice tp tn tc, .slice vp vn vc, .slice bp bn bc] 52 (0, 0)), Rw 29 1 gp gs.length gc (fl rowL gs), Rw 33 2 pp ps.length pc (fl plL ps), (Pool pl)] ++ [Old w (fps [Ob g (.cells #[.slice gp gs.length gc, .string seed, .slice pp ps.length pc, .slice sp sn sc, .slice tp tn tc, .slice vp vn vc, .slice bp bn bc] 52 (0, 0)), Rw 29 1 gp gs.length gc (fl rowL gs), Rw 33 2 pp ps.length pc (fl plL ps), (Pool pl)])]) := by
 have H0 := HS.beginI
 have hmp := (List.getElem?_eq_some_iff.1 hm).1
 refine enter 15 Tryz.func157 rfl rfl rfl ?_
 refine g_weak [(0, .agg #[]), (1, .pointer (some ⟨g, 0, none⟩)), (2, .int .i64 me)] ⟨rfl, rfl, rfl, trivial⟩ ?_
 refine g_seq ?_
 refine g_region ?_
 refine l_of (s_box H0 (wt0 rfl) rfl rfl rfl rfl ?_)
 intro g1 wq2 H3
 refine l_of (s_box H3 (wt0 rfl) rfl rfl rfl rfl ?_)
 intro g4 wq5 H6
 refine l_of (s_box H6 (wt0 rfl) rfl rfl rfl rfl ?_)
 intro g7 wq8 H9
 refine l_of (s_val (v := .slice none 0 0) (wt0 rfl) rfl rfl (x_assign rfl rfl) ?_)
 refine g_nil ?_
 refine g_then ?_
 refine g_seq ?_
 refine g_anyY [] (fun wx => S wx [Ob g7 (.cells #[.int .i64 me] 3 (0, 0)), Ob g4 (.cells #[.pointer (some ⟨g, 0, none⟩)] 25 (0, 0))]) (fun wx => S wx [Ob g7 (.cells #[.int .i64 me] 3 (0, 0)), Ob g4 (.cells #[.pointer (some ⟨g, 0, none⟩)] 25 (0, 0))]) [] (by kernel_rfl) H9 (fun wq10 H11 => ?_)
 refine y_take (v := .pointer (some ⟨g, 0, none⟩)) 0 rfl (wt0 rfl) rfl rfl rfl (by kernel_rfl) (by kernel_rfl) (by kernel_rfl) (by kernel_rfl) (by kernel_rfl) (H11.mask [true, true, false, false, false, false, false, false]) (fun wx H => x_load1 H 1 rfl rfl Tryz.underlying25 rfl rfl rfl) ?_
 refine y_take (v := .int .i64 me) 1 rfl (wt0 rfl) rfl rfl rfl (by kernel_rfl) (by kernel_rfl) (by kernel_rfl) (by kernel_rfl) (by kernel_rfl) (H11.mask [true, true, false, false, false, false, false, false]) (fun wx H => x_load1 H 0 rfl rfl Tryz.underlying3 rfl rfl rfl) ?_
 refine y_take (v := .pointer (some ⟨g, 0, none⟩)) 2 rfl (wt0 rfl) rfl rfl rfl (by kernel_rfl) (by kernel_rfl) (by kernel_rfl) (by kernel_rfl) (by kernel_rfl) (H11.mask [true, true, false, false, false, false, false, false]) (fun wx H => x_load1 H 1 rfl rfl Tryz.underlying25 rfl rfl rfl) ?_
 refine y_take (v := .int .i64 me) 3 rfl (wt0 rfl) rfl rfl rfl (by kernel_rfl) (by kernel_rfl) (by kernel_rfl) (by kernel_rfl) (by kernel_rfl) (H11.mask [true, true, false, false, false, false, false, false]) (fun wx H => x_load1 H 0 rfl rfl Tryz.underlying3 rfl rfl rfl) ?_
 refine y_pure (v := .func (.func 159) #[] #[.pointer (some ⟨g4, 0, none⟩), .pointer (some ⟨g7, 0, none⟩)]) 5 rfl (wt0 rfl) rfl rfl rfl (by kernel_rfl) (by kernel_rfl) (by kernel_rfl) (by kernel_rfl) (fun wx => x_makeFunc rfl rfl rfl) ?_
 refine y_one (i := 4) (by kernel_rfl) rfl ?_
 refine s_call (wt0 rfl) (x_call' rfl rfl cl49) (others_s g gp gc gs.length seed pp pc ps sp sc sn tp tc tn vp vc vn bp bc bn (by omega) me _ (H11.takes [3] (by decide))) ?_
 rintro _ wq14 ⟨po12, co13, rfl, H15⟩
 replace H15 : S wq14 [Rw 3 1 po12 ((othV ps.length me).length) co13 (fl intL (othV ps.length me)), Ob g (.cells #[.slice gp gs.length gc, .string seed, .slice pp ps.length pc, .slice sp sn sc, .slice tp tn tc, .slice vp vn vc, .slice bp bn bc] 52 (0, 0)), Ob g7 (.cells #[.int .i64 me] 3 (0, 0)), Ob g4 (.cells #[.pointer (some ⟨g, 0, none⟩)] 25 (0, 0)), Ob g1 (.cells #[] 73 (0, 0)), Rw 29 1 gp gs.length gc (fl rowL gs), Rw 33 2 pp ps.length pc (fl plL ps), (Pool pl), Old w (fps [Ob g (.cells #[.slice gp gs.length gc, .string seed, .slice pp ps.length pc, .slice sp sn sc, .slice tp tn tc, .slice vp vn vc, .slice bp bn bc] 52 (0, 0)), Rw 29 1 gp gs.length gc (fl rowL gs), Rw 33 2 pp ps.length pc (fl plL ps), (Pool pl)])] := H11.absorbI (new := [Rw 3 1 po12 ((othV ps.length me).length) co13 (fl intL (othV ps.length me)), Ob g (.cells #[.slice gp gs.length gc, .string seed, .slice pp ps.length pc, .slice sp sn sc, .slice tp tn tc, .slice vp vn vc, .slice bp bn bc] 52 (0, 0))]) [3] H15
 have hol := othV_len ps.length me
 refine b_ret rfl rfl ?_
 refine y_k (H15.mask [false, false, true, true, false, false, false, false, false]) (H15.mask [false, false, true, true, false, false, false, false, false]) ?_
 refine y_one (i := 6) (by kernel_rfl) rfl ?_
 have H16 : S wq14 [(Big [Ob g4 (.cells #[.pointer (some ⟨g, 0, none⟩)] 25 (0, 0)), Ob g7 (.cells #[.int .i64 me] 3 (0, 0)), Ob g (.cells #[.slice gp gs.length gc, .string seed, .slice pp ps.length pc, .slice sp sn sc, .slice tp tn tc, .slice vp vn vc, .slice bp bn bc] 52 (0, 0)), Rw 29 1 gp gs.length gc (fl rowL gs), (Pool pl)]), Rw 3 1 po12 ((othV ps.length me).length) co13 (fl intL (othV ps.length me)), Ob g1 (.cells #[] 73 (0, 0)), Rw 33 2 pp ps.length pc (fl plL ps), Old w (fps [Ob g (.cells #[.slice gp gs.length gc, .string seed, .slice pp ps.length pc, .slice sp sn sc, .slice tp tn tc, .slice vp vn vc, .slice bp bn bc] 52 (0, 0)), Rw 29 1 gp gs.length gc (fl rowL gs), Rw 33 2 pp ps.length pc (fl plL ps), (Pool pl)])] := S.big (L := [Ob g4 (.cells #[.pointer (some ⟨g, 0, none⟩)] 25 (0, 0)), Ob g7 (.cells #[.int .i64 me] 3 (0, 0)), Ob g (.cells #[.slice gp gs.length gc, .string seed, .slice pp ps.length pc, .slice sp sn sc, .slice tp tn tc, .slice vp vn vc, .slice bp bn bc] 52 (0, 0)), Rw 29 1 gp gs.length gc (fl rowL gs), (Pool pl)]) (H15.takes [3, 2, 1, 5, 7, 0, 4, 6, 8] (by decide))
 refine s_call (wt0 rfl) (x_call' rfl rfl cl158) (delF_i (othV ps.length me) po12 co13 (by omega) (grimB (gs.map Rd.v) me) 159 #[] #[.pointer (some ⟨g4, 0, none⟩), .pointer (some ⟨g7, 0, none⟩)] (Big [Ob g4 (.cells #[.pointer (some ⟨g, 0, none⟩)] 25 (0, 0)), Ob g7 (.cells #[.int .i64 me] 3 (0, 0)), Ob g (.cells #[.slice gp gs.length gc, .string seed, .slice pp ps.length pc, .slice sp sn sc, .slice tp tn tc, .slice vp vn vc, .slice bp bn bc] 52 (0, 0)), Rw 29 1 gp gs.length gc (fl rowL gs), (Pool pl)]) (fun x => 0 ≤ x ∧ x < (ps.length : Int)) (grim1_f g4 g7 g seed pp pc ps sp sc sn tp tc tn vp vc vn bp bc bn pl gs gp gc hG hgl hnp me ⟨h0m, by omega⟩) (fun x hx => (othV_mem.1 hx).1) _ (H16.takes [0, 1] (by decide))) ?_
 rintro _ wq17 ⟨rfl, H18⟩
 replace H18 : S wq17 [(Big [Ob g4 (.cells #[.pointer (some ⟨g, 0, none⟩)] 25 (0, 0)), Ob g7 (.cells #[.int .i64 me] 3 (0, 0)), Ob g (.cells #[.slice gp gs.length gc, .string seed, .slice pp ps.length pc, .slice sp sn sc, .slice tp tn tc, .slice vp vn vc, .slice bp bn bc] 52 (0, 0)), Rw 29 1 gp gs.length gc (fl rowL gs), (Pool pl)]), Rw 3 1 po12 ((keepS (grimB (gs.map Rd.v) me) (othV ps.length me)).length) co13 (fl intL (keepS (grimB (gs.map Rd.v) me) (othV ps.length me))), Ob g1 (.cells #[] 73 (0, 0)), Rw 33 2 pp ps.length pc (fl plL ps), Old w (fps [Ob g (.cells #[.slice gp gs.length gc, .string seed, .slice pp ps.length pc, .slice sp sn sc, .slice tp tn tc, .slice vp vn vc, .slice bp bn bc] 52 (0, 0)), Rw 29 1 gp gs.length gc (fl rowL gs), Rw 33 2 pp ps.length pc (fl plL ps), (Pool pl)])] := H16.absorbI (new := [(Big [Ob g4 (.cells #[.pointer (some ⟨g, 0, none⟩)] 25 (0, 0)), Ob g7 (.cells #[.int .i64 me] 3 (0, 0)), Ob g (.cells #[.slice gp gs.length gc, .string seed, .slice pp ps.length pc, .slice sp sn sc, .slice tp tn tc, .slice vp vn vc, .slice bp bn bc] 52 (0, 0)), Rw 29 1 gp gs.length gc (fl rowL gs), (Pool pl)]), Rw 3 1 po12 ((keepS (grimB (gs.map Rd.v) me) (othV ps.length me)).length) co13 (fl intL (keepS (grimB (gs.map Rd.v) me) (othV ps.length me)))]) [0, 1] H18
 have H19 : S wq17 [Ob g4 (.cells #[.pointer (some ⟨g, 0, none⟩)] 25 (0, 0)), Ob g7 (.cells #[.int .i64 me] 3 (0, 0)), Ob g (.cells #[.slice gp gs.length gc, .string seed, .slice pp ps.length pc, .slice sp sn sc, .slice tp tn tc, .slice vp vn vc, .slice bp bn bc] 52 (0, 0)), Rw 29 1 gp gs.length gc (fl rowL gs), (Pool pl), Rw 3 1 po12 ((keepS (grimB (gs.map Rd.v) me) (othV ps.length me)).length) co13 (fl intL (keepS (grimB (gs.map Rd.v) me) (othV ps.length me))), Ob g1 (.cells #[] 73 (0, 0)), Rw 33 2 pp ps.length pc (fl plL ps), Old w (fps [Ob g (.cells #[.slice gp gs.length gc, .string seed, .slice pp ps.length pc, .slice sp sn sc, .slice tp tn tc, .slice vp vn vc, .slice bp bn bc] 52 (0, 0)), Rw 29 1 gp gs.length gc (fl rowL gs), Rw 33 2 pp ps.length pc (fl plL ps), (Pool pl)])] := S.unbig (H18.takes [0, 1, 2, 3, 4] (by decide))
 refine b_ret rfl rfl ?_
 refine y_k (H19.takes [1, 0] (by decide)) (H19.takes [1, 0] (by decide)) ?_
 refine y_one (i := 7) (by kernel_rfl) rfl ?_
 refine s_call (wt0 rfl) (x_call' rfl rfl cl53) (evenly_s g gp gc gs.length seed pp pc ps sp sc sn tp tc tn vp vc vn bp bc bn (by omega) me h0m pm hm rt hrt hr0 (keepS (grimB (gs.map Rd.v) me) (othV ps.length me)) po12 co13 (fun x hx => (othV_mem.1 (keepS_mem hx)).1) (by have hkl := keepS_len (grimB (gs.map Rd.v) me) (othV ps.length me); omega) _ (H19.takes [5, 2, 7] (by decide))) ?_
 rintro _ wq22 ⟨pe20, ce21, rfl, H23⟩
 replace H23 : S wq22 [Rw 3 1 pe20 ((evnV ps.length rt (keepS (grimB (gs.map Rd.v) me) (othV ps.length me))).length) ce21 (fl intL (evnV ps.length rt (keepS (grimB (gs.map Rd.v) me) (othV ps.length me)))), Rw 3 1 po12 ((keepS (grimB (gs.map Rd.v) me) (othV ps.length me)).length) co13 (fl intL (keepS (grimB (gs.map Rd.v) me) (othV ps.length me))), Ob g (.cells #[.slice gp gs.length gc, .string seed, .slice pp ps.length pc, .slice sp sn sc, .slice tp tn tc, .slice vp vn vc, .slice bp bn bc] 52 (0, 0)), Rw 33 2 pp ps.length pc (fl plL ps), Ob g4 (.cells #[.pointer (some ⟨g, 0, none⟩)] 25 (0, 0)), Ob g7 (.cells #[.int .i64 me] 3 (0, 0)), Rw 29 1 gp gs.length gc (fl rowL gs), (Pool pl), Ob g1 (.cells #[] 73 (0, 0)), Old w (fps [Ob g (.cells #[.slice gp gs.length gc, .string seed, .slice pp ps.length pc, .slice sp sn sc, .slice tp tn tc, .slice vp vn vc, .slice bp bn bc] 52 (0, 0)), Rw 29 1 gp gs.length gc (fl rowL gs), Rw 33 2 pp ps.length pc (fl plL ps), (Pool pl)])] := H19.absorbI (new := [Rw 3 1 pe20 ((evnV ps.length rt (keepS (grimB (gs.map Rd.v) me) (othV ps.length me))).length) ce21 (fl intL (evnV ps.length rt (keepS (grimB (gs.map Rd.v) me) (othV ps.length me)))), Rw 3 1 po12 ((keepS (grimB (gs.map Rd.v) me) (othV ps.length me)).length) co13 (fl intL (keepS (grimB (gs.map Rd.v) me) (othV ps.length me))), Ob g (.cells #[.slice gp gs.length gc, .string seed, .slice pp ps.length pc, .slice sp sn sc, .slice tp tn tc, .slice vp vn vc, .slice bp bn bc] 52 (0, 0)), Rw 33 2 pp ps.length pc (fl plL ps)]) [5, 2, 7] H23
 refine b_ret rfl rfl ?_
 refine y_k (H23.takes [5, 4] (by decide)) (H23.takes [5, 4] (by decide)) ?_
 refine y_pure (v := .slice pe20 ((evnV ps.length rt (keepS (grimB (gs.map Rd.v) me) (othV ps.length me))).length) ce21) 8 rfl (wt0 rfl) rfl rfl rfl (by kernel_rfl) (by kernel_rfl) (by kernel_rfl) (by kernel_rfl) (fun wx => x_assign rfl rfl) ?_
 refine y_done (by kernel_rfl) ?_
 refine g_then ?_
 refine g_weak [(6, .slice pe20 ((evnV ps.length rt (keepS (grimB (gs.map Rd.v) me) (othV ps.length me))).length) ce21)] ⟨rfl, trivial⟩ ?_
 refine g_ret ?_
 refine fin_ret [.tmp 6] [.slice pe20 ((evnV ps.length rt (keepS (grimB (gs.map Rd.v) me) (othV ps.length me))).length) ce21] rfl ⟨rfl, trivial⟩ ?_
 exact ⟨_, _, rfl, H23.takes [0, 2, 6, 3, 7, 9] (by decide)⟩
end Go.Proofs.YtpbjekdjebjbkaaGreat
