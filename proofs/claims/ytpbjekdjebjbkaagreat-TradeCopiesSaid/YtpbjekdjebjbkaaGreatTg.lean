import Derived.Test.YtpbjekdjebjbkaaGreatFk
import Derived.Test.YtpbjekdjebjbkaaGreatTf
set_option linter.unusedSimpArgs false
set_option linter.unusedVariables false
namespace Go.Proofs.YtpbjekdjebjbkaaGreat
open Go.RowKit

theorem cl163 : callable Tryz.prog 163 = true := by kernel_rfl
theorem cl45 : callable Tryz.prog 45 = true := by kernel_rfl
theorem lastV_bd {n : Nat} {pl gs : List Rd} (h : GsOK n pl gs) (a b : Int) : 0 ≤ lastV (gs.map Rd.v) a b ∧ lastV (gs.map Rd.v) a b ≤ 1000000 := by
  unfold lastV
  cases e : (gs.map Rd.v).getLast? with
  | none => show (0 : Int) ≤ 0 ∧ (0 : Int) ≤ 1000000; decide
  | some r =>
    obtain ⟨x, hx, rfl⟩ := List.mem_map.1 (List.mem_of_getLast? e)
    exact (h.ok x hx).at2 a b
theorem most_one {f : Int → Int} {l : List Int} {x : Int} (h : l[0]? = some x) : mostF f (l.take 1) = x := by
  cases l with
  | nil => cases h
  | cons a l =>
    have e : a = x := by simpa using h
    subst e; rfl
theorem mostF_snoc {f : Int → Int} {l : List Int} {x : Int} (h : l ≠ []) : mostF f (l ++ [x]) = if 0 < f x - f (mostF f l) then x else mostF f l := by
  cases l with
  | nil => exact absurd rfl h
  | cons a l =>
    show List.foldl _ a (l ++ [x]) = _
    rw [List.foldl_append]; rfl
theorem most_step {f : Int → Int} {l : List Int} {i : Nat} {x m : Int} (hx : l[i]? = some x) (h1 : 1 ≤ i) (hm : m = mostF f (l.take i)) : mostF f (l.take (i + 1)) = if 0 < f x - f m then x else m := by
  have hil := (List.getElem?_eq_some_iff.1 hx).1
  have hne : l.take i ≠ [] := fun h => by
    have := congrArg List.length h
    rw [List.length_take, List.length_nil] at this
    omega
  rw [take_snocT hx, mostF_snoc hne, ← hm]
theorem mirF_snoc (f : Int → Int) (n : Nat) (rt : Int) (l : List Int) (x : Int) : mirF f n rt (l ++ [x]) = mirS f (mirF f n rt l) x := by
  unfold mirF
  rw [List.foldl_append]; rfl
theorem rivL_valid {n : Nat} {pl gs : List Rd} {bw : List (List Int)} {me : Int} (h : GsOK n pl gs) (hn : n ≤ 9) {x : Rv} (hx : x ∈ rivL n (gs.map Rd.v) bw me) : validR x = true := by
  unfold rivL at hx
  obtain ⟨i, hi, rfl⟩ := List.mem_map.1 hx
  have h1 := (othV_mem.1 hi).1
  have h2 := lastV_bd h i me
  have h3 := lastV_bd h me i
  have h4 : -1 ≤ (rvOf (gs.map Rd.v) bw me i).lt ∧ (rvOf (gs.map Rd.v) bw me i).lt ≤ 1000000000 := by
    unfold rvOf
    dsimp only
    split <;> omega
  have e1 : (rvOf (gs.map Rd.v) bw me i).id = i := rfl
  have e2 : (rvOf (gs.map Rd.v) bw me i).frm = lastV (gs.map Rd.v) i me := rfl
  have e3 : (rvOf (gs.map Rd.v) bw me i).to = lastV (gs.map Rd.v) me i := rfl
  have e4 : (rvOf (gs.map Rd.v) bw me i).since = 0 := rfl
  unfold validR numB
  simp only [Bool.and_eq_true, decide_eq_true_eq, e1, e2, e3, e4]
  omega
set_option maxRecDepth 20000 in
set_option maxHeartbeats 4000000 in
theorem maxF_i (l : List Int) (p : Option Addr) (n c : Nat) (hn : n ≤ 9223372036854775807) (h0 : 1 ≤ n) (f : Int → Int) (gc : Nat) (fi ca : Array Value) (X : Item) (D : Int → Prop) (hq : FunC Tryz.prog gc fi ca X (fun p : Int × Int => [.int .i64 p.1, .int .i64 p.2]) (fun p => .int .i64 (f p.1 - f p.2)) (fun p => D p.1 ∧ D p.2)) (hD : ∀ x ∈ l, D x)  (w : World) (HS : S w [X]) (hr : Reads w p n c 1 (fl intL l)) (hap : Apart w X p n c 1 (fl intL l)) : Calls Tryz.prog 163 #[.slice p n c, .func (.func gc) fi ca] w fun e w' => e = .returned (.int .i64 (mostF f l)) ∧ S w' ([X] ++ [Old w (fps [X])]) := by
 have H0 := HS.beginI
 have hn2 := hr.lenL intE
 refine enter 33 Tryz.func163 rfl rfl rfl ?_
 refine g_weak [(0, .slice p n c), (1, .func (.func gc) fi ca)] ⟨rfl, rfl, trivial⟩ ?_
 refine w_s ?_
 refine w_a ?_
 refine w_e ?_
 refine g_seq ?_
 refine w_s ?_
 refine w_m ?_
 refine w_v (v := .int .i64 ((n : Int))) (x_lenl rfl rfl Tryz.underlying34) ?_
 refine w_b ?_
 refine w_e ?_
 refine g_cond_f rfl (decide_eq_false (by omega)) ?_
 refine g_skip ?_
 refine g_then ?_
 refine w_s ?_
 refine w_m ?_
 refine w_v (v := .pointer ((p).map fun q => q.add (0 * 1))) (x_idxR 0 ((hap _ (H0.takes [0, 1] (by decide)))) rfl rfl rfl Tryz.underlying34 sz3 (by omega)) ?_
 have hlq := ((hap _ (H0.takes [0, 1] (by decide)))).lenL intE
 obtain ⟨x1, hx1⟩ := ex_at (l := l) (j := 0) (by omega)
 clear hlq
 refine w_v (v := .int .i64 x1) (x_loadR1 0 ((hap _ (H0.takes [0, 1] (by decide)))) (by omega) rfl rfl Tryz.underlying3 rfl (intE.flAt1 hx1 rfl)) ?_
 refine w_a ?_
 refine w_e ?_
 refine g_seq ?_
 refine w_s ?_
 refine w_a ?_
 refine w_e ?_
 refine g_block ?_
 refine g_loop (ι := Nat × Int) (fun (i, m) => [(0, .slice p n c), (1, .func (.func gc) fi ca), (5, .int .i64 m), (6, .int .i64 ((i : Int)))]) (fun (i, m) wx => (1 ≤ i) ∧ (i ≤ n) ∧ (m = mostF f (l.take i)) ∧ (m ∈ l) ∧ S wx [X, Old w (fps [X])]) (fun (i, m) => n - i) (1, x1) ⟨rfl, rfl, rfl, rfl, trivial⟩ ⟨(Nat.le_refl _), (by omega), (most_one hx1).symm, (List.mem_of_getElem? hx1), (H0.takes [0, 1] (by decide))⟩ ?_
 rintro ⟨i, m⟩ wq2 ⟨h1, hi, hm, hmm, H3⟩
 refine g_weak [(0, .slice p n c), (1, .func (.func gc) fi ca), (5, .int .i64 m), (6, .int .i64 ((i : Int)))] ⟨rfl, rfl, rfl, rfl, trivial⟩ ?_
 refine g_seq ?_
 refine w_s ?_
 refine w_r2 ?_
 refine w_v (v := .int .i64 ((n : Int))) (x_lenl rfl rfl Tryz.underlying34) ?_
 refine w_b ?_
 refine w_e ?_
 by_cases hb4 : ((i : Int) : Int) < (n : Int)
 ·
  refine g_cond_t rfl (decide_eq_true hb4) ?_
  refine g_skip ?_
  refine g_then ?_
  refine g_seq ?_
  refine g_block ?_
  refine w_s ?_
  refine w_r3 ?_
  refine w_v (v := .pointer ((p).map fun q => q.add (i * 1))) (x_idxR i ((hap _ (H3.takes [0, 1] (by decide)))) rfl rfl rfl Tryz.underlying34 sz3 (by omega)) ?_
  have hlq := ((hap _ (H3.takes [0, 1] (by decide)))).lenL intE
  obtain ⟨x5, hx5⟩ := ex_at (l := l) (j := i) (by omega)
  clear hlq
  refine w_v (v := .int .i64 x5) (x_loadR1 i ((hap _ (H3.takes [0, 1] (by decide)))) (by omega) rfl rfl Tryz.underlying3 rfl (intE.flAt1 hx5 rfl)) ?_
  refine w_m ?_
  refine l_of (s_call (wt0 rfl) (x_call rfl rfl rfl hq.ok) (hq.does (x5, m) (⟨hD _ (List.mem_of_getElem? hx5), hD _ hmm⟩) _ (H3.takes [0] (by decide))) ?_)
  rintro _ wq6 ⟨rfl, H7⟩
  replace H7 : S wq6 [X, Old w (fps [X])] := by have h := H3.absorbI [0] H7; exact h
  refine b_ret rfl rfl ?_
  refine w_b ?_
  refine w_e ?_
  by_cases hb8 : (0 : Int) < (f x5 - f m)
  ·
   refine g_cond_t rfl (decide_eq_true hb8) ?_
   refine g_region ?_
   refine w_r2 ?_
   refine w_v (v := .pointer ((p).map fun q => q.add (i * 1))) (x_idxR i ((hap _ (H7.takes [0, 1] (by decide)))) rfl rfl rfl Tryz.underlying34 sz3 (by omega)) ?_
   refine w_v (v := .int .i64 x5) (x_loadR1 i ((hap _ (H7.takes [0, 1] (by decide)))) (by omega) rfl rfl Tryz.underlying3 rfl (intE.flAt1 hx5 rfl)) ?_
   refine w_a ?_
   refine g_nil ?_
   refine g_in ?_
   refine g_then ?_
   refine g_weak [(0, .slice p n c), (1, .func (.func gc) fi ca), (5, .int .i64 x5), (6, .int .i64 ((i : Int)))] ⟨rfl, rfl, rfl, rfl, trivial⟩ ?_
   refine g_region ?_
   refine w_m ?_
   refine w_b (v := .int .i64 (((i + 1 : Nat) : Int))) (hb := (b_add (by rw [w64 (by omega)]; omega))) ?_
   refine w_a ?_
   refine w_e ?_
   refine g_round (i := (i, m)) ((i + 1), x5) ?_ ?_ ?_
   · exact ⟨rfl, rfl, rfl, rfl, trivial⟩
   · exact ⟨(by omega), (by omega), (by rw [most_step hx5 h1 hm, if_pos hb8]), (List.mem_of_getElem? hx5), (H7.takes [0, 1] (by decide))⟩
   · (try dsimp only); omega
  ·
   refine g_cond_f rfl (decide_eq_false hb8) ?_
   refine g_skip ?_
   refine g_in ?_
   refine g_then ?_
   refine g_weak [(0, .slice p n c), (1, .func (.func gc) fi ca), (5, .int .i64 m), (6, .int .i64 ((i : Int)))] ⟨rfl, rfl, rfl, rfl, trivial⟩ ?_
   refine g_region ?_
   refine w_m ?_
   refine w_b (v := .int .i64 (((i + 1 : Nat) : Int))) (hb := (b_add (by rw [w64 (by omega)]; omega))) ?_
   refine w_a ?_
   refine w_e ?_
   refine g_round (i := (i, m)) ((i + 1), m) ?_ ?_ ?_
   · exact ⟨rfl, rfl, rfl, rfl, trivial⟩
   · exact ⟨(by omega), (by omega), (by rw [most_step hx5 h1 hm, if_neg hb8]), hmm, (H7.takes [0, 1] (by decide))⟩
   · (try dsimp only); omega
 ·
  refine g_cond_f rfl (decide_eq_false hb4) ?_
  refine g_exit ?_
  refine g_then_exit ?_
  refine g_then_exit ?_
  refine g_in_hit ?_
  refine g_then ?_
  refine w_s ?_
  refine w_r2 ?_
  refine w_e ?_
  refine g_ret ?_
  refine fin_ret [.tmp 4] [.int .i64 m] rfl ⟨rfl, trivial⟩ ?_
  rw [List.take_of_length_le (by omega)] at hm
  rw [← hm]
  exact ⟨rfl, H3.takes [0, 1] (by decide)⟩
set_option maxRecDepth 20000 in
set_option maxHeartbeats 4000000 in
theorem best1_s (bg bm : Nat) (g : Nat) (seed : ByteArray) (pp : Option Addr) (pc : Nat) (ps : List Pl) (sp : Option Addr) (sc sn : Nat) (tp : Option Addr) (tc tn : Nat) (vp : Option Addr) (vc vn : Nat) (bp : Option Addr) (bc bn : Nat) (pl gs : List Rd) (gp : Option Addr) (gc : Nat) (hG : GsOK ps.length pl gs) (hgl : gs.length ≤ 200) (hnp : ps.length ≤ 9) (me : Int) (hme : 0 ≤ me ∧ me < ps.length) (a b : Int) (ha : 0 ≤ a ∧ a < ps.length) (hb : 0 ≤ b ∧ b < ps.length)  (w : World) (HS : S w [Ob bg (.cells #[.pointer (some ⟨g, 0, none⟩)] 25 (0, 0)), Ob bm (.cells #[.int .i64 me] 3 (0, 0)), Ob g (.cells #[.slice gp gs.length gc, .string seed, .slice pp ps.length pc, .slice sp sn sc, .slice tp tn tc, .slice vp vn vc, .slice bp bn bc] 52 (0, 0)), Rw 29 1 gp gs.length gc (fl rowL gs), (Pool pl)]) : Calls Tryz.prog 164 #[.int .i64 a, .int .i64 b, .pointer (some ⟨bg, 0, none⟩), .pointer (some ⟨bm, 0, none⟩)] w fun e w' => e = .returned (.int .i64 ((lastV (gs.map Rd.v) a me) - (lastV (gs.map Rd.v) b me))) ∧ S w' ([Ob bg (.cells #[.pointer (some ⟨g, 0, none⟩)] 25 (0, 0)), Ob bm (.cells #[.int .i64 me] 3 (0, 0)), Ob g (.cells #[.slice gp gs.length gc, .string seed, .slice pp ps.length pc, .slice sp sn sc, .slice tp tn tc, .slice vp vn vc, .slice bp bn bc] 52 (0, 0)), Rw 29 1 gp gs.length gc (fl rowL gs), (Pool pl)] ++ [Old w (fps [Ob bg (.cells #[.pointer (some ⟨g, 0, none⟩)] 25 (0, 0)), Ob bm (.cells #[.int .i64 me] 3 (0, 0)), Ob g (.cells #[.slice gp gs.length gc, .string seed, .slice pp ps.length pc, .slice sp sn sc, .slice tp tn tc, .slice vp vn vc, .slice bp bn bc] 52 (0, 0)), Rw 29 1 gp gs.length gc (fl rowL gs), (Pool pl)])]) := by
 have H0 := HS.beginI
 refine enter 22 Tryz.func164 rfl rfl rfl ?_
 refine g_weak [(0, .int .i64 a), (1, .int .i64 b), (2, .pointer (some ⟨bg, 0, none⟩)), (3, .pointer (some ⟨bm, 0, none⟩))] ⟨rfl, rfl, rfl, rfl, trivial⟩ ?_
 refine w_s ?_
 refine w_a ?_
 refine w_e ?_
 refine g_seq ?_
 refine g_anyY [] (fun wx => S wx [Ob bg (.cells #[.pointer (some ⟨g, 0, none⟩)] 25 (0, 0)), Ob bm (.cells #[.int .i64 me] 3 (0, 0)), Ob g (.cells #[.slice gp gs.length gc, .string seed, .slice pp ps.length pc, .slice sp sn sc, .slice tp tn tc, .slice vp vn vc, .slice bp bn bc] 52 (0, 0))]) (fun wx => S wx [Ob bg (.cells #[.pointer (some ⟨g, 0, none⟩)] 25 (0, 0)), Ob bm (.cells #[.int .i64 me] 3 (0, 0)), Ob g (.cells #[.slice gp gs.length gc, .string seed, .slice pp ps.length pc, .slice sp sn sc, .slice tp tn tc, .slice vp vn vc, .slice bp bn bc] 52 (0, 0))]) [] (by kernel_rfl) H0 (fun wq1 H2 => ?_)
 have cm1 := H2.mask [true, true, true, false, false, false]
 refine y_take (v := .pointer (some ⟨g, 0, none⟩)) 0 rfl (wt0 rfl) rfl rfl rfl (by kernel_rfl) (by kernel_rfl) (by kernel_rfl) (by kernel_rfl) (by kernel_rfl) cm1 (fun wx H => x_load1 H 0 rfl rfl Tryz.underlying25 rfl rfl rfl) ?_
 refine w_y 1 rfl (wt0 rfl) rfl rfl rfl (by kernel_rfl) (fun _ => x_nilCheck rfl rfl) ?_
 refine w_y 2 rfl (wt0 rfl) rfl rfl rfl (by kernel_rfl) (fun _ => x_fieldAddr (off' := 0) rfl rfl fo52_0 rfl) ?_
 refine y_take (v := .agg #[.slice gp gs.length gc]) 3 rfl (wt0 rfl) rfl rfl rfl (by kernel_rfl) (by kernel_rfl) (by kernel_rfl) (by kernel_rfl) (by kernel_rfl) cm1 (fun wx H => x_loadA H 2 rfl rfl Tryz.underlying49 rfl sz49 rfl rfl rfl) ?_
 refine w_y 4 rfl (wt0 rfl) rfl rfl rfl (by kernel_rfl) (fun _ => x_move rfl rfl) ?_
 refine y_take (v := .int .i64 me) 5 rfl (wt0 rfl) rfl rfl rfl (by kernel_rfl) (by kernel_rfl) (by kernel_rfl) (by kernel_rfl) (by kernel_rfl) cm1 (fun wx H => x_load1 H 1 rfl rfl Tryz.underlying3 rfl rfl rfl) ?_
 refine y_take (v := .pointer (some ⟨g, 0, none⟩)) 7 rfl (wt0 rfl) rfl rfl rfl (by kernel_rfl) (by kernel_rfl) (by kernel_rfl) (by kernel_rfl) (by kernel_rfl) cm1 (fun wx H => x_load1 H 0 rfl rfl Tryz.underlying25 rfl rfl rfl) ?_
 refine w_y 8 rfl (wt0 rfl) rfl rfl rfl (by kernel_rfl) (fun _ => x_nilCheck rfl rfl) ?_
 refine w_y 9 rfl (wt0 rfl) rfl rfl rfl (by kernel_rfl) (fun _ => x_fieldAddr (off' := 0) rfl rfl fo52_0 rfl) ?_
 refine y_take (v := .agg #[.slice gp gs.length gc]) 10 rfl (wt0 rfl) rfl rfl rfl (by kernel_rfl) (by kernel_rfl) (by kernel_rfl) (by kernel_rfl) (by kernel_rfl) cm1 (fun wx H => x_loadA H 2 rfl rfl Tryz.underlying49 rfl sz49 rfl rfl rfl) ?_
 refine w_y 11 rfl (wt0 rfl) rfl rfl rfl (by kernel_rfl) (fun _ => x_move rfl rfl) ?_
 refine y_take (v := .int .i64 me) 12 rfl (wt0 rfl) rfl rfl rfl (by kernel_rfl) (by kernel_rfl) (by kernel_rfl) (by kernel_rfl) (by kernel_rfl) cm1 (fun wx H => x_load1 H 1 rfl rfl Tryz.underlying3 rfl rfl rfl) ?_
 refine y_one (i := 6) (by kernel_rfl) rfl ?_
 refine s_call (wt0 rfl) (x_call' rfl rfl cl45) (tlast_s ps.length pl gs gp gc hnp hG hgl a me ha hme _ (H2.takes [3, 4] (by decide))) ?_
 rintro _ wq4 ⟨rfl, H5⟩
 replace H5 : S wq4 [Rw 29 1 gp gs.length gc (fl rowL gs), (Pool pl), Ob bg (.cells #[.pointer (some ⟨g, 0, none⟩)] 25 (0, 0)), Ob bm (.cells #[.int .i64 me] 3 (0, 0)), Ob g (.cells #[.slice gp gs.length gc, .string seed, .slice pp ps.length pc, .slice sp sn sc, .slice tp tn tc, .slice vp vn vc, .slice bp bn bc] 52 (0, 0)), Old w (fps [Ob bg (.cells #[.pointer (some ⟨g, 0, none⟩)] 25 (0, 0)), Ob bm (.cells #[.int .i64 me] 3 (0, 0)), Ob g (.cells #[.slice gp gs.length gc, .string seed, .slice pp ps.length pc, .slice sp sn sc, .slice tp tn tc, .slice vp vn vc, .slice bp bn bc] 52 (0, 0)), Rw 29 1 gp gs.length gc (fl rowL gs), (Pool pl)])] := by have h := H2.absorbI [3, 4] H5; exact h
 have hlbq3 := lastV_bd hG a me
 refine b_ret rfl rfl ?_
 have cm2 := H5.mask [false, false, true, true, true, false]
 refine y_k cm2 cm2 ?_
 refine y_one (i := 13) (by kernel_rfl) rfl ?_
 refine s_call (wt0 rfl) (x_call' rfl rfl cl45) (tlast_s ps.length pl gs gp gc hnp hG hgl b me hb hme _ (H5.takes [0, 1] (by decide))) ?_
 rintro _ wq7 ⟨rfl, H8⟩
 replace H8 : S wq7 [Rw 29 1 gp gs.length gc (fl rowL gs), (Pool pl), Ob bg (.cells #[.pointer (some ⟨g, 0, none⟩)] 25 (0, 0)), Ob bm (.cells #[.int .i64 me] 3 (0, 0)), Ob g (.cells #[.slice gp gs.length gc, .string seed, .slice pp ps.length pc, .slice sp sn sc, .slice tp tn tc, .slice vp vn vc, .slice bp bn bc] 52 (0, 0)), Old w (fps [Ob bg (.cells #[.pointer (some ⟨g, 0, none⟩)] 25 (0, 0)), Ob bm (.cells #[.int .i64 me] 3 (0, 0)), Ob g (.cells #[.slice gp gs.length gc, .string seed, .slice pp ps.length pc, .slice sp sn sc, .slice tp tn tc, .slice vp vn vc, .slice bp bn bc] 52 (0, 0)), Rw 29 1 gp gs.length gc (fl rowL gs), (Pool pl)])] := by have h := H5.absorbI [0, 1] H8; exact h
 have hlbq6 := lastV_bd hG b me
 refine b_ret rfl rfl ?_
 have cm3 := H8.mask [false, false, true, true, true, false]
 refine y_k cm3 cm3 ?_
 refine w_y (v := .int .i64 ((lastV (gs.map Rd.v) a me) - (lastV (gs.map Rd.v) b me))) 14 rfl (wt0 rfl) rfl rfl rfl (by kernel_rfl) (fun _ => x_bin rfl rfl rfl (b_sub (w64 (by omega)))) ?_
 refine w_y 15 rfl (wt0 rfl) rfl rfl rfl (by kernel_rfl) (fun _ => x_assign rfl rfl) ?_
 refine y_done (by kernel_rfl) ?_
 refine g_then ?_
 refine g_weak [(6, .int .i64 ((lastV (gs.map Rd.v) a me) - (lastV (gs.map Rd.v) b me)))] ⟨rfl, trivial⟩ ?_
 refine g_ret ?_
 refine fin_ret [.tmp 6] [.int .i64 ((lastV (gs.map Rd.v) a me) - (lastV (gs.map Rd.v) b me))] rfl ⟨rfl, trivial⟩ ?_
 exact ⟨rfl, (H8.takes [2, 3, 4, 0, 1, 5] (by decide))⟩
theorem best1_f (bg bm : Nat) (g : Nat) (seed : ByteArray) (pp : Option Addr) (pc : Nat) (ps : List Pl) (sp : Option Addr) (sc sn : Nat) (tp : Option Addr) (tc tn : Nat) (vp : Option Addr) (vc vn : Nat) (bp : Option Addr) (bc bn : Nat) (pl gs : List Rd) (gp : Option Addr) (gc : Nat) (hG : GsOK ps.length pl gs) (hgl : gs.length ≤ 200) (hnp : ps.length ≤ 9) (me : Int) (hme : 0 ≤ me ∧ me < ps.length) : FunC Tryz.prog 164 #[] #[.pointer (some ⟨bg, 0, none⟩), .pointer (some ⟨bm, 0, none⟩)] (Big [Ob bg (.cells #[.pointer (some ⟨g, 0, none⟩)] 25 (0, 0)), Ob bm (.cells #[.int .i64 me] 3 (0, 0)), Ob g (.cells #[.slice gp gs.length gc, .string seed, .slice pp ps.length pc, .slice sp sn sc, .slice tp tn tc, .slice vp vn vc, .slice bp bn bc] 52 (0, 0)), Rw 29 1 gp gs.length gc (fl rowL gs), (Pool pl)]) (fun p : Int × Int => [.int .i64 p.1, .int .i64 p.2]) (fun p => .int .i64 ((fun i => lastV (gs.map Rd.v) i me) p.1 - (fun i => lastV (gs.map Rd.v) i me) p.2)) (fun p => (0 ≤ p.1 ∧ p.1 < (ps.length : Int)) ∧ (0 ≤ p.2 ∧ p.2 < (ps.length : Int))) :=
  FunC.ofBig (by kernel_rfl) fun z hb w HS => best1_s bg bm g seed pp pc ps sp sc sn tp tc tn vp vc vn bp bc bn pl gs gp gc hG hgl hnp me hme _ _ hb.1 hb.2 w HS
set_option maxRecDepth 20000 in
set_option maxHeartbeats 4000000 in
theorem bestly_s (g : Nat) (seed : ByteArray) (pp : Option Addr) (pc : Nat) (ps : List Pl) (sp : Option Addr) (sc sn : Nat) (tp : Option Addr) (tc tn : Nat) (vp : Option Addr) (vc vn : Nat) (bp : Option Addr) (bc bn : Nat) (pl gs : List Rd) (gp : Option Addr) (gc : Nat) (hG : GsOK ps.length pl gs) (hgl : gs.length ≤ 200) (hnp : ps.length ≤ 9) (me : Int) (h0m : 0 ≤ me) (pm : Pl) (hm : ps[me.toNat]? = some pm) (rt : Int) (hrt : pm.rt = rt) (hr0 : 0 ≤ rt ∧ rt ≤ 1000000) (h2p : 2 ≤ ps.length)  (w : World) (HS : S w [Ob g (.cells #[.slice gp gs.length gc, .string seed, .slice pp ps.length pc, .slice sp sn sc, .slice tp tn tc, .slice vp vn vc, .slice bp bn bc] 52 (0, 0)), Rw 29 1 gp gs.length gc (fl rowL gs), Rw 33 2 pp ps.length pc (fl plL ps), (Pool pl)]) : Calls Tryz.prog 162 #[.agg #[], .pointer (some ⟨g, 0, none⟩), .int .i64 me] w fun e w' => ∃ p' c', e = .returned (.slice p' (bestV ps.length rt (gs.map Rd.v) me).length c') ∧ S w' ([Rw 3 1 p' (bestV ps.length rt (gs.map Rd.v) me).length c' (fl intL (bestV ps.length rt (gs.map Rd.v) me)), Ob g (.cells #[.slice gp gs.length gc, .string seed, .slice pp ps.length pc, .slice sp sn sc, .slice tp tn tc, .slice vp vn vc, .slice bp bn bc] 52 (0, 0)), Rw 29 1 gp gs.length gc (fl rowL gs), Rw 33 2 pp ps.length pc (fl plL ps), (Pool pl)] ++ [Old w (fps [Ob g (.cells #[.slice gp gs.length gc, .string seed, .slice pp ps.length pc, .slice sp sn sc, .slice tp tn tc, .slice vp vn vc, .slice bp bn bc] 52 (0, 0)), Rw 29 1 gp gs.length gc (fl rowL gs), Rw 33 2 pp ps.length pc (fl plL ps), (Pool pl)])]) := by
 have H0 := HS.beginI
 have hmp := (List.getElem?_eq_some_iff.1 hm).1
 refine enter 38 Tryz.func162 rfl rfl rfl ?_
 refine g_weak [(0, .agg #[]), (1, .pointer (some ⟨g, 0, none⟩)), (2, .int .i64 me)] ⟨rfl, rfl, rfl, trivial⟩ ?_
 refine w_s ?_
 refine l_of (s_box H0 (wt0 rfl) rfl rfl rfl rfl ?_)
 intro g1 wq2 H3
 refine l_of (s_box H3 (wt0 rfl) rfl rfl rfl rfl ?_)
 intro g4 wq5 H6
 refine l_of (s_box H6 (wt0 rfl) rfl rfl rfl rfl ?_)
 intro g7 wq8 H9
 refine w_a ?_
 refine w_e ?_
 refine w_s ?_
 refine w_1 H9 1 ?_
 refine w_1 H9 0 ?_
 refine l_of (s_call (wt0 rfl) (x_call' rfl rfl cl49) (others_s g gp gc gs.length seed pp pc ps sp sc sn tp tc tn vp vc vn bp bc bn (by omega) me _ (H9.takes [3] (by decide))) ?_)
 rintro _ wq12 ⟨po10, co11, rfl, H13⟩
 replace H13 : S wq12 [Rw 3 1 po10 ((othV ps.length me).length) co11 (fl intL (othV ps.length me)), Ob g (.cells #[.slice gp gs.length gc, .string seed, .slice pp ps.length pc, .slice sp sn sc, .slice tp tn tc, .slice vp vn vc, .slice bp bn bc] 52 (0, 0)), Ob g7 (.cells #[.int .i64 me] 3 (0, 0)), Ob g4 (.cells #[.pointer (some ⟨g, 0, none⟩)] 25 (0, 0)), Ob g1 (.cells #[] 74 (0, 0)), Rw 29 1 gp gs.length gc (fl rowL gs), Rw 33 2 pp ps.length pc (fl plL ps), (Pool pl), Old w (fps [Ob g (.cells #[.slice gp gs.length gc, .string seed, .slice pp ps.length pc, .slice sp sn sc, .slice tp tn tc, .slice vp vn vc, .slice bp bn bc] 52 (0, 0)), Rw 29 1 gp gs.length gc (fl rowL gs), Rw 33 2 pp ps.length pc (fl plL ps), (Pool pl)])] := by have h := H9.absorbI [3] H13; exact h
 have hol := othV_len ps.length me
 refine b_ret rfl rfl ?_
 refine w_a ?_
 refine w_e ?_
 refine g_seq ?_
 refine g_quiet (by kernel_rfl) (by kernel_rfl) H13 ?_
 refine q_val (v := .int .i64 me) (wt0 rfl) rfl rfl (fun wx H => x_load1 H 2 rfl rfl Tryz.underlying3 rfl rfl rfl) ?_
 refine q_val (v := .int .i64 (me + 1)) (wt0 rfl) rfl rfl (fun wx H => x_bin rfl rfl rfl (b_add (w64 (by omega)))) ?_
 refine q_val (v := .pointer (some ⟨g, 0, none⟩)) (wt0 rfl) rfl rfl (fun wx H => x_load1 H 3 rfl rfl Tryz.underlying25 rfl rfl rfl) ?_
 refine q_val (v := .pointer (some ⟨g, 0, none⟩)) (wt0 rfl) rfl rfl (fun wx H => x_nilCheck rfl rfl) ?_
 refine q_val (v := .pointer (some ⟨g, 2, none⟩)) (wt0 rfl) rfl rfl (fun wx H => x_fieldAddr rfl rfl fo52_2 rfl) ?_
 refine q_val (v := .slice pp ps.length pc) (wt0 rfl) rfl rfl (fun wx H => x_load1 H 1 rfl rfl Tryz.underlying22 rfl rfl rfl) ?_
 refine q_val (v := .int .i64 ((ps.length : Int))) (wt0 rfl) rfl rfl (fun wx H => x_lenl rfl rfl Tryz.underlying22) ?_
 refine q_val (v := .int .i64 ((me + 1) % (ps.length : Int))) (wt0 rfl) rfl rfl (fun wx H => x_bin rfl rfl rfl (b_rem (by omega) (rem0 (by omega)))) ?_
 refine q_val (v := .int .i64 ((me + 1) % (ps.length : Int))) (wt0 rfl) rfl rfl (fun wx H => x_assign rfl rfl) ?_
 refine q_nil (fun wq14 H15 => ?_)
 refine g_then ?_
 refine g_weak [(4, .pointer (some ⟨g4, 0, none⟩)), (5, .pointer (some ⟨g7, 0, none⟩)), (7, .slice po10 ((othV ps.length me).length) co11), (8, .int .i64 ((me + 1) % (ps.length : Int)))] ⟨rfl, rfl, rfl, rfl, trivial⟩ ?_
 refine w_s ?_
 refine w_m ?_
 refine w_v (v := .func (.func 164) #[] #[.pointer (some ⟨g4, 0, none⟩), .pointer (some ⟨g7, 0, none⟩)]) (x_makeFunc rfl rfl rfl) ?_
 have H16 : S wq14 [(Big [Ob g4 (.cells #[.pointer (some ⟨g, 0, none⟩)] 25 (0, 0)), Ob g7 (.cells #[.int .i64 me] 3 (0, 0)), Ob g (.cells #[.slice gp gs.length gc, .string seed, .slice pp ps.length pc, .slice sp sn sc, .slice tp tn tc, .slice vp vn vc, .slice bp bn bc] 52 (0, 0)), Rw 29 1 gp gs.length gc (fl rowL gs), (Pool pl)]), Rw 3 1 po10 ((othV ps.length me).length) co11 (fl intL (othV ps.length me)), Ob g1 (.cells #[] 74 (0, 0)), Rw 33 2 pp ps.length pc (fl plL ps), Old w (fps [Ob g (.cells #[.slice gp gs.length gc, .string seed, .slice pp ps.length pc, .slice sp sn sc, .slice tp tn tc, .slice vp vn vc, .slice bp bn bc] 52 (0, 0)), Rw 29 1 gp gs.length gc (fl rowL gs), Rw 33 2 pp ps.length pc (fl plL ps), (Pool pl)])] := S.big (L := [Ob g4 (.cells #[.pointer (some ⟨g, 0, none⟩)] 25 (0, 0)), Ob g7 (.cells #[.int .i64 me] 3 (0, 0)), Ob g (.cells #[.slice gp gs.length gc, .string seed, .slice pp ps.length pc, .slice sp sn sc, .slice tp tn tc, .slice vp vn vc, .slice bp bn bc] 52 (0, 0)), Rw 29 1 gp gs.length gc (fl rowL gs), (Pool pl)]) (H15.takes [3, 2, 1, 5, 7, 0, 4, 6, 8] (by decide))
 have hno0 : 1 ≤ (othV ps.length me).length := by cases h9 : othV ps.length me with | nil => exact absurd h9 (othV_ne h2p) | cons _ _ => exact Nat.succ_le_succ (Nat.zero_le _)
 refine l_of (s_call (wt0 rfl) (x_call' rfl rfl cl163) (maxF_i (othV ps.length me) po10 ((othV ps.length me).length) co11 (by omega) hno0 (fun i => lastV (gs.map Rd.v) i me) 164 #[] #[.pointer (some ⟨g4, 0, none⟩), .pointer (some ⟨g7, 0, none⟩)] (Big [Ob g4 (.cells #[.pointer (some ⟨g, 0, none⟩)] 25 (0, 0)), Ob g7 (.cells #[.int .i64 me] 3 (0, 0)), Ob g (.cells #[.slice gp gs.length gc, .string seed, .slice pp ps.length pc, .slice sp sn sc, .slice tp tn tc, .slice vp vn vc, .slice bp bn bc] 52 (0, 0)), Rw 29 1 gp gs.length gc (fl rowL gs), (Pool pl)]) (fun x => 0 ≤ x ∧ x < (ps.length : Int)) (best1_f g4 g7 g seed pp pc ps sp sc sn tp tc tn vp vc vn bp bc bn pl gs gp gc hG hgl hnp me ⟨h0m, by omega⟩) (fun x hx => (othV_mem.1 hx).1) _ (H16.takes [0] (by decide)) (H16.rwReads (k := 1) rfl) (H16.apartRw (i := 1) (k := 0) rfl rfl (by decide))) ?_)
 rintro _ wq17 ⟨rfl, H18⟩
 replace H18 : S wq17 [(Big [Ob g4 (.cells #[.pointer (some ⟨g, 0, none⟩)] 25 (0, 0)), Ob g7 (.cells #[.int .i64 me] 3 (0, 0)), Ob g (.cells #[.slice gp gs.length gc, .string seed, .slice pp ps.length pc, .slice sp sn sc, .slice tp tn tc, .slice vp vn vc, .slice bp bn bc] 52 (0, 0)), Rw 29 1 gp gs.length gc (fl rowL gs), (Pool pl)]), Rw 3 1 po10 ((othV ps.length me).length) co11 (fl intL (othV ps.length me)), Ob g1 (.cells #[] 74 (0, 0)), Rw 33 2 pp ps.length pc (fl plL ps), Old w (fps [Ob g (.cells #[.slice gp gs.length gc, .string seed, .slice pp ps.length pc, .slice sp sn sc, .slice tp tn tc, .slice vp vn vc, .slice bp bn bc] 52 (0, 0)), Rw 29 1 gp gs.length gc (fl rowL gs), Rw 33 2 pp ps.length pc (fl plL ps), (Pool pl)])] := by have h := H16.absorbI [0] H18; exact h
 have hmo := othV_mem.1 (most_oth (n := ps.length) (me := me) (fun i => lastV (gs.map Rd.v) i me) h2p)
 have H19 : S wq17 [Ob g4 (.cells #[.pointer (some ⟨g, 0, none⟩)] 25 (0, 0)), Ob g7 (.cells #[.int .i64 me] 3 (0, 0)), Ob g (.cells #[.slice gp gs.length gc, .string seed, .slice pp ps.length pc, .slice sp sn sc, .slice tp tn tc, .slice vp vn vc, .slice bp bn bc] 52 (0, 0)), Rw 29 1 gp gs.length gc (fl rowL gs), (Pool pl), Rw 3 1 po10 ((othV ps.length me).length) co11 (fl intL (othV ps.length me)), Ob g1 (.cells #[] 74 (0, 0)), Rw 33 2 pp ps.length pc (fl plL ps), Old w (fps [Ob g (.cells #[.slice gp gs.length gc, .string seed, .slice pp ps.length pc, .slice sp sn sc, .slice tp tn tc, .slice vp vn vc, .slice bp bn bc] 52 (0, 0)), Rw 29 1 gp gs.length gc (fl rowL gs), Rw 33 2 pp ps.length pc (fl plL ps), (Pool pl)])] := S.unbig (H18.takes [0, 1, 2, 3, 4] (by decide))
 refine b_ret rfl rfl ?_
 refine w_a ?_
 refine w_e ?_
 refine g_seq ?_
 refine g_seq ?_
 refine g_anyY [] (fun wx => S wx [Ob g4 (.cells #[.pointer (some ⟨g, 0, none⟩)] 25 (0, 0)), Ob g7 (.cells #[.int .i64 me] 3 (0, 0)), Ob g (.cells #[.slice gp gs.length gc, .string seed, .slice pp ps.length pc, .slice sp sn sc, .slice tp tn tc, .slice vp vn vc, .slice bp bn bc] 52 (0, 0))]) (fun wx => S wx [Ob g4 (.cells #[.pointer (some ⟨g, 0, none⟩)] 25 (0, 0)), Ob g7 (.cells #[.int .i64 me] 3 (0, 0)), Ob g (.cells #[.slice gp gs.length gc, .string seed, .slice pp ps.length pc, .slice sp sn sc, .slice tp tn tc, .slice vp vn vc, .slice bp bn bc] 52 (0, 0))]) [] (by kernel_rfl) H19 (fun wq20 H21 => ?_)
 have cm4 := H21.mask [true, true, true, false, false, false, false, false, false]
 refine y_take (v := .pointer (some ⟨g, 0, none⟩)) 0 rfl (wt0 rfl) rfl rfl rfl (by kernel_rfl) (by kernel_rfl) (by kernel_rfl) (by kernel_rfl) (by kernel_rfl) cm4 (fun wx H => x_load1 H 0 rfl rfl Tryz.underlying25 rfl rfl rfl) ?_
 refine w_y 1 rfl (wt0 rfl) rfl rfl rfl (by kernel_rfl) (fun _ => x_nilCheck rfl rfl) ?_
 refine w_y 2 rfl (wt0 rfl) rfl rfl rfl (by kernel_rfl) (fun _ => x_fieldAddr (off' := 0) rfl rfl fo52_0 rfl) ?_
 refine y_take (v := .agg #[.slice gp gs.length gc]) 3 rfl (wt0 rfl) rfl rfl rfl (by kernel_rfl) (by kernel_rfl) (by kernel_rfl) (by kernel_rfl) (by kernel_rfl) cm4 (fun wx H => x_loadA H 2 rfl rfl Tryz.underlying49 rfl sz49 rfl rfl rfl) ?_
 refine w_y 4 rfl (wt0 rfl) rfl rfl rfl (by kernel_rfl) (fun _ => x_move rfl rfl) ?_
 refine y_take (v := .int .i64 me) 5 rfl (wt0 rfl) rfl rfl rfl (by kernel_rfl) (by kernel_rfl) (by kernel_rfl) (by kernel_rfl) (by kernel_rfl) cm4 (fun wx H => x_load1 H 1 rfl rfl Tryz.underlying3 rfl rfl rfl) ?_
 refine y_one (i := 6) (by kernel_rfl) rfl ?_
 refine s_call (wt0 rfl) (x_call' rfl rfl cl45) (tlast_s ps.length pl gs gp gc hnp hG hgl (mostF (fun i => lastV (gs.map Rd.v) i me) (othV ps.length me)) me hmo.1 ⟨h0m, by omega⟩ _ (H21.takes [3, 4] (by decide))) ?_
 rintro _ wq23 ⟨rfl, H24⟩
 replace H24 : S wq23 [Rw 29 1 gp gs.length gc (fl rowL gs), (Pool pl), Ob g4 (.cells #[.pointer (some ⟨g, 0, none⟩)] 25 (0, 0)), Ob g7 (.cells #[.int .i64 me] 3 (0, 0)), Ob g (.cells #[.slice gp gs.length gc, .string seed, .slice pp ps.length pc, .slice sp sn sc, .slice tp tn tc, .slice vp vn vc, .slice bp bn bc] 52 (0, 0)), Rw 3 1 po10 ((othV ps.length me).length) co11 (fl intL (othV ps.length me)), Ob g1 (.cells #[] 74 (0, 0)), Rw 33 2 pp ps.length pc (fl plL ps), Old w (fps [Ob g (.cells #[.slice gp gs.length gc, .string seed, .slice pp ps.length pc, .slice sp sn sc, .slice tp tn tc, .slice vp vn vc, .slice bp bn bc] 52 (0, 0)), Rw 29 1 gp gs.length gc (fl rowL gs), Rw 33 2 pp ps.length pc (fl plL ps), (Pool pl)])] := by have h := H21.absorbI [3, 4] H24; exact h
 have hlbq22 := lastV_bd hG (mostF (fun i => lastV (gs.map Rd.v) i me) (othV ps.length me)) me
 refine b_ret rfl rfl ?_
 have cm5 := H24.mask [false, false, true, true, true, false, false, false, false]
 refine y_k cm5 cm5 ?_
 refine w_y (v := .bool (decide ((0 : Int) < (lastV (gs.map Rd.v) (mostF (fun i => lastV (gs.map Rd.v) i me) (othV ps.length me)) me)))) 7 rfl (wt0 rfl) rfl rfl rfl (by kernel_rfl) (fun _ => x_bin rfl rfl rfl b_gtr) ?_
 refine y_done (by kernel_rfl) ?_
 refine g_then ?_
 by_cases hb25 : (0 : Int) < (lastV (gs.map Rd.v) (mostF (fun i => lastV (gs.map Rd.v) i me) (othV ps.length me)) me)
 ·
  refine g_cond_t rfl (decide_eq_true hb25) ?_
  refine g_region ?_
  refine w_r2 ?_
  refine w_e ?_
  refine g_weak [(4, .pointer (some ⟨g4, 0, none⟩)), (5, .pointer (some ⟨g7, 0, none⟩)), (8, .int .i64 ((mostF (fun i => lastV (gs.map Rd.v) i me) (othV ps.length me))))] ⟨rfl, rfl, rfl, trivial⟩ ?_
  refine w_s ?_
  refine w_1 H24 2 ?_
  refine w_1 H24 3 ?_
  refine w_m ?_
  refine l_of (s_buildSlice H24 (wt0 rfl) rfl rfl rfl (vs := [.int .i64 ((mostF (fun i => lastV (gs.map Rd.v) i me) (othV ps.length me)))]) rfl Tryz.underlying34 sz3 ze3 rfl rfl (cells := #[.int .i64 ((mostF (fun i => lastV (gs.map Rd.v) i me) (othV ps.length me)))]) (by kernel_rfl) ?_)
  intro g26 wq27 H28
  have H29 : S wq27 [Rw 3 1 (some ⟨g26, 0, none⟩) 1 1 (fl intL ([(mostF (fun i => lastV (gs.map Rd.v) i me) (othV ps.length me))])), Rw 29 1 gp gs.length gc (fl rowL gs), (Pool pl), Ob g4 (.cells #[.pointer (some ⟨g, 0, none⟩)] 25 (0, 0)), Ob g7 (.cells #[.int .i64 me] 3 (0, 0)), Ob g (.cells #[.slice gp gs.length gc, .string seed, .slice pp ps.length pc, .slice sp sn sc, .slice tp tn tc, .slice vp vn vc, .slice bp bn bc] 52 (0, 0)), Rw 3 1 po10 ((othV ps.length me).length) co11 (fl intL (othV ps.length me)), Ob g1 (.cells #[] 74 (0, 0)), Rw 33 2 pp ps.length pc (fl plL ps), Old w (fps [Ob g (.cells #[.slice gp gs.length gc, .string seed, .slice pp ps.length pc, .slice sp sn sc, .slice tp tn tc, .slice vp vn vc, .slice bp bn bc] 52 (0, 0)), Rw 29 1 gp gs.length gc (fl rowL gs), Rw 33 2 pp ps.length pc (fl plL ps), (Pool pl)])] := S.obFl intE H28 (k := 0) rfl rfl (by decide) rfl
  refine l_of (s_call (wt0 rfl) (x_call' rfl rfl cl53) (evenly_s g gp gc gs.length seed pp pc ps sp sc sn tp tc tn vp vc vn bp bc bn (by omega) me h0m pm hm rt hrt hr0 ([(mostF (fun i => lastV (gs.map Rd.v) i me) (othV ps.length me))]) (some ⟨g26, 0, none⟩) 1 (fun x hx => by rw [List.mem_singleton.1 hx]; first | exact hmo.1 | (have h8 := Int.emod_nonneg (me + 1) (b := (ps.length : Int)) (by omega); have h9 := Int.emod_lt_of_pos (me + 1) (b := (ps.length : Int)) (by omega); omega)) (by simp) _ (H29.takes [0, 5, 8] (by decide))) ?_)
  rintro _ wq32 ⟨pe30, ce31, rfl, H33⟩
  replace H33 : S wq32 [Rw 3 1 pe30 ((evnV ps.length rt ([(mostF (fun i => lastV (gs.map Rd.v) i me) (othV ps.length me))])).length) ce31 (fl intL (evnV ps.length rt ([(mostF (fun i => lastV (gs.map Rd.v) i me) (othV ps.length me))]))), Rw 3 1 (some ⟨g26, 0, none⟩) 1 1 (fl intL ([(mostF (fun i => lastV (gs.map Rd.v) i me) (othV ps.length me))])), Ob g (.cells #[.slice gp gs.length gc, .string seed, .slice pp ps.length pc, .slice sp sn sc, .slice tp tn tc, .slice vp vn vc, .slice bp bn bc] 52 (0, 0)), Rw 33 2 pp ps.length pc (fl plL ps), Rw 29 1 gp gs.length gc (fl rowL gs), (Pool pl), Ob g4 (.cells #[.pointer (some ⟨g, 0, none⟩)] 25 (0, 0)), Ob g7 (.cells #[.int .i64 me] 3 (0, 0)), Rw 3 1 po10 ((othV ps.length me).length) co11 (fl intL (othV ps.length me)), Ob g1 (.cells #[] 74 (0, 0)), Old w (fps [Ob g (.cells #[.slice gp gs.length gc, .string seed, .slice pp ps.length pc, .slice sp sn sc, .slice tp tn tc, .slice vp vn vc, .slice bp bn bc] 52 (0, 0)), Rw 29 1 gp gs.length gc (fl rowL gs), Rw 33 2 pp ps.length pc (fl plL ps), (Pool pl)])] := by have h := H29.absorbI [0, 5, 8] H33; exact h
  refine b_ret rfl rfl ?_
  refine w_a ?_
  refine w_e ?_
  refine g_ret ?_
  refine fin_ret [.tmp 6] [.slice pe30 ((evnV ps.length rt ([(mostF (fun i => lastV (gs.map Rd.v) i me) (othV ps.length me))])).length) ce31] rfl ⟨rfl, trivial⟩ ?_
  have hv : bestV ps.length rt (gs.map Rd.v) me = evnV ps.length rt [(mostF (fun i => lastV (gs.map Rd.v) i me) (othV ps.length me))] := by unfold bestV nextV; rw [if_pos hb25]
  rw [hv]
  exact ⟨_, _, rfl, H33.takes [0, 2, 4, 3, 5, 10] (by decide)⟩
 ·
  refine g_cond_f rfl (decide_eq_false hb25) ?_
  refine g_skip ?_
  refine g_then ?_
  refine g_weak [(4, .pointer (some ⟨g4, 0, none⟩)), (5, .pointer (some ⟨g7, 0, none⟩)), (8, .int .i64 ((me + 1) % (ps.length : Int)))] ⟨rfl, rfl, rfl, trivial⟩ ?_
  refine w_s ?_
  refine w_1 H24 2 ?_
  refine w_1 H24 3 ?_
  refine w_m ?_
  refine l_of (s_buildSlice H24 (wt0 rfl) rfl rfl rfl (vs := [.int .i64 ((me + 1) % (ps.length : Int))]) rfl Tryz.underlying34 sz3 ze3 rfl rfl (cells := #[.int .i64 ((me + 1) % (ps.length : Int))]) (by kernel_rfl) ?_)
  intro g34 wq35 H36
  have H37 : S wq35 [Rw 3 1 (some ⟨g34, 0, none⟩) 1 1 (fl intL ([(me + 1) % (ps.length : Int)])), Rw 29 1 gp gs.length gc (fl rowL gs), (Pool pl), Ob g4 (.cells #[.pointer (some ⟨g, 0, none⟩)] 25 (0, 0)), Ob g7 (.cells #[.int .i64 me] 3 (0, 0)), Ob g (.cells #[.slice gp gs.length gc, .string seed, .slice pp ps.length pc, .slice sp sn sc, .slice tp tn tc, .slice vp vn vc, .slice bp bn bc] 52 (0, 0)), Rw 3 1 po10 ((othV ps.length me).length) co11 (fl intL (othV ps.length me)), Ob g1 (.cells #[] 74 (0, 0)), Rw 33 2 pp ps.length pc (fl plL ps), Old w (fps [Ob g (.cells #[.slice gp gs.length gc, .string seed, .slice pp ps.length pc, .slice sp sn sc, .slice tp tn tc, .slice vp vn vc, .slice bp bn bc] 52 (0, 0)), Rw 29 1 gp gs.length gc (fl rowL gs), Rw 33 2 pp ps.length pc (fl plL ps), (Pool pl)])] := S.obFl intE H36 (k := 0) rfl rfl (by decide) rfl
  refine l_of (s_call (wt0 rfl) (x_call' rfl rfl cl53) (evenly_s g gp gc gs.length seed pp pc ps sp sc sn tp tc tn vp vc vn bp bc bn (by omega) me h0m pm hm rt hrt hr0 ([(me + 1) % (ps.length : Int)]) (some ⟨g34, 0, none⟩) 1 (fun x hx => by rw [List.mem_singleton.1 hx]; first | exact hmo.1 | (have h8 := Int.emod_nonneg (me + 1) (b := (ps.length : Int)) (by omega); have h9 := Int.emod_lt_of_pos (me + 1) (b := (ps.length : Int)) (by omega); omega)) (by simp) _ (H37.takes [0, 5, 8] (by decide))) ?_)
  rintro _ wq40 ⟨pe38, ce39, rfl, H41⟩
  replace H41 : S wq40 [Rw 3 1 pe38 ((evnV ps.length rt ([(me + 1) % (ps.length : Int)])).length) ce39 (fl intL (evnV ps.length rt ([(me + 1) % (ps.length : Int)]))), Rw 3 1 (some ⟨g34, 0, none⟩) 1 1 (fl intL ([(me + 1) % (ps.length : Int)])), Ob g (.cells #[.slice gp gs.length gc, .string seed, .slice pp ps.length pc, .slice sp sn sc, .slice tp tn tc, .slice vp vn vc, .slice bp bn bc] 52 (0, 0)), Rw 33 2 pp ps.length pc (fl plL ps), Rw 29 1 gp gs.length gc (fl rowL gs), (Pool pl), Ob g4 (.cells #[.pointer (some ⟨g, 0, none⟩)] 25 (0, 0)), Ob g7 (.cells #[.int .i64 me] 3 (0, 0)), Rw 3 1 po10 ((othV ps.length me).length) co11 (fl intL (othV ps.length me)), Ob g1 (.cells #[] 74 (0, 0)), Old w (fps [Ob g (.cells #[.slice gp gs.length gc, .string seed, .slice pp ps.length pc, .slice sp sn sc, .slice tp tn tc, .slice vp vn vc, .slice bp bn bc] 52 (0, 0)), Rw 29 1 gp gs.length gc (fl rowL gs), Rw 33 2 pp ps.length pc (fl plL ps), (Pool pl)])] := by have h := H37.absorbI [0, 5, 8] H41; exact h
  refine b_ret rfl rfl ?_
  refine w_a ?_
  refine w_e ?_
  refine g_ret ?_
  refine fin_ret [.tmp 6] [.slice pe38 ((evnV ps.length rt ([(me + 1) % (ps.length : Int)])).length) ce39] rfl ⟨rfl, trivial⟩ ?_
  have hv : bestV ps.length rt (gs.map Rd.v) me = evnV ps.length rt [((me + 1) % (ps.length : Int))] := by unfold bestV nextV; rw [if_neg hb25]
  rw [hv]
  exact ⟨_, _, rfl, H41.takes [0, 2, 4, 3, 5, 10] (by decide)⟩
end Go.Proofs.YtpbjekdjebjbkaaGreat
