import Derived.Test.YtdkfkdekiljcoaaRD
set_option linter.unusedSimpArgs false
set_option linter.unusedVariables false
namespace Go.Proofs.Ytdkfkdekiljcoaa
open Go.RowKit

def owesB (a : Wy) (x : Ch) : Bool := (a.go x).getD false || !openB a x.p
/-- Those that wait, and must be answered though nobody wants them, or may get them. -/
def owedS (a : Wy) : List Ch := a.wa.filter (owesB a)
def owedTo (a : Wy) (j : Nat) : List Ch := (a.wa.take j).filter (owesB a)
theorem owed_all (a : Wy) : owedTo a a.wa.length = owedS a := by unfold owedTo owedS; rw [List.take_length]
theorem owed_next {a : Wy} {j : Nat} (h : j < a.wa.length) : owedTo a (j + 1) = if owesB a (a.wa.getD j Ch.none) = true then owedTo a j ++ [a.wa.getD j Ch.none] else owedTo a j := by
  unfold owedTo
  rw [List.take_add_one, List.getElem?_eq_getElem h, List.filter_append, List.getD_eq_getElem?_getD, List.getElem?_eq_getElem h]
  simp only [Option.toList_some, Option.getD_some, List.filter_cons, List.filter_nil]
  split <;> simp
theorem owed_len (a : Wy) (j : Nat) : (owedTo a j).length ≤ a.wa.length := by
  unfold owedTo
  exact Nat.le_trans (List.length_filter_le _ _) (by rw [List.length_take]; omega)
theorem look_B (o : Option Bool) : (o.map Value.bool).getD (.bool false) = .bool (o.getD false) := by cases o <;> rfl
set_option maxRecDepth 20000 in
set_option maxHeartbeats 4000000 in
theorem owed_o (sg : Nat) (c : Co) (o : Bool) (A B : Ad) (a b : Wy) (hal : a.al.length ≤ 1099511627776) (hwl : a.wa.length ≤ 1099511627776) (hwk : ∀ x ∈ a.wa, chOk x) (w : World) (HS : S w [sgI sg c o A B a b, alI A a, waI A a, goI A a, alI B b, waI B b, goI B b]) : Calls Try.prog 15 #[.pointer (some ⟨sg, 0, none⟩), .bool o] w fun e w' => ∃ p' c', e = .returned (.slice p' (owedS a).length c') ∧ S w' ([Rw 49 3 p' (owedS a).length c' (chV (owedS a)), sgI sg c o A B a b, alI A a, waI A a, goI A a, alI B b, waI B b, goI B b] ++ [olS w sg c o A B a b]) := by
 have H0 := HS.beginI
 refine enter 45 Try.func15 rfl rfl rfl ?_
 refine g_weak [(0, .pointer (some ⟨sg, 0, none⟩)), (1, .bool o)] ⟨rfl, rfl, trivial⟩ ?_
 refine w_s ?_
 refine w_a ?_
 refine w_e ?_
 refine g_seq ?_
 refine w_s ?_
 refine w_m ?_
 refine w_b (v := .bool false) (hb := (b_eqN (r := false) Try.underlying27 rfl)) ?_
 refine w_e ?_
 refine g_cond_f rfl rfl ?_
 refine g_skip ?_
 refine g_then ?_
 refine g_seq ?_
 refine g_any [(0, .pointer (some ⟨sg, 0, none⟩)), (1, .bool o), (4, .slice none 0 0), (9, .pointer (some ⟨sg, 0, none⟩)), (10, .bool false)] (fun _ => True) [] (by kernel_rfl) H0 (fun wq1 H2 => ?_)
 refine a_pure (v := .pointer (some ⟨sg, 0, none⟩)) 0 rfl (wt0 rfl) rfl rfl rfl (by kernel_rfl) (by kernel_rfl) (by kernel_rfl) (.inr fun _ => trivial) (fun wx => x_move rfl rfl) ?_
 refine a_pure (v := .bool o) 1 rfl (wt0 rfl) rfl rfl rfl (by kernel_rfl) (by kernel_rfl) (by kernel_rfl) (.inr fun _ => trivial) (fun wx => x_move rfl rfl) ?_
 refine a_pure (v := .pointer (some ⟨sg, 0, none⟩)) 3 rfl (wt0 rfl) rfl rfl rfl (by kernel_rfl) (by kernel_rfl) (by kernel_rfl) (.inr fun _ => trivial) (fun wx => x_nilCheck rfl rfl) ?_
 refine a_pure (v := .pointer (some ⟨sg, 5, none⟩)) 4 rfl (wt0 rfl) rfl rfl rfl (by kernel_rfl) (by kernel_rfl) (by kernel_rfl) (.inr fun _ => trivial) (fun wx => x_fieldAddr rfl rfl fo57_1 rfl) ?_
 refine a_one (i := 2) (by kernel_rfl) rfl ?_
 refine s_call0 H2 (wt0 rfl) (x_call' rfl rfl cl23) (way_o o _) rfl rfl ?_
 intro wq3 H4
 refine a_k trivial ?_
 refine a_pure (v := .pointer (some ⟨sg, offO o, none⟩)) 5 rfl (wt0 rfl) rfl rfl rfl (by kernel_rfl) (by kernel_rfl) (by kernel_rfl) (.inr fun _ => trivial) (fun wx => x_indexAddrA (wN o) rfl rfl rfl Try.underlying55 sz54 ⟨rfl, wN_lt _⟩ (off' := offO o) (way_offO o)) ?_
 refine a_pure (v := .pointer (some ⟨sg, offO o, none⟩)) 6 rfl (wt0 rfl) rfl rfl rfl (by kernel_rfl) (by kernel_rfl) (by kernel_rfl) (.inr fun _ => trivial) (fun wx => x_assign rfl rfl) ?_
 refine a_done (by kernel_rfl) ?_
 refine g_then ?_
 refine w_s ?_
 have H5 : S wq3 [Rw 49 3 none 0 0 [], sgI sg c o A B a b, alI A a, waI A a, goI A a, alI B b, waI B b, goI B b, olS w sg c o A B a b] := H4.nilRw 49 3
 refine w_a ?_
 refine w_e ?_
 refine g_seq ?_
 refine w_s ?_
 refine w_r2 ?_
 refine w_f (offO o + 5) ?_
 refine w_v (x_load1 H5 1 rfl rfl Try.underlying37 rfl rfl (sgC_o rfl rfl rfl)) ?_
 refine w_v (v := .int .i64 ((a.wa.length : Int))) (x_lenl rfl rfl Try.underlying37) ?_
 refine w_m ?_
 refine w_e ?_
 refine g_weak [(5, .pointer (some ⟨sg, offO o, none⟩)), (6, .slice none 0 0), (20, .slice A.pw a.wa.length A.cw), (21, .int .i64 ((a.wa.length : Int))), (22, .int .i64 0)] ⟨rfl, rfl, rfl, rfl, rfl, trivial⟩ ?_
 refine g_block ?_
 refine g_loop (ι := Nat × Option Addr × Nat) (fun (j, q, d) => [(5, .pointer (some ⟨sg, offO o, none⟩)), (6, .slice q (owedTo a j).length d), (20, .slice A.pw a.wa.length A.cw), (21, .int .i64 ((a.wa.length : Int))), (22, .int .i64 ((j : Int)))]) (fun (j, q, d) wx => (j ≤ a.wa.length) ∧ S wx [Rw 49 3 q (owedTo a j).length d (chV (owedTo a j)), sgI sg c o A B a b, alI A a, waI A a, goI A a, alI B b, waI B b, goI B b, olS w sg c o A B a b]) (fun (j, q, d) => a.wa.length - j) (0, none, 0) ⟨rfl, rfl, rfl, rfl, rfl, trivial⟩ ⟨Nat.zero_le _, (H5.takes [0, 1, 2, 3, 4, 5, 6, 7, 8] (by decide))⟩ ?_
 rintro ⟨j, q, d⟩ wq6 ⟨hj, H7⟩
 refine g_weak [(5, .pointer (some ⟨sg, offO o, none⟩)), (6, .slice q (owedTo a j).length d), (20, .slice A.pw a.wa.length A.cw), (21, .int .i64 ((a.wa.length : Int))), (22, .int .i64 ((j : Int)))] ⟨rfl, rfl, rfl, rfl, rfl, trivial⟩ ?_
 have hol := owed_len a j
 refine w_s ?_
 refine w_b ?_
 refine w_e ?_
 refine g_seq ?_
 by_cases hb8 : ((j : Int) : Int) < (a.wa.length : Int)
 ·
  have hjl : j < a.wa.length := by omega
  have hokj : chOk (a.wa.getD (j) Ch.none) := hwk _ (by rw [List.getD_eq_getElem?_getD, List.getElem?_eq_getElem hjl]; exact List.getElem_mem hjl)
  refine g_cond_t rfl (decide_eq_true hb8) ?_
  refine g_skip ?_
  refine g_then ?_
  refine g_seq ?_
  refine g_block ?_
  refine w_s ?_
  refine w_v (v := .pointer ((A.pw).map fun q => q.add (j * 3))) (x_idxR j (H7.rwReads (k := 3) rfl) rfl rfl rfl Try.underlying37 sz49 (by omega)) ?_
  refine w_v (v := .agg #[.int .i64 ((a.wa.getD (j) Ch.none).p), .int .i64 ((a.wa.getD (j) Ch.none).b), .int .i64 ((a.wa.getD (j) Ch.none).n)]) (x_loadRA (vs := (a.wa.getD (j) Ch.none).cellsL) j (H7.rwReads (k := 3) rfl) (by omega) rfl rfl Try.underlying49 rfl sz49 (by rfl) (chV_at (by omega))) ?_
  refine l_of (s_alloc H7 (wt0 rfl) rfl rfl rfl ze49 ?_)
  intro g9 wq10 H11
  refine l_of (w_st #[.int .i64 ((a.wa.getD (j) Ch.none).p), .int .i64 ((a.wa.getD (j) Ch.none).b), .int .i64 ((a.wa.getD (j) Ch.none).n)] H11 0 ?_)
  intro wq12 H13
  refine w_e ?_
  refine g_seq ?_
  refine g_any [(5, .pointer (some ⟨sg, offO o, none⟩)), (6, .slice q (owedTo a j).length d), (8, .pointer (some ⟨g9, 0, none⟩)), (20, .slice A.pw a.wa.length A.cw), (21, .int .i64 ((a.wa.length : Int))), (22, .int .i64 ((j : Int))), (23, .bool (decide (((j : Int) : Int) < (a.wa.length : Int)))), (24, .pointer ((A.pw).map fun q => q.add (j * 3))), (25, .agg #[.int .i64 ((a.wa.getD (j) Ch.none).p), .int .i64 ((a.wa.getD (j) Ch.none).b), .int .i64 ((a.wa.getD (j) Ch.none).n)])] (fun wx => S wx [Ob g9 (.cells #[.int .i64 ((a.wa.getD (j) Ch.none).p), .int .i64 ((a.wa.getD (j) Ch.none).b), .int .i64 ((a.wa.getD (j) Ch.none).n)] 49 (0, 0)), sgI sg c o A B a b, goI A a]) [] (by kernel_rfl) H13 (fun wq14 H15 => ?_)
  have cm1 := H15.mask [true, false, true, false, false, true, false, false, false, false]
  refine w_t 0 rfl cm1 (fun _ _ => xm) ?_
  refine w_t 1 rfl cm1 (fun _ _ => xn) ?_
  refine w_t 2 rfl cm1 (fun _ _ => xf (offO o + 6)) ?_
  refine w_t 3 rfl cm1 (fun _ H => x_load1 H 1 rfl rfl Try.underlying52 rfl rfl (sgC_o rfl rfl rfl)) ?_
  refine w_t (v := .agg #[.int .i64 ((a.wa.getD (j) Ch.none).p), .int .i64 ((a.wa.getD (j) Ch.none).b), .int .i64 ((a.wa.getD (j) Ch.none).n)]) 4 rfl cm1 (fun _ H => x_loadA H 0 rfl rfl Try.underlying49 rfl sz49 rfl rfl rfl) ?_
  refine w_t (v := .bool (((a.go (a.wa.getD (j) Ch.none)).getD false))) 5 rfl cm1 (fun _ H => ex_cast (x_lookup1 (x := (a.wa.getD (j) Ch.none)) goneT H 2 rfl rfl rfl rfl hokj ze4) (look_B _)) ?_
  refine w_t 6 rfl cm1 (fun _ _ => xm) ?_
  rcases Bool.eq_false_or_eq_true (((a.go (a.wa.getD (j) Ch.none)).getD false)) with hb16 | hb16
  ·
   have cm2 := H15.mask [true, false, true, false, false, true, false, false, false, false]
   refine w_tn 7 rfl hb16 cm2 ?_
   refine w_tn 8 rfl hb16 cm2 ?_
   refine w_tn 9 rfl hb16 cm2 ?_
   refine a_one (i := 10) (by kernel_rfl) rfl ?_
   refine s_not (wn1 rfl rfl rfl rfl hb16) rfl rfl ?_
   refine a_k cm2 ?_
   refine w_tn 11 rfl hb16 cm2 ?_
   refine w_t (v := .bool true) 12 rfl cm2 (fun _ _ => x_pick_t rfl rfl hb16 rfl) ?_
   refine a_done (by kernel_rfl) ?_
   refine g_then ?_
   refine g_cond_t rfl rfl ?_
   refine g_region ?_
   refine w_m ?_
   refine w_v (v := .agg #[.int .i64 ((a.wa.getD (j) Ch.none).p), .int .i64 ((a.wa.getD (j) Ch.none).b), .int .i64 ((a.wa.getD (j) Ch.none).n)]) (x_loadA H15 0 rfl rfl Try.underlying49 rfl sz49 rfl rfl rfl) ?_
   refine l_of (s_buildSlice H15 (wt0 rfl) rfl rfl rfl (vs := [.agg #[.int .i64 ((a.wa.getD (j) Ch.none).p), .int .i64 ((a.wa.getD (j) Ch.none).b), .int .i64 ((a.wa.getD (j) Ch.none).n)]]) rfl Try.underlying37 sz49 ze49 rfl rfl (cells := #[.int .i64 ((a.wa.getD (j) Ch.none).p), .int .i64 ((a.wa.getD (j) Ch.none).b), .int .i64 ((a.wa.getD (j) Ch.none).n)]) (by kernel_rfl) ?_)
   intro g17 wq18 H19
   refine l_of (s_appendR (n := (owedTo a j).length) (m := 1) (sc := d) (xs := (chV (owedTo a j))) (news := [.int .i64 ((a.wa.getD (j) Ch.none).p), .int .i64 ((a.wa.getD (j) Ch.none).b), .int .i64 ((a.wa.getD (j) Ch.none).n)]) (p := q) (ad := ⟨g17, 0, none⟩) H19 2 (wt0 rfl) rfl rfl rfl rfl rfl rfl Try.underlying37 inf49 rfl (by decide) (by decide) rfl (by decide) (news_ob H19 (j0 := 0) rfl) rfl (by omega) ?_)
   intro p20 c21 wq22 (H23 : S wq22 [Ob g17 (.cells #[.int .i64 ((a.wa.getD (j) Ch.none).p), .int .i64 ((a.wa.getD (j) Ch.none).b), .int .i64 ((a.wa.getD (j) Ch.none).n)] 49 (0, 0)), Ob g9 (.cells #[.int .i64 ((a.wa.getD (j) Ch.none).p), .int .i64 ((a.wa.getD (j) Ch.none).b), .int .i64 ((a.wa.getD (j) Ch.none).n)] 49 (0, 0)), Rw 49 3 p20 ((owedTo a j).length + 1) c21 ((chV (owedTo a j)) ++ [.int .i64 ((a.wa.getD (j) Ch.none).p), .int .i64 ((a.wa.getD (j) Ch.none).b), .int .i64 ((a.wa.getD (j) Ch.none).n)]), sgI sg c o A B a b, alI A a, waI A a, goI A a, alI B b, waI B b, goI B b, olS w sg c o A B a b])
   refine w_a ?_
   refine g_nil ?_
   refine g_in ?_
   refine g_then ?_
   refine g_weak [(5, .pointer (some ⟨sg, offO o, none⟩)), (6, .slice p20 ((owedTo a j).length + 1) c21), (20, .slice A.pw a.wa.length A.cw), (21, .int .i64 ((a.wa.length : Int))), (22, .int .i64 ((j : Int))), (33, undef), (34, undef), (35, undef), (36, undef), (37, undef)] ⟨rfl, rfl, rfl, rfl, rfl, rfl, rfl, rfl, rfl, rfl, trivial⟩ ?_
   refine g_region ?_
   refine w_b (v := .int .i64 ((j : Int) + 1)) (hb := (b_add (w64 (by omega)))) ?_
   refine w_m ?_
   refine w_e ?_
   have how26 : owesB a (a.wa.getD (j) Ch.none) = true := by unfold owesB; rw [hb16]; rfl
   have hos25 : (owedTo a (j + 1)) = (owedTo a j) ++ [(a.wa.getD (j) Ch.none)] := by rw [owed_next hjl, if_pos how26]
   have H24 : S wq22 [Rw 49 3 p20 (owedTo a (j + 1)).length c21 (chV (owedTo a (j + 1))), sgI sg c o A B a b, alI A a, waI A a, goI A a, alI B b, waI B b, goI B b, olS w sg c o A B a b] := by rw [hos25, List.length_append, ask_cells]; exact (H23.takes [2, 3, 4, 5, 6, 7, 8, 9, 10] (by decide))
   rw [show (owedTo a j).length + 1 = (owedTo a (j + 1)).length from by rw [hos25, List.length_append]; rfl]
   refine g_round (i := (j, q, d)) (j + 1, p20, c21) ?_ ?_ ?_
   · exact ⟨rfl, rfl, rfl, rfl, rfl, trivial⟩
   · exact ⟨by omega, H24⟩
   · (try dsimp only); omega
  ·
   have cm3 := H15.mask [true, false, true, false, false, true, false, false, false, false]
   refine w_tg 7 rfl hb16 cm3 (fun _ _ => xm) ?_
   refine w_tg 8 rfl hb16 cm3 (fun _ _ => xf 0) ?_
   refine w_tg 9 rfl hb16 cm3 (fun _ H => xl H 0) ?_
   refine a_one (i := 10) (by kernel_rfl) rfl ?_
   refine s_callK H15 [2, 3, 4, 5, 6, 7, 8] [7, 8, 0, 1, 2, 3, 4, 5, 6, 9] (by decide) rfl (wt1 rfl rfl rfl rfl hb16) (x_call' rfl rfl cl24) (fun _ => open_o sg c o A B a b (a.wa.getD (j) Ch.none).p (by omega) _ (H15.takes [2, 3, 4, 5, 6, 7, 8] (by decide))) (by decide) rfl rfl ?_
   intro wq27 H29
   have cm4 := H29.mask [true, false, true, false, false, true, false, false, false, false]
   refine a_k cm4 ?_
   refine w_tg (v := .bool (!((openB a (a.wa.getD (j) Ch.none).p)))) 11 rfl hb16 cm4 (fun _ _ => x_not (b := (openB a (a.wa.getD (j) Ch.none).p)) rfl rfl) ?_
   refine w_t (v := .bool (!((openB a (a.wa.getD (j) Ch.none).p)))) 12 rfl cm4 (fun _ _ => x_pick_f rfl rfl hb16 rfl) ?_
   refine a_done (by kernel_rfl) ?_
   refine g_then ?_
   rcases Bool.eq_false_or_eq_true ((openB a (a.wa.getD (j) Ch.none).p)) with hb30 | hb30
   ·
    refine g_cond_f rfl (neg_of hb30) ?_
    refine g_skip ?_
    refine g_in ?_
    refine g_then ?_
    refine g_weak [(5, .pointer (some ⟨sg, offO o, none⟩)), (6, .slice q (owedTo a j).length d), (20, .slice A.pw a.wa.length A.cw), (21, .int .i64 ((a.wa.length : Int))), (22, .int .i64 ((j : Int))), (33, .pointer (some ⟨sg, offO o, none⟩)), (34, .pointer (some ⟨g9, 0, none⟩)), (35, .int .i64 ((a.wa.getD (j) Ch.none).p)), (36, .bool ((openB a (a.wa.getD (j) Ch.none).p))), (37, .bool (!((openB a (a.wa.getD (j) Ch.none).p))))] ⟨rfl, rfl, rfl, rfl, rfl, rfl, rfl, rfl, rfl, rfl, trivial⟩ ?_
    refine g_region ?_
    refine w_b (v := .int .i64 ((j : Int) + 1)) (hb := (b_add (w64 (by omega)))) ?_
    refine w_m ?_
    refine w_e ?_
    have how33 : owesB a (a.wa.getD (j) Ch.none) = false := by unfold owesB; rw [hb16, hb30]; rfl
    have hos32 : (owedTo a (j + 1)) = (owedTo a j) := by rw [owed_next hjl, if_neg (by rw [how33]; exact Bool.false_ne_true)]
    have H31 : S wq27 [Rw 49 3 q (owedTo a (j + 1)).length d (chV (owedTo a (j + 1))), sgI sg c o A B a b, alI A a, waI A a, goI A a, alI B b, waI B b, goI B b, olS w sg c o A B a b] := by rw [hos32]; exact (H29.takes [1, 2, 3, 4, 5, 6, 7, 8, 9] (by decide))
    rw [← hos32]
    refine g_round (i := (j, q, d)) (j + 1, q, d) ?_ ?_ ?_
    · exact ⟨rfl, rfl, rfl, rfl, rfl, trivial⟩
    · exact ⟨by omega, H31⟩
    · (try dsimp only); omega
   ·
    refine g_cond_t rfl (neg_of hb30) ?_
    refine g_region ?_
    refine w_m ?_
    refine w_v (v := .agg #[.int .i64 ((a.wa.getD (j) Ch.none).p), .int .i64 ((a.wa.getD (j) Ch.none).b), .int .i64 ((a.wa.getD (j) Ch.none).n)]) (x_loadA H29 0 rfl rfl Try.underlying49 rfl sz49 rfl rfl rfl) ?_
    refine l_of (s_buildSlice H29 (wt0 rfl) rfl rfl rfl (vs := [.agg #[.int .i64 ((a.wa.getD (j) Ch.none).p), .int .i64 ((a.wa.getD (j) Ch.none).b), .int .i64 ((a.wa.getD (j) Ch.none).n)]]) rfl Try.underlying37 sz49 ze49 rfl rfl (cells := #[.int .i64 ((a.wa.getD (j) Ch.none).p), .int .i64 ((a.wa.getD (j) Ch.none).b), .int .i64 ((a.wa.getD (j) Ch.none).n)]) (by kernel_rfl) ?_)
    intro g34 wq35 H36
    refine l_of (s_appendR (n := (owedTo a j).length) (m := 1) (sc := d) (xs := (chV (owedTo a j))) (news := [.int .i64 ((a.wa.getD (j) Ch.none).p), .int .i64 ((a.wa.getD (j) Ch.none).b), .int .i64 ((a.wa.getD (j) Ch.none).n)]) (p := q) (ad := ⟨g34, 0, none⟩) H36 2 (wt0 rfl) rfl rfl rfl rfl rfl rfl Try.underlying37 inf49 rfl (by decide) (by decide) rfl (by decide) (news_ob H36 (j0 := 0) rfl) rfl (by omega) ?_)
    intro p37 c38 wq39 (H40 : S wq39 [Ob g34 (.cells #[.int .i64 ((a.wa.getD (j) Ch.none).p), .int .i64 ((a.wa.getD (j) Ch.none).b), .int .i64 ((a.wa.getD (j) Ch.none).n)] 49 (0, 0)), Ob g9 (.cells #[.int .i64 ((a.wa.getD (j) Ch.none).p), .int .i64 ((a.wa.getD (j) Ch.none).b), .int .i64 ((a.wa.getD (j) Ch.none).n)] 49 (0, 0)), Rw 49 3 p37 ((owedTo a j).length + 1) c38 ((chV (owedTo a j)) ++ [.int .i64 ((a.wa.getD (j) Ch.none).p), .int .i64 ((a.wa.getD (j) Ch.none).b), .int .i64 ((a.wa.getD (j) Ch.none).n)]), sgI sg c o A B a b, alI A a, waI A a, goI A a, alI B b, waI B b, goI B b, olS w sg c o A B a b])
    refine w_a ?_
    refine g_nil ?_
    refine g_in ?_
    refine g_then ?_
    refine g_weak [(5, .pointer (some ⟨sg, offO o, none⟩)), (6, .slice p37 ((owedTo a j).length + 1) c38), (20, .slice A.pw a.wa.length A.cw), (21, .int .i64 ((a.wa.length : Int))), (22, .int .i64 ((j : Int))), (33, .pointer (some ⟨sg, offO o, none⟩)), (34, .pointer (some ⟨g9, 0, none⟩)), (35, .int .i64 ((a.wa.getD (j) Ch.none).p)), (36, .bool ((openB a (a.wa.getD (j) Ch.none).p))), (37, .bool (!((openB a (a.wa.getD (j) Ch.none).p))))] ⟨rfl, rfl, rfl, rfl, rfl, rfl, rfl, rfl, rfl, rfl, trivial⟩ ?_
    refine g_region ?_
    refine w_b (v := .int .i64 ((j : Int) + 1)) (hb := (b_add (w64 (by omega)))) ?_
    refine w_m ?_
    refine w_e ?_
    have how43 : owesB a (a.wa.getD (j) Ch.none) = true := by unfold owesB; rw [hb16, hb30]; rfl
    have hos42 : (owedTo a (j + 1)) = (owedTo a j) ++ [(a.wa.getD (j) Ch.none)] := by rw [owed_next hjl, if_pos how43]
    have H41 : S wq39 [Rw 49 3 p37 (owedTo a (j + 1)).length c38 (chV (owedTo a (j + 1))), sgI sg c o A B a b, alI A a, waI A a, goI A a, alI B b, waI B b, goI B b, olS w sg c o A B a b] := by rw [hos42, List.length_append, ask_cells]; exact (H40.takes [2, 3, 4, 5, 6, 7, 8, 9, 10] (by decide))
    rw [show (owedTo a j).length + 1 = (owedTo a (j + 1)).length from by rw [hos42, List.length_append]; rfl]
    refine g_round (i := (j, q, d)) (j + 1, p37, c38) ?_ ?_ ?_
    · exact ⟨rfl, rfl, rfl, rfl, rfl, trivial⟩
    · exact ⟨by omega, H41⟩
    · (try dsimp only); omega
 ·
  refine g_cond_f rfl (decide_eq_false hb8) ?_
  refine g_exit ?_
  refine g_then_exit ?_
  refine g_then_exit ?_
  refine g_in_hit ?_
  refine g_then ?_
  refine w_s ?_
  refine w_r2 ?_
  refine w_e ?_
  refine g_ret ?_
  refine fin_ret [.tmp 4] [.slice q (owedTo a j).length d] rfl ⟨rfl, trivial⟩ ?_
  have hjj : j = a.wa.length := by omega
  subst hjj
  rw [← owed_all a]
  exact ⟨_, _, rfl, H7.takes [0, 1, 2, 3, 4, 5, 6, 7, 8] (by decide)⟩
end Go.Proofs.Ytdkfkdekiljcoaa
