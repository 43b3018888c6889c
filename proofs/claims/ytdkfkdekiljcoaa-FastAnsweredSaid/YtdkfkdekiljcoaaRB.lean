import Derived.Test.YtdkfkdekiljcoaaRA
set_option linter.unusedSimpArgs false
set_option linter.unusedVariables false
namespace Go.Proofs.Ytdkfkdekiljcoaa
open Go.RowKit

theorem cl30 : callable Try.prog 30 = true := by kernel_rfl
theorem cl32 : callable Try.prog 32 = true := by kernel_rfl
theorem cl33 : callable Try.prog 33 = true := by kernel_rfl
theorem cl35 : callable Try.prog 35 = true := by kernel_rfl
theorem cl36 : callable Try.prog 36 = true := by kernel_rfl
theorem sz79 : szO Try.prog 79 = some 1 := by kernel_rfl
theorem sz80 : szO Try.prog 80 = some 21 := by kernel_rfl
theorem ze75 : zeO Try.prog 75 = some (.agg #[.pointer none, .int .i64 0, .int .i64 0, .int .i64 0, .int .i64 0, .int .i64 0, .int .i64 0, .string (⟨#[]⟩), .string (⟨#[]⟩), .pointer none, .pointer none]) := by kernel_rfl
theorem ze80 : zeO Try.prog 80 = some (.agg #[.nilFunc, .nilFunc, .nilFunc, .nilFunc, .nilFunc, .nilFunc, .nilFunc, .nilFunc, .nilFunc, .nilFunc, .nilFunc, .nilFunc, .nilFunc, .nilFunc, .nilFunc, .nilFunc, .nilFunc, .nilFunc, .nilFunc, .nilFunc, .nilFunc]) := by kernel_rfl
def quietB (k : Int) : Bool := decide (k = 1) || decide (k = 17)
def rulesA : Array Value := #[.nilFunc, .nilFunc, .func (.func 44) #[] #[], .func (.func 45) #[] #[], .func (.func 46) #[] #[], .func (.func 47) #[] #[], .func (.func 48) #[] #[], .func (.func 42) #[] #[], .func (.func 50) #[] #[], .func (.func 54) #[] #[], .func (.func 57) #[] #[], .nilFunc, .func (.func 58) #[] #[], .func (.func 42) #[] #[], .func (.func 42) #[] #[], .func (.func 56) #[] #[], .func (.func 59) #[] #[], .nilFunc, .nilFunc, .nilFunc, .nilFunc]
theorem rulesA_at {k : Int} (h : 1 ≤ k ∧ k ≤ 20) : rulesA[k.toNat]? = some (ruleV k) := by
  obtain ⟨n, rfl⟩ : ∃ n : Nat, k = (n : Int) := ⟨k.toNat, by omega⟩
  have h2 : n ≤ 20 := by omega
  rw [Int.toNat_natCast]
  rcases (show n = 1 ∨ n = 2 ∨ n = 3 ∨ n = 4 ∨ n = 5 ∨ n = 6 ∨ n = 7 ∨ n = 8 ∨ n = 9 ∨ n = 10 ∨ n = 11 ∨ n = 12 ∨ n = 13 ∨ n = 14 ∨ n = 15 ∨ n = 16 ∨ n = 17 ∨ n = 18 ∨ n = 19 ∨ n = 20 by omega) with rfl | rfl | rfl | rfl | rfl | rfl | rfl | rfl | rfl | rfl | rfl | rfl | rfl | rfl | rfl | rfl | rfl | rfl | rfl | rfl <;> rfl
theorem ruleV_no {k : Int} (h : hasR k = false) : ruleV k = .nilFunc := by
  unfold hasR at h; simp at h
  unfold ruleV
  rw [if_neg (by omega)]; rw [if_neg (by omega)]; rw [if_neg (by omega)]; rw [if_neg (by omega)]; rw [if_neg (by omega)]; rw [if_neg (by omega)]; rw [if_neg (by omega)]; rw [if_neg (by omega)]; rw [if_neg (by omega)]; rw [if_neg (by omega)]; rw [if_neg (by omega)]; rw [if_neg (by omega)]; rw [if_neg (by omega)]; rw [if_neg (by omega)]
theorem rule_no (c : Co) (a b : Wy) {m : M} (h : hasR m.kind = false) : ruleE c a b m = 0 ∧ ruleO c a m = a ∧ ruleP c b m = b := by
  unfold hasR at h; simp at h
  refine ⟨?_, ?_, ?_⟩
  · unfold ruleE; rw [if_neg (by omega), if_neg (by omega), if_neg (by omega), if_neg (by omega)]
  · unfold ruleO; rw [if_neg (by omega), if_neg (by omega), if_neg (by omega), if_neg (by omega), if_neg (by omega), if_neg (by omega), if_neg (by omega), if_neg (by omega)]
  · unfold ruleP; rw [if_neg (by omega), if_neg (by omega)]
theorem b_ruleN {xo yo : Operand} {w : World} (k : Int) : Bin Try.prog .neq 79 xo yo (ruleV k) .nilFunc w (.bool (hasR k)) := by
  rcases Bool.eq_false_or_eq_true (hasR k) with h | h
  · rw [h]
    rcases hasR_cases h with rfl | rfl | rfl | rfl | rfl | rfl | rfl | rfl | rfl | rfl | rfl | rfl | rfl | rfl <;> exact b_neN (r := false) Try.underlying79 rfl
  · rw [h, ruleV_no h]; exact b_neN (r := true) Try.underlying79 rfl
def stepE (c : Co) (a b : Wy) (m : M) : Int :=
  if (c.ft || !extraB m.kind) = false then 10 else if (!tellB m.kind || !a.bg) = false then 10 else if (!c.ft || a.bg || quietB m.kind || tellB m.kind) = false then 10
  else if m.kind = 7 ∧ validF c.n m.data = false then 12 else if fitsS m c.n c.pi c.la = false then 7 else ruleE c a b m
def stepO (c : Co) (a b : Wy) (m : M) : Wy := if stepE c a b m = 0 then { ruleO c a m with bg := (ruleO c a m).bg || !quietB m.kind } else a
def stepP (c : Co) (a b : Wy) (m : M) : Wy := if stepE c a b m = 0 then ruleP c b m else b
set_option maxRecDepth 20000 in
set_option maxHeartbeats 4000000 in
theorem rules_s (w : World) : Calls Try.prog 36 #[] w fun e w' => e = .returned (.agg rulesA) ∧ S w' [Old w no] := by
 have H0 := S.old w
 refine enter 6 Try.func36 rfl rfl rfl ?_
 refine g_weak [] trivial ?_
 refine w_s ?_
 refine l_of (s_alloc H0 (wt0 rfl) rfl rfl rfl ze80 ?_)
 intro g1 wq2 H3
 refine w_e ?_
 refine w_s ?_
 refine w_a ?_
 refine w_e ?_
 refine w_s ?_
 refine w_r3 ?_
 refine w_v (v := .agg rulesA) (x_build (vs := [.func (.func 44) #[] #[], .func (.func 45) #[] #[], .func (.func 46) #[] #[], .func (.func 47) #[] #[], .func (.func 48) #[] #[], .func (.func 42) #[] #[], .func (.func 42) #[] #[], .func (.func 42) #[] #[], .func (.func 50) #[] #[], .func (.func 54) #[] #[], .func (.func 56) #[] #[], .func (.func 57) #[] #[], .func (.func 58) #[] #[], .func (.func 59) #[] #[]]) rfl rfl (cells := rulesA) (by kernel_rfl)) ?_
 refine l_of (s_store H3 0 (wt0 rfl) rfl rfl rfl rfl rfl sz80 rfl rfl (cs' := rulesA) rfl ?_)
 intro wq4 H5
 refine w_e ?_
 refine g_ret ?_
 refine fin_ret [.cell 0 80] [.agg rulesA] rfl ⟨⟨_, rfl, run_loadA (H5.ob (k := 0) rfl) Try.underlying80 rfl sz80 rfl rfl⟩, trivial⟩ ?_
 exact ⟨rfl, H5.mask [false, true]⟩
set_option maxRecDepth 20000 in
set_option maxHeartbeats 4000000 in
theorem step_o (sg : Nat) (c : Co) (o : Bool) (A B : Ad) (a b : Wy) (m : M) (hn : 1 ≤ c.n ∧ c.n ≤ 4096) (hVa : Vf c.n.toNat a.fd) (hVb : Vf c.n.toNat b.fd) (hal : a.al.length ≤ 1099511627776) (hwa : a.wa.length ≤ 1099511627776) (hwb : b.wa.length ≤ 1099511627776) (w : World) (HS : S w [sgI sg c o A B a b, alI A a, waI A a, goI A a, alI B b, waI B b, goI B b]) : Calls Try.prog 21 #[.pointer (some ⟨sg, 0, none⟩), .bool o, .agg m.cells] w fun e w' => ∃ Aq Bq : Ad, e = .returned (.int .i64 (stepE c a b m)) ∧ S w' ([sgI sg c o Aq Bq (stepO c a b m) (stepP c a b m), alI Aq (stepO c a b m), waI Aq (stepO c a b m), goI Aq (stepO c a b m), alI Bq (stepP c a b m), waI Bq (stepP c a b m), goI Bq (stepP c a b m)] ++ [olS w sg c o A B a b]) := by
 have H0 := HS.beginI
 refine enter_d 134 Try.func21 rfl rfl rfl ?_
 refine g_weak [(0, .pointer (some ⟨sg, 0, none⟩)), (1, .bool o), (2, .agg m.cells)] ⟨rfl, rfl, rfl, trivial⟩ ?_
 refine w_s ?_
 refine l_of (s_box H0 (wt0 rfl) rfl rfl rfl rfl ?_)
 intro g1 wq2 H3
 refine l_of (s_alloc H3 (wt0 rfl) rfl rfl rfl ze28 ?_)
 intro g4 wq5 H6
 refine w_e ?_
 refine w_s ?_
 refine w_v (v := .func (.func 30) #[] #[.pointer (some ⟨g4, 0, none⟩)]) (x_makeFunc rfl rfl rfl) ?_
 refine l_of (s_defer (wt0 rfl) rfl (xd_defer rfl rfl rfl) ?_)
 refine w_e ?_
 refine g_seq ?_
 refine g_cut (ι := Nat) (fun gd => [(0, .pointer (some ⟨sg, 0, none⟩)), (5, .pointer (some ⟨g1, 0, none⟩)), (6, .pointer (some ⟨g4, 0, none⟩)), (7, .pointer (some ⟨gd, 0, none⟩))]) (fun gd wx => S wx [ddI gd sg o m, Ob g4 (.cells #[.int .i64 0] 28 (0, 0)), mgI g1 m, sgI sg c o A B a b, alI A a, waI A a, goI A a, alI B b, waI B b, goI B b, olS w sg c o A B a b]) ?_ ?_
 ·
  refine g_any [(0, .pointer (some ⟨sg, 0, none⟩)), (1, .bool o), (2, .agg m.cells), (5, .pointer (some ⟨g1, 0, none⟩)), (6, .pointer (some ⟨g4, 0, none⟩)), (10, .func (.func 30) #[] #[.pointer (some ⟨g4, 0, none⟩)])] (fun wx => S wx [mgI g1 m]) [] (by kernel_rfl) H6 (fun wq7 H8 => ?_)
  have cm1 := H8.mask [false, true, false, false, false, false, false, false, false, false]
  refine w_t 0 rfl cm1 (fun _ _ => xm) ?_
  refine w_t (v := .agg m.cells) 1 rfl cm1 (fun _ H => x_loadA H 0 rfl rfl Try.underlying33 rfl sz33 rfl rfl rfl) ?_
  refine w_t 2 rfl cm1 (fun _ _ => xm) ?_
  refine w_t 3 rfl cm1 (fun _ _ => xm) ?_
  refine w_t 5 rfl cm1 (fun _ _ => xn) ?_
  refine w_t 6 rfl cm1 (fun _ _ => xf 5) ?_
  refine w_t 8 rfl cm1 (fun _ _ => xm) ?_
  refine w_t 9 rfl cm1 (fun _ _ => xm) ?_
  refine w_t (v := .bool (!o)) 10 rfl cm1 (fun _ _ => x_not (b := o) rfl rfl) ?_
  refine w_t 12 rfl cm1 (fun _ _ => xn) ?_
  refine w_t 13 rfl cm1 (fun _ _ => xf 5) ?_
  refine a_two (i := 4) (j := 16) (by kernel_rfl) rfl rfl ?_ ?_
  ·
   refine s_call0 H8 (wt0 rfl) (x_call' rfl rfl cl23) (way_o o _) rfl rfl ?_
   intro wq9 H10
   have cm2 := H10.mask [false, true, false, false, false, false, false, false, false, false]
   refine a_k cm2 ?_
   refine w_t (v := .pointer (some ⟨sg, offO o, none⟩)) 7 rfl cm2 (fun _ _ => x_indexAddrA (wN o) rfl rfl rfl Try.underlying55 sz54 ⟨rfl, wN_lt _⟩ (off' := offO o) (way_offO o)) ?_
   refine a_two (i := 11) (j := 16) (by kernel_rfl) rfl rfl ?_ ?_
   ·
    refine s_call0 H10 (wt0 rfl) (x_call' rfl rfl cl23) (way_p o _) rfl rfl ?_
    intro wq11 H12
    have cm3 := H12.mask [false, true, false, false, false, false, false, false, false, false]
    refine a_k cm3 ?_
    refine w_t (v := .pointer (some ⟨sg, offP o, none⟩)) 14 rfl cm3 (fun _ _ => x_indexAddrA (wN (!o)) rfl rfl rfl Try.underlying55 sz54 ⟨rfl, wN_lt _⟩ (off' := offP o) (way_offP o)) ?_
    refine w_t (v := .agg #[.pointer (some ⟨sg, 0, none⟩), .int .i64 (m.kind), .int .i64 (m.i1), .int .i64 (m.i2), .int .i64 (m.i3), .int .i64 (m.i4), .int .i64 (m.i5), .string (m.root), .string (m.data), .pointer (some ⟨sg, offO o, none⟩), .pointer (some ⟨sg, offP o, none⟩)]) 15 rfl cm3 (fun _ _ => x_build (vs := [.pointer (some ⟨sg, 0, none⟩), .agg m.cells, .pointer (some ⟨sg, offO o, none⟩), .pointer (some ⟨sg, offP o, none⟩)]) rfl rfl (cells := #[.pointer (some ⟨sg, 0, none⟩), .int .i64 (m.kind), .int .i64 (m.i1), .int .i64 (m.i2), .int .i64 (m.i3), .int .i64 (m.i4), .int .i64 (m.i5), .string (m.root), .string (m.data), .pointer (some ⟨sg, offO o, none⟩), .pointer (some ⟨sg, offP o, none⟩)]) (by kernel_rfl)) ?_
    refine a_one (i := 16) (by kernel_rfl) rfl ?_
    refine s_alloc H12 (wt0 rfl) rfl rfl rfl ze75 ?_
    intro g13 wq14 H15
    refine a_k (H15.mask [false, false, true, false, false, false, false, false, false, false, false]) ?_
    refine a_one (i := 17) (by kernel_rfl) rfl ?_
    refine w_st #[.pointer (some ⟨sg, 0, none⟩), .int .i64 (m.kind), .int .i64 (m.i1), .int .i64 (m.i2), .int .i64 (m.i3), .int .i64 (m.i4), .int .i64 (m.i5), .string (m.root), .string (m.data), .pointer (some ⟨sg, offO o, none⟩), .pointer (some ⟨sg, offP o, none⟩)] H15 0 ?_
    intro wq16 H17
    refine a_k (H17.mask [false, false, true, false, false, false, false, false, false, false, false]) ?_
    refine a_done (by kernel_rfl) ?_
    refine g_then ?_
    refine g_mid (g13) ?_ ?_
    · exact ⟨rfl, rfl, rfl, rfl, trivial⟩
    · exact (H17.takes [0, 1, 2, 3, 4, 5, 6, 7, 8, 9, 10] (by decide))
   ·
    refine s_alloc H10 (wt0 rfl) rfl rfl rfl ze75 ?_
    intro g18 wq19 H20
    refine a_k (H20.mask [false, false, true, false, false, false, false, false, false, false, false]) ?_
    refine a_one (i := 11) (by kernel_rfl) rfl ?_
    refine s_call0 H20 (wt0 rfl) (x_call' rfl rfl cl23) (way_p o _) rfl rfl ?_
    intro wq21 H22
    have cm4 := H22.mask [false, false, true, false, false, false, false, false, false, false, false]
    refine a_k cm4 ?_
    refine w_t (v := .pointer (some ⟨sg, offP o, none⟩)) 14 rfl cm4 (fun _ _ => x_indexAddrA (wN (!o)) rfl rfl rfl Try.underlying55 sz54 ⟨rfl, wN_lt _⟩ (off' := offP o) (way_offP o)) ?_
    refine w_t (v := .agg #[.pointer (some ⟨sg, 0, none⟩), .int .i64 (m.kind), .int .i64 (m.i1), .int .i64 (m.i2), .int .i64 (m.i3), .int .i64 (m.i4), .int .i64 (m.i5), .string (m.root), .string (m.data), .pointer (some ⟨sg, offO o, none⟩), .pointer (some ⟨sg, offP o, none⟩)]) 15 rfl cm4 (fun _ _ => x_build (vs := [.pointer (some ⟨sg, 0, none⟩), .agg m.cells, .pointer (some ⟨sg, offO o, none⟩), .pointer (some ⟨sg, offP o, none⟩)]) rfl rfl (cells := #[.pointer (some ⟨sg, 0, none⟩), .int .i64 (m.kind), .int .i64 (m.i1), .int .i64 (m.i2), .int .i64 (m.i3), .int .i64 (m.i4), .int .i64 (m.i5), .string (m.root), .string (m.data), .pointer (some ⟨sg, offO o, none⟩), .pointer (some ⟨sg, offP o, none⟩)]) (by kernel_rfl)) ?_
    refine a_one (i := 17) (by kernel_rfl) rfl ?_
    refine w_st #[.pointer (some ⟨sg, 0, none⟩), .int .i64 (m.kind), .int .i64 (m.i1), .int .i64 (m.i2), .int .i64 (m.i3), .int .i64 (m.i4), .int .i64 (m.i5), .string (m.root), .string (m.data), .pointer (some ⟨sg, offO o, none⟩), .pointer (some ⟨sg, offP o, none⟩)] H22 0 ?_
    intro wq23 H24
    refine a_k (H24.mask [false, false, true, false, false, false, false, false, false, false, false]) ?_
    refine a_done (by kernel_rfl) ?_
    refine g_then ?_
    refine g_mid (g18) ?_ ?_
    · exact ⟨rfl, rfl, rfl, rfl, trivial⟩
    · exact (H24.takes [0, 1, 2, 3, 4, 5, 6, 7, 8, 9, 10] (by decide))
  ·
   refine s_alloc H8 (wt0 rfl) rfl rfl rfl ze75 ?_
   intro g25 wq26 H27
   refine a_k (H27.mask [false, false, true, false, false, false, false, false, false, false, false]) ?_
   refine a_one (i := 4) (by kernel_rfl) rfl ?_
   refine s_call0 H27 (wt0 rfl) (x_call' rfl rfl cl23) (way_o o _) rfl rfl ?_
   intro wq28 H29
   have cm5 := H29.mask [false, false, true, false, false, false, false, false, false, false, false]
   refine a_k cm5 ?_
   refine w_t (v := .pointer (some ⟨sg, offO o, none⟩)) 7 rfl cm5 (fun _ _ => x_indexAddrA (wN o) rfl rfl rfl Try.underlying55 sz54 ⟨rfl, wN_lt _⟩ (off' := offO o) (way_offO o)) ?_
   refine a_one (i := 11) (by kernel_rfl) rfl ?_
   refine s_call0 H29 (wt0 rfl) (x_call' rfl rfl cl23) (way_p o _) rfl rfl ?_
   intro wq30 H31
   have cm6 := H31.mask [false, false, true, false, false, false, false, false, false, false, false]
   refine a_k cm6 ?_
   refine w_t (v := .pointer (some ⟨sg, offP o, none⟩)) 14 rfl cm6 (fun _ _ => x_indexAddrA (wN (!o)) rfl rfl rfl Try.underlying55 sz54 ⟨rfl, wN_lt _⟩ (off' := offP o) (way_offP o)) ?_
   refine w_t (v := .agg #[.pointer (some ⟨sg, 0, none⟩), .int .i64 (m.kind), .int .i64 (m.i1), .int .i64 (m.i2), .int .i64 (m.i3), .int .i64 (m.i4), .int .i64 (m.i5), .string (m.root), .string (m.data), .pointer (some ⟨sg, offO o, none⟩), .pointer (some ⟨sg, offP o, none⟩)]) 15 rfl cm6 (fun _ _ => x_build (vs := [.pointer (some ⟨sg, 0, none⟩), .agg m.cells, .pointer (some ⟨sg, offO o, none⟩), .pointer (some ⟨sg, offP o, none⟩)]) rfl rfl (cells := #[.pointer (some ⟨sg, 0, none⟩), .int .i64 (m.kind), .int .i64 (m.i1), .int .i64 (m.i2), .int .i64 (m.i3), .int .i64 (m.i4), .int .i64 (m.i5), .string (m.root), .string (m.data), .pointer (some ⟨sg, offO o, none⟩), .pointer (some ⟨sg, offP o, none⟩)]) (by kernel_rfl)) ?_
   refine a_one (i := 17) (by kernel_rfl) rfl ?_
   refine w_st #[.pointer (some ⟨sg, 0, none⟩), .int .i64 (m.kind), .int .i64 (m.i1), .int .i64 (m.i2), .int .i64 (m.i3), .int .i64 (m.i4), .int .i64 (m.i5), .string (m.root), .string (m.data), .pointer (some ⟨sg, offO o, none⟩), .pointer (some ⟨sg, offP o, none⟩)] H31 0 ?_
   intro wq32 H33
   refine a_k (H33.mask [false, false, true, false, false, false, false, false, false, false, false]) ?_
   refine a_done (by kernel_rfl) ?_
   refine g_then ?_
   refine g_mid (g25) ?_ ?_
   · exact ⟨rfl, rfl, rfl, rfl, trivial⟩
   · exact (H33.takes [0, 1, 2, 3, 4, 5, 6, 7, 8, 9, 10] (by decide))
 rintro gd wq34 H35
 refine g_weak [(0, .pointer (some ⟨sg, 0, none⟩)), (5, .pointer (some ⟨g1, 0, none⟩)), (6, .pointer (some ⟨g4, 0, none⟩)), (7, .pointer (some ⟨gd, 0, none⟩))] ⟨rfl, rfl, rfl, rfl, trivial⟩ ?_
 refine g_seq ?_
 refine g_cut (ι := Unit) (fun _ => [(0, .pointer (some ⟨sg, 0, none⟩)), (5, .pointer (some ⟨g1, 0, none⟩)), (6, .pointer (some ⟨g4, 0, none⟩)), (7, .pointer (some ⟨gd, 0, none⟩)), (8, .bool ((quietB m.kind)))]) (fun _ wx => S wx [ddI gd sg o m, Ob g4 (.cells #[.int .i64 0] 28 (0, 0)), mgI g1 m, sgI sg c o A B a b, alI A a, waI A a, goI A a, alI B b, waI B b, goI B b, olS w sg c o A B a b]) ?_ ?_
 ·
  refine g_region ?_
  refine w_f 0 ?_
  refine w_1 H35 2 ?_
  refine w_b ?_
  refine w_m ?_
  by_cases hb36 : (m.kind : Int) = 1
  ·
   refine w_n (decide_eq_true hb36) ?_
   refine w_n (decide_eq_true hb36) ?_
   refine w_n (decide_eq_true hb36) ?_
   refine w_v (v := .bool true) (x_pick_t rfl rfl (decide_eq_true hb36) rfl) ?_
   have hqu37 : (true) = quietB m.kind := by unfold quietB; simp [hb36]
   refine w_v (x_assign rfl (congrArg (fun b => some (Value.bool b)) hqu37)) ?_
   refine w_e ?_
   refine g_mid () ?_ ?_
   · exact ⟨rfl, rfl, rfl, rfl, rfl, trivial⟩
   · exact H35
  ·
   refine w_g (decide_eq_false hb36) (xf 0) ?_
   refine w_g (decide_eq_false hb36) (xl H35 2) ?_
   refine w_g (decide_eq_false hb36) (x_bin rfl rfl rfl b_eql) ?_
   refine w_v (v := .bool (decide ((m.kind : Int) = 17))) (x_pick_f rfl rfl (decide_eq_false hb36) rfl) ?_
   have hqu38 : (decide ((m.kind : Int) = 17)) = quietB m.kind := by unfold quietB; simp [hb36]
   refine w_v (x_assign rfl (congrArg (fun b => some (Value.bool b)) hqu38)) ?_
   refine w_e ?_
   refine g_mid () ?_ ?_
   · exact ⟨rfl, rfl, rfl, rfl, rfl, trivial⟩
   · exact H35
 rintro _ wq39 H40
 refine g_weak [(0, .pointer (some ⟨sg, 0, none⟩)), (5, .pointer (some ⟨g1, 0, none⟩)), (6, .pointer (some ⟨g4, 0, none⟩)), (7, .pointer (some ⟨gd, 0, none⟩)), (8, .bool ((quietB m.kind)))] ⟨rfl, rfl, rfl, rfl, rfl, trivial⟩ ?_
 refine g_seq ?_
 refine g_cut (ι := Unit) (fun _ => [(0, .pointer (some ⟨sg, 0, none⟩)), (5, .pointer (some ⟨g1, 0, none⟩)), (6, .pointer (some ⟨g4, 0, none⟩)), (7, .pointer (some ⟨gd, 0, none⟩)), (8, .bool ((quietB m.kind)))]) (fun _ wx => ((c.ft || !extraB m.kind) = true) ∧ S wx [ddI gd sg o m, Ob g4 (.cells #[.int .i64 0] 28 (0, 0)), mgI g1 m, sgI sg c o A B a b, alI A a, waI A a, goI A a, alI B b, waI B b, goI B b, olS w sg c o A B a b]) ?_ ?_
 ·
  refine g_region ?_
  refine w_r4 ?_
  refine w_v (x_load1 H40 3 rfl rfl Try.underlying4 rfl rfl (sgC_c rfl)) ?_
  refine w_m ?_
  rcases Bool.eq_false_or_eq_true (c.ft) with hb41 | hb41
  ·
   refine w_n hb41 ?_
   refine w_n hb41 ?_
   refine w_n hb41 ?_
   refine w_n hb41 ?_
   refine w_v (v := .bool true) (x_pick_t rfl rfl hb41 rfl) ?_
   have hnd42 := need_bt (show (true) = true from rfl) 10 wq39
   refine l_of (s_call0 H40 (wt0 rfl) (x_call' rfl rfl cl31) (hnd42) rfl rfl ?_)
   intro wq43 H44
   refine w_e ?_
   refine g_mid () ?_ ?_
   · exact ⟨rfl, rfl, rfl, rfl, rfl, trivial⟩
   · exact ⟨(by simp [hb41]), H44⟩
  ·
   refine w_g hb41 (xf 0) ?_
   refine w_g hb41 (xl H40 2) ?_
   refine l_of (s_call0 H40 (wt1 rfl rfl rfl rfl hb41) (x_call' rfl rfl cl32) (extra_s m.kind _) rfl rfl ?_)
   intro wq45 H46
   refine w_g (v := .bool (!((extraB m.kind)))) hb41 (x_not (b := (extraB m.kind)) rfl rfl) ?_
   refine w_v (v := .bool (!((extraB m.kind)))) (x_pick_f rfl rfl hb41 rfl) ?_
   rcases Bool.eq_false_or_eq_true ((extraB m.kind)) with hb47 | hb47
   ·
    have hnd48 := need_bf (show (!((extraB m.kind))) = false from (neg_of hb47)) 10 wq45
    refine l_of (s_call (wt0 rfl) (x_call' rfl rfl cl31) (hnd48) ?_)
    rintro _ wq49 ⟨rfl, H50⟩
    replace H50 : S wq49 [ddI gd sg o m, Ob g4 (.cells #[.int .i64 0] 28 (0, 0)), mgI g1 m, sgI sg c o A B a b, alI A a, waI A a, goI A a, alI B b, waI B b, goI B b, olS w sg c o A B a b] := H46.absorb (new := []) H50
    refine b_panic ?_
    refine g_then_panic ?_
    refine fin_dpanic ?_
    refine gl_step (by simp) cl30 (step1_p g4 10 (0) [] _ (H50.ob (k := 1) rfl)) ?_
    rintro _ _ wq51 ⟨⟨rfl, H52⟩, rfl⟩
    replace H52 : S wq51 [Ob g4 (.cells #[.int .i64 10] 28 (0, 0)), ddI gd sg o m, mgI g1 m, sgI sg c o A B a b, alI A a, waI A a, goI A a, alI B b, waI B b, goI B b, olS w sg c o A B a b] := H50.absorbK (new := [Ob g4 (.cells #[.int .i64 10] 28 (0, 0))]) [1] (by intro g hg; subst hg; exact ⟨1, rfl, _, rfl, rfl⟩) H52
    refine (?_ : GL _ _ _ _ _ _ FrameMode.returning _)
    refine gl_ret [.cell 6 28] [.int .i64 10] rfl ⟨⟨_, rfl, run_load1 Try.underlying28 rfl (H52.cell (k := 0) rfl rfl)⟩, trivial⟩ ?_
    have hE : stepE c a b m = 10 := by unfold stepE; rw [if_pos (by simp [hb41, hb47])]
    have hz : ¬ stepE c a b m = 0 := by rw [hE]; decide
    have hO : stepO c a b m = a := by unfold stepO; rw [if_neg hz]
    have hP : stepP c a b m = b := by unfold stepP; rw [if_neg hz]
    exact ⟨A, B, by rw [hE]; rfl, by rw [hO, hP]; exact (H52.takes [3, 4, 5, 6, 7, 8, 9, 10] (by decide))⟩
   ·
    have hnd53 := need_bt (show (!((extraB m.kind))) = true from (neg_of hb47)) 10 wq45
    refine l_of (s_call0 H46 (wt0 rfl) (x_call' rfl rfl cl31) (hnd53) rfl rfl ?_)
    intro wq54 H55
    refine w_e ?_
    refine g_mid () ?_ ?_
    · exact ⟨rfl, rfl, rfl, rfl, rfl, trivial⟩
    · exact ⟨(by simp [hb41, hb47]), H55⟩
 rintro _ wq56 ⟨h1, H57⟩
 refine g_weak [(0, .pointer (some ⟨sg, 0, none⟩)), (5, .pointer (some ⟨g1, 0, none⟩)), (6, .pointer (some ⟨g4, 0, none⟩)), (7, .pointer (some ⟨gd, 0, none⟩)), (8, .bool ((quietB m.kind)))] ⟨rfl, rfl, rfl, rfl, rfl, trivial⟩ ?_
 refine g_seq ?_
 refine g_cut (ι := Unit) (fun _ => [(0, .pointer (some ⟨sg, 0, none⟩)), (5, .pointer (some ⟨g1, 0, none⟩)), (6, .pointer (some ⟨g4, 0, none⟩)), (7, .pointer (some ⟨gd, 0, none⟩)), (8, .bool ((quietB m.kind)))]) (fun _ wx => ((!tellB m.kind || !a.bg) = true) ∧ S wx [ddI gd sg o m, Ob g4 (.cells #[.int .i64 0] 28 (0, 0)), mgI g1 m, sgI sg c o A B a b, alI A a, waI A a, goI A a, alI B b, waI B b, goI B b, olS w sg c o A B a b]) ?_ ?_
 ·
  refine g_region ?_
  refine w_f 0 ?_
  refine w_1 H57 2 ?_
  refine l_of (s_call0 H57 (wt0 rfl) (x_call' rfl rfl cl33) (tell_s m.kind _) rfl rfl ?_)
  intro wq58 H59
  refine w_v (v := .bool (!((tellB m.kind)))) (x_not (b := (tellB m.kind)) rfl rfl) ?_
  refine w_m ?_
  rcases Bool.eq_false_or_eq_true ((tellB m.kind)) with hb60 | hb60
  ·
   refine w_g (neg_of hb60) (xf 9) ?_
   refine w_g (neg_of hb60) (xl H59 0) ?_
   refine w_g (neg_of hb60) xn ?_
   refine w_g (neg_of hb60) (xf (offO o + 0)) ?_
   refine w_g (neg_of hb60) (x_load1 H59 3 rfl rfl Try.underlying4 rfl rfl (sgC_o rfl rfl rfl)) ?_
   refine w_g (v := .bool (!(a.bg))) (neg_of hb60) (x_not (b := a.bg) rfl rfl) ?_
   refine w_v (v := .bool (!(a.bg))) (x_pick_f rfl rfl (neg_of hb60) rfl) ?_
   rcases Bool.eq_false_or_eq_true (a.bg) with hb61 | hb61
   ·
    have hnd62 := need_bf (show (!(a.bg)) = false from (neg_of hb61)) 10 wq58
    refine l_of (s_call (wt0 rfl) (x_call' rfl rfl cl31) (hnd62) ?_)
    rintro _ wq63 ⟨rfl, H64⟩
    replace H64 : S wq63 [ddI gd sg o m, Ob g4 (.cells #[.int .i64 0] 28 (0, 0)), mgI g1 m, sgI sg c o A B a b, alI A a, waI A a, goI A a, alI B b, waI B b, goI B b, olS w sg c o A B a b] := H59.absorb (new := []) H64
    refine b_panic ?_
    refine g_then_panic ?_
    refine fin_dpanic ?_
    refine gl_step (by simp) cl30 (step1_p g4 10 (0) [] _ (H64.ob (k := 1) rfl)) ?_
    rintro _ _ wq65 ⟨⟨rfl, H66⟩, rfl⟩
    replace H66 : S wq65 [Ob g4 (.cells #[.int .i64 10] 28 (0, 0)), ddI gd sg o m, mgI g1 m, sgI sg c o A B a b, alI A a, waI A a, goI A a, alI B b, waI B b, goI B b, olS w sg c o A B a b] := H64.absorbK (new := [Ob g4 (.cells #[.int .i64 10] 28 (0, 0))]) [1] (by intro g hg; subst hg; exact ⟨1, rfl, _, rfl, rfl⟩) H66
    refine (?_ : GL _ _ _ _ _ _ FrameMode.returning _)
    refine gl_ret [.cell 6 28] [.int .i64 10] rfl ⟨⟨_, rfl, run_load1 Try.underlying28 rfl (H66.cell (k := 0) rfl rfl)⟩, trivial⟩ ?_
    have hE : stepE c a b m = 10 := by unfold stepE; rw [if_neg (by rw [h1]; simp)]; rw [if_pos (by simp [hb60, hb61])]
    have hz : ¬ stepE c a b m = 0 := by rw [hE]; decide
    have hO : stepO c a b m = a := by unfold stepO; rw [if_neg hz]
    have hP : stepP c a b m = b := by unfold stepP; rw [if_neg hz]
    exact ⟨A, B, by rw [hE]; rfl, by rw [hO, hP]; exact (H66.takes [3, 4, 5, 6, 7, 8, 9, 10] (by decide))⟩
   ·
    have hnd67 := need_bt (show (!(a.bg)) = true from (neg_of hb61)) 10 wq58
    refine l_of (s_call0 H59 (wt0 rfl) (x_call' rfl rfl cl31) (hnd67) rfl rfl ?_)
    intro wq68 H69
    refine w_e ?_
    refine g_mid () ?_ ?_
    · exact ⟨rfl, rfl, rfl, rfl, rfl, trivial⟩
    · exact ⟨(by simp [hb60, hb61]), H69⟩
  ·
   refine w_n (neg_of hb60) ?_
   refine w_n (neg_of hb60) ?_
   refine w_n (neg_of hb60) ?_
   refine w_n (neg_of hb60) ?_
   refine w_n (neg_of hb60) ?_
   refine w_n (neg_of hb60) ?_
   refine w_v (v := .bool true) (x_pick_t rfl rfl (neg_of hb60) rfl) ?_
   have hnd70 := need_bt (show (true) = true from rfl) 10 wq58
   refine l_of (s_call0 H59 (wt0 rfl) (x_call' rfl rfl cl31) (hnd70) rfl rfl ?_)
   intro wq71 H72
   refine w_e ?_
   refine g_mid () ?_ ?_
   · exact ⟨rfl, rfl, rfl, rfl, rfl, trivial⟩
   · exact ⟨(by simp [hb60]), H72⟩
 rintro _ wq73 ⟨h2, H74⟩
 refine g_weak [(0, .pointer (some ⟨sg, 0, none⟩)), (5, .pointer (some ⟨g1, 0, none⟩)), (6, .pointer (some ⟨g4, 0, none⟩)), (7, .pointer (some ⟨gd, 0, none⟩)), (8, .bool ((quietB m.kind)))] ⟨rfl, rfl, rfl, rfl, rfl, trivial⟩ ?_
 refine g_seq ?_
 refine g_cut (ι := Unit) (fun _ => [(0, .pointer (some ⟨sg, 0, none⟩)), (5, .pointer (some ⟨g1, 0, none⟩)), (6, .pointer (some ⟨g4, 0, none⟩)), (7, .pointer (some ⟨gd, 0, none⟩)), (8, .bool ((quietB m.kind)))]) (fun _ wx => ((!c.ft || a.bg || quietB m.kind || tellB m.kind) = true) ∧ S wx [ddI gd sg o m, Ob g4 (.cells #[.int .i64 0] 28 (0, 0)), mgI g1 m, sgI sg c o A B a b, alI A a, waI A a, goI A a, alI B b, waI B b, goI B b, olS w sg c o A B a b]) ?_ ?_
 ·
  refine g_region ?_
  refine w_r4 ?_
  refine w_v (x_load1 H74 3 rfl rfl Try.underlying4 rfl rfl (sgC_c rfl)) ?_
  refine w_v (v := .bool (!(c.ft))) (x_not (b := c.ft) rfl rfl) ?_
  refine w_m ?_
  rcases Bool.eq_false_or_eq_true (c.ft) with hb75 | hb75
  ·
   refine w_g (neg_of hb75) (xf 9) ?_
   refine w_g (neg_of hb75) (xl H74 0) ?_
   refine w_g (neg_of hb75) xn ?_
   refine w_g (neg_of hb75) (xf (offO o + 0)) ?_
   refine w_g (neg_of hb75) (x_load1 H74 3 rfl rfl Try.underlying4 rfl rfl (sgC_o rfl rfl rfl)) ?_
   refine w_v (v := .bool a.bg) (x_pick_f rfl rfl (neg_of hb75) rfl) ?_
   refine w_m ?_
   rcases Bool.eq_false_or_eq_true (a.bg) with hb76 | hb76
   ·
    refine w_n hb76 ?_
    refine w_v (v := .bool true) (x_pick_t rfl rfl hb76 rfl) ?_
    refine w_m ?_
    refine w_n rfl ?_
    refine w_n rfl ?_
    refine w_n rfl ?_
    refine w_v (v := .bool true) (x_pick_t rfl rfl rfl rfl) ?_
    have hnd77 := need_bt (show (true) = true from rfl) 10 wq73
    refine l_of (s_call0 H74 (wt0 rfl) (x_call' rfl rfl cl31) (hnd77) rfl rfl ?_)
    intro wq78 H79
    refine w_e ?_
    refine g_mid () ?_ ?_
    · exact ⟨rfl, rfl, rfl, rfl, rfl, trivial⟩
    · exact ⟨(by simp [hb75, hb76]), H79⟩
   ·
    refine w_g hb76 xm ?_
    refine w_v (v := .bool ((quietB m.kind))) (x_pick_f rfl rfl hb76 rfl) ?_
    refine w_m ?_
    rcases Bool.eq_false_or_eq_true ((quietB m.kind)) with hb80 | hb80
    ·
     refine w_n hb80 ?_
     refine w_n hb80 ?_
     refine w_n hb80 ?_
     refine w_v (v := .bool true) (x_pick_t rfl rfl hb80 rfl) ?_
     have hnd81 := need_bt (show (true) = true from rfl) 10 wq73
     refine l_of (s_call0 H74 (wt0 rfl) (x_call' rfl rfl cl31) (hnd81) rfl rfl ?_)
     intro wq82 H83
     refine w_e ?_
     refine g_mid () ?_ ?_
     · exact ⟨rfl, rfl, rfl, rfl, rfl, trivial⟩
     · exact ⟨(by simp [hb75, hb76, hb80]), H83⟩
    ·
     refine w_g hb80 (xf 0) ?_
     refine w_g hb80 (xl H74 2) ?_
     refine l_of (s_call0 H74 (wt1 rfl rfl rfl rfl hb80) (x_call' rfl rfl cl33) (tell_s m.kind _) rfl rfl ?_)
     intro wq84 H85
     refine w_v (v := .bool ((tellB m.kind))) (x_pick_f rfl rfl hb80 rfl) ?_
     rcases Bool.eq_false_or_eq_true ((tellB m.kind)) with hb86 | hb86
     ·
      have hnd87 := need_bt (show ((tellB m.kind)) = true from hb86) 10 wq84
      refine l_of (s_call0 H85 (wt0 rfl) (x_call' rfl rfl cl31) (hnd87) rfl rfl ?_)
      intro wq88 H89
      refine w_e ?_
      refine g_mid () ?_ ?_
      · exact ⟨rfl, rfl, rfl, rfl, rfl, trivial⟩
      · exact ⟨(by simp [hb75, hb76, hb80, hb86]), H89⟩
     ·
      have hnd90 := need_bf (show ((tellB m.kind)) = false from hb86) 10 wq84
      refine l_of (s_call (wt0 rfl) (x_call' rfl rfl cl31) (hnd90) ?_)
      rintro _ wq91 ⟨rfl, H92⟩
      replace H92 : S wq91 [ddI gd sg o m, Ob g4 (.cells #[.int .i64 0] 28 (0, 0)), mgI g1 m, sgI sg c o A B a b, alI A a, waI A a, goI A a, alI B b, waI B b, goI B b, olS w sg c o A B a b] := H85.absorb (new := []) H92
      refine b_panic ?_
      refine g_then_panic ?_
      refine fin_dpanic ?_
      refine gl_step (by simp) cl30 (step1_p g4 10 (0) [] _ (H92.ob (k := 1) rfl)) ?_
      rintro _ _ wq93 ⟨⟨rfl, H94⟩, rfl⟩
      replace H94 : S wq93 [Ob g4 (.cells #[.int .i64 10] 28 (0, 0)), ddI gd sg o m, mgI g1 m, sgI sg c o A B a b, alI A a, waI A a, goI A a, alI B b, waI B b, goI B b, olS w sg c o A B a b] := H92.absorbK (new := [Ob g4 (.cells #[.int .i64 10] 28 (0, 0))]) [1] (by intro g hg; subst hg; exact ⟨1, rfl, _, rfl, rfl⟩) H94
      refine (?_ : GL _ _ _ _ _ _ FrameMode.returning _)
      refine gl_ret [.cell 6 28] [.int .i64 10] rfl ⟨⟨_, rfl, run_load1 Try.underlying28 rfl (H94.cell (k := 0) rfl rfl)⟩, trivial⟩ ?_
      have hE : stepE c a b m = 10 := by unfold stepE; rw [if_neg (by rw [h1]; simp)]; rw [if_neg (by rw [h2]; simp)]; rw [if_pos (by simp [hb75, hb76, hb80, hb86])]
      have hz : ¬ stepE c a b m = 0 := by rw [hE]; decide
      have hO : stepO c a b m = a := by unfold stepO; rw [if_neg hz]
      have hP : stepP c a b m = b := by unfold stepP; rw [if_neg hz]
      exact ⟨A, B, by rw [hE]; rfl, by rw [hO, hP]; exact (H94.takes [3, 4, 5, 6, 7, 8, 9, 10] (by decide))⟩
  ·
   refine w_n (neg_of hb75) ?_
   refine w_n (neg_of hb75) ?_
   refine w_n (neg_of hb75) ?_
   refine w_n (neg_of hb75) ?_
   refine w_n (neg_of hb75) ?_
   refine w_v (v := .bool true) (x_pick_t rfl rfl (neg_of hb75) rfl) ?_
   refine w_m ?_
   refine w_n rfl ?_
   refine w_v (v := .bool true) (x_pick_t rfl rfl rfl rfl) ?_
   refine w_m ?_
   refine w_n rfl ?_
   refine w_n rfl ?_
   refine w_n rfl ?_
   refine w_v (v := .bool true) (x_pick_t rfl rfl rfl rfl) ?_
   have hnd95 := need_bt (show (true) = true from rfl) 10 wq73
   refine l_of (s_call0 H74 (wt0 rfl) (x_call' rfl rfl cl31) (hnd95) rfl rfl ?_)
   intro wq96 H97
   refine w_e ?_
   refine g_mid () ?_ ?_
   · exact ⟨rfl, rfl, rfl, rfl, rfl, trivial⟩
   · exact ⟨(by simp [hb75]), H97⟩
 rintro _ wq98 ⟨h3, H99⟩
 refine g_weak [(0, .pointer (some ⟨sg, 0, none⟩)), (5, .pointer (some ⟨g1, 0, none⟩)), (6, .pointer (some ⟨g4, 0, none⟩)), (7, .pointer (some ⟨gd, 0, none⟩)), (8, .bool ((quietB m.kind)))] ⟨rfl, rfl, rfl, rfl, rfl, trivial⟩ ?_
 refine g_seq ?_
 refine g_cut (ι := Unit) (fun _ => [(0, .pointer (some ⟨sg, 0, none⟩)), (5, .pointer (some ⟨g1, 0, none⟩)), (6, .pointer (some ⟨g4, 0, none⟩)), (7, .pointer (some ⟨gd, 0, none⟩)), (8, .bool ((quietB m.kind)))]) (fun _ wx => (¬ (m.kind = 7 ∧ validF c.n m.data = false)) ∧ S wx [ddI gd sg o m, Ob g4 (.cells #[.int .i64 0] 28 (0, 0)), mgI g1 m, sgI sg c o A B a b, alI A a, waI A a, goI A a, alI B b, waI B b, goI B b, olS w sg c o A B a b]) ?_ ?_
 ·
  refine w_s ?_
  refine w_f 0 ?_
  refine w_1 H99 2 ?_
  refine w_b ?_
  refine w_e ?_
  by_cases hb100 : (m.kind : Int) = 7
  ·
   refine g_cond_t rfl (decide_eq_true hb100) ?_
   refine g_any [(0, .pointer (some ⟨sg, 0, none⟩)), (5, .pointer (some ⟨g1, 0, none⟩)), (6, .pointer (some ⟨g4, 0, none⟩)), (7, .pointer (some ⟨gd, 0, none⟩)), (8, .bool ((quietB m.kind))), (82, .pointer (some ⟨g1, 0, none⟩)), (83, .int .i64 (m.kind)), (84, .bool (decide ((m.kind : Int) = 7)))] (fun wx => S wx [mgI g1 m, sgI sg c o A B a b]) [] (by kernel_rfl) H99 (fun wq101 H102 => ?_)
   have cm7 := H102.mask [false, false, true, true, false, false, false, false, false, false, false]
   refine w_t 0 rfl cm7 (fun _ _ => xm) ?_
   refine w_t 1 rfl cm7 (fun _ _ => xn) ?_
   refine w_t 2 rfl cm7 (fun _ _ => xf 0) ?_
   refine w_t 3 rfl cm7 (fun _ _ => xf 0) ?_
   refine w_t 4 rfl cm7 (fun _ H => x_load1 H 1 rfl rfl Try.underlying3 rfl rfl (sgC_c rfl)) ?_
   refine w_t 5 rfl cm7 (fun _ _ => xf 7) ?_
   refine w_t 6 rfl cm7 (fun _ H => xl H 0) ?_
   refine a_one (i := 7) (by kernel_rfl) rfl ?_
   refine s_call0 H102 (wt0 rfl) (x_call' rfl rfl cl34) (valid_b c.n m.data _) rfl rfl ?_
   intro wq103 H104
   refine a_k (H104.mask [false, false, true, true, false, false, false, false, false, false, false]) ?_
   refine a_one (i := 8) (by kernel_rfl) rfl ?_
   rcases Bool.eq_false_or_eq_true ((validF c.n m.data)) with hb105 | hb105
   ·
    have hnd106 := need_bt (show ((validF c.n m.data)) = true from hb105) 12 wq103
    refine s_call0 H104 (wt0 rfl) (x_call' rfl rfl cl31) (hnd106) rfl rfl ?_
    intro wq107 H108
    refine a_k (H108.mask [false, false, true, true, false, false, false, false, false, false, false]) ?_
    refine a_done (by kernel_rfl) ?_
    refine g_then ?_
    refine g_mid () ?_ ?_
    · exact ⟨rfl, rfl, rfl, rfl, rfl, trivial⟩
    · exact ⟨(by simp [hb100, hb105]), H108⟩
   ·
    have hnd109 := need_bf (show ((validF c.n m.data)) = false from hb105) 12 wq103
    refine s_call (wt0 rfl) (x_call' rfl rfl cl31) (hnd109) ?_
    rintro _ wq110 ⟨rfl, H111⟩
    replace H111 : S wq110 [ddI gd sg o m, Ob g4 (.cells #[.int .i64 0] 28 (0, 0)), mgI g1 m, sgI sg c o A B a b, alI A a, waI A a, goI A a, alI B b, waI B b, goI B b, olS w sg c o A B a b] := H104.absorb (new := []) H111
    refine b_panic ?_
    refine pan_in ⟨rfl, rfl, rfl, rfl, rfl, rfl, rfl, rfl, trivial⟩ ?_
    refine g_then_panic ?_
    refine fin_dpanic ?_
    refine gl_step (by simp) cl30 (step1_p g4 12 (0) [] _ (H111.ob (k := 1) rfl)) ?_
    rintro _ _ wq112 ⟨⟨rfl, H113⟩, rfl⟩
    replace H113 : S wq112 [Ob g4 (.cells #[.int .i64 12] 28 (0, 0)), ddI gd sg o m, mgI g1 m, sgI sg c o A B a b, alI A a, waI A a, goI A a, alI B b, waI B b, goI B b, olS w sg c o A B a b] := H111.absorbK (new := [Ob g4 (.cells #[.int .i64 12] 28 (0, 0))]) [1] (by intro g hg; subst hg; exact ⟨1, rfl, _, rfl, rfl⟩) H113
    refine (?_ : GL _ _ _ _ _ _ FrameMode.returning _)
    refine gl_ret [.cell 6 28] [.int .i64 12] rfl ⟨⟨_, rfl, run_load1 Try.underlying28 rfl (H113.cell (k := 0) rfl rfl)⟩, trivial⟩ ?_
    have hE : stepE c a b m = 12 := by unfold stepE; rw [if_neg (by rw [h1]; simp), if_neg (by rw [h2]; simp), if_neg (by rw [h3]; simp)]; rw [if_pos (by simp [hb100, hb105])]
    have hz : ¬ stepE c a b m = 0 := by rw [hE]; decide
    have hO : stepO c a b m = a := by unfold stepO; rw [if_neg hz]
    have hP : stepP c a b m = b := by unfold stepP; rw [if_neg hz]
    exact ⟨A, B, by rw [hE]; rfl, by rw [hO, hP]; exact (H113.takes [3, 4, 5, 6, 7, 8, 9, 10] (by decide))⟩
  ·
   refine g_cond_f rfl (decide_eq_false hb100) ?_
   refine g_skip ?_
   refine g_then ?_
   refine g_mid () ?_ ?_
   · exact ⟨rfl, rfl, rfl, rfl, rfl, trivial⟩
   · exact ⟨(by simp [hb100]), H99⟩
 rintro _ wq114 ⟨h4, H115⟩
 refine g_weak [(0, .pointer (some ⟨sg, 0, none⟩)), (5, .pointer (some ⟨g1, 0, none⟩)), (6, .pointer (some ⟨g4, 0, none⟩)), (7, .pointer (some ⟨gd, 0, none⟩)), (8, .bool ((quietB m.kind)))] ⟨rfl, rfl, rfl, rfl, rfl, trivial⟩ ?_
 refine g_seq ?_
 refine g_cut (ι := Unit) (fun _ => [(5, .pointer (some ⟨g1, 0, none⟩)), (6, .pointer (some ⟨g4, 0, none⟩)), (7, .pointer (some ⟨gd, 0, none⟩)), (8, .bool ((quietB m.kind)))]) (fun _ wx => (fitsS m c.n c.pi c.la = true) ∧ S wx [ddI gd sg o m, Ob g4 (.cells #[.int .i64 0] 28 (0, 0)), mgI g1 m, sgI sg c o A B a b, alI A a, waI A a, goI A a, alI B b, waI B b, goI B b, olS w sg c o A B a b]) ?_ ?_
 ·
  refine g_any [(0, .pointer (some ⟨sg, 0, none⟩)), (5, .pointer (some ⟨g1, 0, none⟩)), (6, .pointer (some ⟨g4, 0, none⟩)), (7, .pointer (some ⟨gd, 0, none⟩)), (8, .bool ((quietB m.kind)))] (fun wx => S wx [mgI g1 m, sgI sg c o A B a b]) [] (by kernel_rfl) H115 (fun wq116 H117 => ?_)
  have cm8 := H117.mask [false, false, true, true, false, false, false, false, false, false, false]
  refine w_t (v := .agg m.cells) 0 rfl cm8 (fun _ H => x_loadA H 0 rfl rfl Try.underlying33 rfl sz33 rfl rfl rfl) ?_
  refine w_t 1 rfl cm8 (fun _ _ => xm) ?_
  refine w_t 2 rfl cm8 (fun _ _ => xn) ?_
  refine w_t 3 rfl cm8 (fun _ _ => xf 0) ?_
  refine w_t 4 rfl cm8 (fun _ _ => xf 0) ?_
  refine w_t 5 rfl cm8 (fun _ H => x_load1 H 1 rfl rfl Try.underlying3 rfl rfl (sgC_c rfl)) ?_
  refine w_t 6 rfl cm8 (fun _ _ => xm) ?_
  refine w_t 7 rfl cm8 (fun _ _ => xn) ?_
  refine w_t 8 rfl cm8 (fun _ _ => xf 0) ?_
  refine w_t 9 rfl cm8 (fun _ _ => xf 1) ?_
  refine w_t 10 rfl cm8 (fun _ H => x_load1 H 1 rfl rfl Try.underlying3 rfl rfl (sgC_c rfl)) ?_
  refine w_t 11 rfl cm8 (fun _ _ => xm) ?_
  refine w_t 12 rfl cm8 (fun _ _ => xn) ?_
  refine w_t 13 rfl cm8 (fun _ _ => xf 0) ?_
  refine w_t 14 rfl cm8 (fun _ _ => xf 2) ?_
  refine w_t 15 rfl cm8 (fun _ H => x_load1 H 1 rfl rfl Try.underlying3 rfl rfl (sgC_c rfl)) ?_
  refine a_one (i := 16) (by kernel_rfl) rfl ?_
  refine s_call0 H117 (wt0 rfl) (x_call' rfl rfl cl35) (fits_w m c.n c.pi c.la _) rfl rfl ?_
  intro wq118 H119
  refine a_k (H119.mask [false, false, true, true, false, false, false, false, false, false, false]) ?_
  refine a_one (i := 17) (by kernel_rfl) rfl ?_
  rcases Bool.eq_false_or_eq_true ((fitsS m c.n c.pi c.la)) with hb120 | hb120
  ·
   have hnd121 := need_bt (show ((fitsS m c.n c.pi c.la)) = true from hb120) 7 wq118
   refine s_call0 H119 (wt0 rfl) (x_call' rfl rfl cl31) (hnd121) rfl rfl ?_
   intro wq122 H123
   refine a_k (H123.mask [false, false, true, true, false, false, false, false, false, false, false]) ?_
   refine a_done (by kernel_rfl) ?_
   refine g_then ?_
   refine g_mid () ?_ ?_
   · exact ⟨rfl, rfl, rfl, rfl, trivial⟩
   · exact ⟨(by simp [hb120]), H123⟩
  ·
   have hnd124 := need_bf (show ((fitsS m c.n c.pi c.la)) = false from hb120) 7 wq118
   refine s_call (wt0 rfl) (x_call' rfl rfl cl31) (hnd124) ?_
   rintro _ wq125 ⟨rfl, H126⟩
   replace H126 : S wq125 [ddI gd sg o m, Ob g4 (.cells #[.int .i64 0] 28 (0, 0)), mgI g1 m, sgI sg c o A B a b, alI A a, waI A a, goI A a, alI B b, waI B b, goI B b, olS w sg c o A B a b] := H119.absorb (new := []) H126
   refine b_panic ?_
   refine pan_in ⟨rfl, rfl, rfl, rfl, rfl, trivial⟩ ?_
   refine g_then_panic ?_
   refine fin_dpanic ?_
   refine gl_step (by simp) cl30 (step1_p g4 7 (0) [] _ (H126.ob (k := 1) rfl)) ?_
   rintro _ _ wq127 ⟨⟨rfl, H128⟩, rfl⟩
   replace H128 : S wq127 [Ob g4 (.cells #[.int .i64 7] 28 (0, 0)), ddI gd sg o m, mgI g1 m, sgI sg c o A B a b, alI A a, waI A a, goI A a, alI B b, waI B b, goI B b, olS w sg c o A B a b] := H126.absorbK (new := [Ob g4 (.cells #[.int .i64 7] 28 (0, 0))]) [1] (by intro g hg; subst hg; exact ⟨1, rfl, _, rfl, rfl⟩) H128
   refine (?_ : GL _ _ _ _ _ _ FrameMode.returning _)
   refine gl_ret [.cell 6 28] [.int .i64 7] rfl ⟨⟨_, rfl, run_load1 Try.underlying28 rfl (H128.cell (k := 0) rfl rfl)⟩, trivial⟩ ?_
   have hE : stepE c a b m = 7 := by unfold stepE; rw [if_neg (by rw [h1]; simp), if_neg (by rw [h2]; simp), if_neg (by rw [h3]; simp), if_neg h4]; rw [if_pos (by simp [hb120])]
   have hz : ¬ stepE c a b m = 0 := by rw [hE]; decide
   have hO : stepO c a b m = a := by unfold stepO; rw [if_neg hz]
   have hP : stepP c a b m = b := by unfold stepP; rw [if_neg hz]
   exact ⟨A, B, by rw [hE]; rfl, by rw [hO, hP]; exact (H128.takes [3, 4, 5, 6, 7, 8, 9, 10] (by decide))⟩
 rintro _ wq129 ⟨h5, H130⟩
 refine g_weak [(5, .pointer (some ⟨g1, 0, none⟩)), (6, .pointer (some ⟨g4, 0, none⟩)), (7, .pointer (some ⟨gd, 0, none⟩)), (8, .bool ((quietB m.kind)))] ⟨rfl, rfl, rfl, rfl, trivial⟩ ?_
 refine g_seq ?_
 refine g_cut (ι := Ad × Ad) (fun (Aq, Bq) => [(6, .pointer (some ⟨g4, 0, none⟩)), (7, .pointer (some ⟨gd, 0, none⟩)), (8, .bool ((quietB m.kind)))]) (fun (Aq, Bq) wx => (ruleE c a b m = 0) ∧ S wx [sgI sg c o Aq Bq (ruleO c a m) (ruleP c b m), alI Aq (ruleO c a m), waI Aq (ruleO c a m), goI Aq (ruleO c a m), alI Bq (ruleP c b m), waI Bq (ruleP c b m), goI Bq (ruleP c b m), ddI gd sg o m, Ob g4 (.cells #[.int .i64 0] 28 (0, 0)), mgI g1 m, olS w sg c o A B a b]) ?_ ?_
 ·
  refine g_seq ?_
  refine g_any [(5, .pointer (some ⟨g1, 0, none⟩)), (6, .pointer (some ⟨g4, 0, none⟩)), (7, .pointer (some ⟨gd, 0, none⟩)), (8, .bool ((quietB m.kind)))] (fun wx => S wx [mgI g1 m]) [] (by kernel_rfl) H130 (fun wq131 H132 => ?_)
  have cm9 := H132.mask [false, false, true, false, false, false, false, false, false, false, false]
  refine w_t 1 rfl cm9 (fun _ _ => xf 0) ?_
  refine w_t 2 rfl cm9 (fun _ H => xl H 0) ?_
  refine a_one (i := 0) (by kernel_rfl) rfl ?_
  refine s_call0 H132 (wt0 rfl) (x_call' rfl rfl cl36) (rules_s _) rfl rfl ?_
  intro wq133 H134
  have cm10 := H134.mask [false, false, true, false, false, false, false, false, false, false, false]
  refine a_k cm10 ?_
  have hkb := validP_all (fitsS_valid h5).1
  refine w_t (v := (ruleV m.kind)) 3 rfl cm10 (fun _ _ => x_indexW m.kind.toNat rfl rfl rfl Try.underlying80 sz79 Try.underlying79 rfl ⟨by omega, by omega⟩ (rulesA_at ⟨by omega, by omega⟩)) ?_
  refine w_t 4 rfl cm10 (fun _ _ => xa) ?_
  refine a_done (by kernel_rfl) ?_
  refine g_then ?_
  refine w_s ?_
  refine w_m ?_
  refine w_b (v := .bool ((hasR m.kind))) (hb := (b_ruleN _)) ?_
  refine w_e ?_
  rcases Bool.eq_false_or_eq_true ((hasR m.kind)) with hb135 | hb135
  ·
   refine g_cond_t rfl hb135 ?_
   refine g_region ?_
   refine w_m ?_
   refine w_v (v := .agg #[.pointer (some ⟨sg, 0, none⟩), .int .i64 (m.kind), .int .i64 (m.i1), .int .i64 (m.i2), .int .i64 (m.i3), .int .i64 (m.i4), .int .i64 (m.i5), .string (m.root), .string (m.data), .pointer (some ⟨sg, offO o, none⟩), .pointer (some ⟨sg, offP o, none⟩)]) (x_loadA H134 0 rfl rfl Try.underlying75 rfl sz75 rfl rfl rfl) ?_
   obtain ⟨F, hF, cF, hC⟩ := ruleDo_o sg c o A B a b m hn hVa hVb hal hwa hwb h5 hb135 wq133 (H134.takes [3, 4, 5, 6, 7, 8, 9] (by decide))
   refine l_of (s_call (wt0 rfl) (x_call (first := #[]) (captured := #[]) rfl (congrArg some hF) rfl cF) hC ?_)
   rintro _ wq136 (⟨h6, Aq, Bq, rfl, H137⟩ | ⟨h6, rfl, H137⟩)
   ·
    replace H137 : S wq136 [sgI sg c o Aq Bq (ruleO c a m) (ruleP c b m), alI Aq (ruleO c a m), waI Aq (ruleO c a m), goI Aq (ruleO c a m), alI Bq (ruleP c b m), waI Bq (ruleP c b m), goI Bq (ruleP c b m), ddI gd sg o m, Ob g4 (.cells #[.int .i64 0] 28 (0, 0)), mgI g1 m, olS w sg c o A B a b] := by have h := H134.absorbI [3, 4, 5, 6, 7, 8, 9] H137; exact h
    refine b_ret rfl rfl ?_
    refine w_e ?_
    refine g_mid (Aq, Bq) ?_ ?_
    · exact ⟨rfl, rfl, rfl, trivial⟩
    · exact ⟨h6, (H137.takes [0, 1, 2, 3, 4, 5, 6, 7, 8, 9, 10] (by decide))⟩
   ·
    replace H137 : S wq136 [sgI sg c o A B a b, alI A a, waI A a, goI A a, alI B b, waI B b, goI B b, ddI gd sg o m, Ob g4 (.cells #[.int .i64 0] 28 (0, 0)), mgI g1 m, olS w sg c o A B a b] := by have h := H134.absorbI [3, 4, 5, 6, 7, 8, 9] H137; exact h
    refine b_panic ?_
    refine g_then_panic ?_
    refine fin_dpanic ?_
    refine gl_step (by simp) cl30 (step1_p g4 (ruleE c a b m) (0) [] _ (H137.ob (k := 8) rfl)) ?_
    rintro _ _ wq138 ⟨⟨rfl, H139⟩, rfl⟩
    replace H139 : S wq138 [Ob g4 (.cells #[.int .i64 ((ruleE c a b m))] 28 (0, 0)), sgI sg c o A B a b, alI A a, waI A a, goI A a, alI B b, waI B b, goI B b, ddI gd sg o m, mgI g1 m, olS w sg c o A B a b] := H137.absorbK (new := [Ob g4 (.cells #[.int .i64 ((ruleE c a b m))] 28 (0, 0))]) [8] (by intro g hg; subst hg; exact ⟨8, rfl, _, rfl, rfl⟩) H139
    refine (?_ : GL _ _ _ _ _ _ FrameMode.returning _)
    refine gl_ret [.cell 6 28] [.int .i64 ((ruleE c a b m))] rfl ⟨⟨_, rfl, run_load1 Try.underlying28 rfl (H139.cell (k := 0) rfl rfl)⟩, trivial⟩ ?_
    have hE : stepE c a b m = (ruleE c a b m) := by unfold stepE; rw [if_neg (by rw [h1]; simp), if_neg (by rw [h2]; simp), if_neg (by rw [h3]; simp), if_neg h4, if_neg (by rw [h5]; simp)]
    have hz : ¬ stepE c a b m = 0 := by rw [hE]; exact h6
    have hO : stepO c a b m = a := by unfold stepO; rw [if_neg hz]
    have hP : stepP c a b m = b := by unfold stepP; rw [if_neg hz]
    exact ⟨A, B, by rw [hE]; rfl, by rw [hO, hP]; exact (H139.takes [1, 2, 3, 4, 5, 6, 7, 10] (by decide))⟩
  ·
   refine g_cond_f rfl hb135 ?_
   refine g_skip ?_
   refine g_then ?_
   obtain ⟨n1, n2, n3⟩ := rule_no c a b hb135
   refine g_mid (A, B) ?_ ?_
   · exact ⟨rfl, rfl, rfl, trivial⟩
   · exact ⟨n1, (by rw [n2, n3]; exact (H134.takes [3, 4, 5, 6, 7, 8, 9, 0, 1, 2, 10] (by decide)))⟩
 rintro ⟨Aq, Bq⟩ wq140 ⟨h6, H141⟩
 refine g_weak [(6, .pointer (some ⟨g4, 0, none⟩)), (7, .pointer (some ⟨gd, 0, none⟩)), (8, .bool ((quietB m.kind)))] ⟨rfl, rfl, rfl, trivial⟩ ?_
 refine g_seq ?_
 refine g_any [(6, .pointer (some ⟨g4, 0, none⟩)), (7, .pointer (some ⟨gd, 0, none⟩)), (8, .bool ((quietB m.kind)))] (fun wx => S wx [sgI sg c o Aq Bq (ruleO c a m) (ruleP c b m), ddI gd sg o m]) [13] (by kernel_rfl) H141 (fun wq142 H143 => ?_)
 have cm11 := H143.mask [true, false, false, false, false, false, false, true, false, false, false]
 refine w_t 0 rfl cm11 (fun _ _ => xf 9) ?_
 refine w_t 1 rfl cm11 (fun _ H => xl H 1) ?_
 refine w_t 2 rfl cm11 (fun _ _ => xf 9) ?_
 refine w_t 3 rfl cm11 (fun _ H => xl H 1) ?_
 refine w_t 4 rfl cm11 (fun _ _ => xn) ?_
 refine w_t 5 rfl cm11 (fun _ _ => xf (offO o + 0)) ?_
 refine w_t 6 rfl cm11 (fun _ H => x_load1 H 0 rfl rfl Try.underlying4 rfl rfl (sgC_o rfl rfl rfl)) ?_
 refine w_t 7 rfl cm11 (fun _ _ => xm) ?_
 rcases Bool.eq_false_or_eq_true ((ruleO c a m).bg) with hb144 | hb144
 ·
  have cm12 := H143.mask [true, false, false, false, false, false, false, true, false, false, false]
  refine w_tn 8 rfl hb144 cm12 ?_
  refine w_tn 9 rfl hb144 cm12 ?_
  refine w_t (v := .bool true) 10 rfl cm12 (fun _ _ => x_pick_t rfl rfl hb144 rfl) ?_
  refine a_one (i := 11) (by kernel_rfl) rfl ?_
  refine s_val (v := .pointer (some ⟨sg, offO o, none⟩)) (wt0 rfl) rfl rfl (x_nilCheck rfl rfl) ?_
  refine a_k cm12 ?_
  refine a_one (i := 12) (by kernel_rfl) rfl ?_
  refine s_val (v := .pointer (some ⟨sg, offO o + 0, none⟩)) (wt0 rfl) rfl rfl (x_fieldAddr rfl rfl fo54_0 rfl) ?_
  refine a_k cm12 ?_
  refine a_one (i := 13) (by kernel_rfl) rfl ?_
  refine s_store1 H143 0 (wt0 rfl) rfl rfl rfl rfl rfl sz4 rfl rfl (sgC_ol rfl rfl (by decide)) ?_
  intro wq145 H146
  rw [sgC_so rfl rfl (by decide)] at H146
  replace H146 : S wq145 [Ob sg (.cells (sgC o c [.bool true, .bool (ruleO c a m).ck, .bool (ruleO c a m).wt, .string ((ruleO c a m).fd), .slice Aq.pa (ruleO c a m).al.length Aq.ca, .slice Aq.pw (ruleO c a m).wa.length Aq.cw, .map (some Aq.mg)] [.bool (ruleP c b m).bg, .bool (ruleP c b m).ck, .bool (ruleP c b m).wt, .string ((ruleP c b m).fd), .slice Bq.pa (ruleP c b m).al.length Bq.ca, .slice Bq.pw (ruleP c b m).wa.length Bq.cw, .map (some Bq.mg)]) 57 (0, 0)), alI Aq (ruleO c a m), waI Aq (ruleO c a m), goI Aq (ruleO c a m), alI Bq (ruleP c b m), waI Bq (ruleP c b m), goI Bq (ruleP c b m), ddI gd sg o m, Ob g4 (.cells #[.int .i64 0] 28 (0, 0)), mgI g1 m, olS w sg c o A B a b] := H146
  refine a_kt rfl ?_
  refine a_done (by kernel_rfl) ?_
  refine g_then ?_
  refine g_weak [(6, .pointer (some ⟨g4, 0, none⟩))] ⟨rfl, trivial⟩ ?_
  refine w_s ?_
  refine l_of (w_st #[.int .i64 0] H146 8 ?_)
  intro wq147 H148
  refine w_e ?_
  refine g_ret ?_
  refine fin_dret ?_
  refine gl_step (by simp) cl30 (step1_n g4 _) ?_
  rintro _ _ wq149 ⟨⟨rfl, H150⟩, rfl⟩
  replace H150 : S wq149 [Ob sg (.cells (sgC o c [.bool true, .bool (ruleO c a m).ck, .bool (ruleO c a m).wt, .string ((ruleO c a m).fd), .slice Aq.pa (ruleO c a m).al.length Aq.ca, .slice Aq.pw (ruleO c a m).wa.length Aq.cw, .map (some Aq.mg)] [.bool (ruleP c b m).bg, .bool (ruleP c b m).ck, .bool (ruleP c b m).wt, .string ((ruleP c b m).fd), .slice Bq.pa (ruleP c b m).al.length Bq.ca, .slice Bq.pw (ruleP c b m).wa.length Bq.cw, .map (some Bq.mg)]) 57 (0, 0)), alI Aq (ruleO c a m), waI Aq (ruleO c a m), goI Aq (ruleO c a m), alI Bq (ruleP c b m), waI Bq (ruleP c b m), goI Bq (ruleP c b m), ddI gd sg o m, Ob g4 (.cells #[.int .i64 0] 28 (0, 0)), mgI g1 m, olS w sg c o A B a b] := H148.absorb (new := []) H150
  refine (?_ : GL _ _ _ _ _ _ FrameMode.returning _)
  refine gl_ret [.cell 6 28] [.int .i64 0] rfl ⟨⟨_, rfl, run_load1 Try.underlying28 rfl (H150.cell (k := 8) rfl rfl)⟩, trivial⟩ ?_
  have hE : stepE c a b m = 0 := by unfold stepE; rw [h1, h2, h3, h5]; simp [h4, h6]
  have hbg : ((ruleO c a m).bg || !quietB m.kind) = (true) := by simp [hb144]
  have hO : stepO c a b m = { (ruleO c a m) with bg := true } := by unfold stepO; rw [if_pos hE, hbg]
  have hP : stepP c a b m = (ruleP c b m) := by unfold stepP; rw [if_pos hE]
  exact ⟨Aq, Bq, by rw [hE]; rfl, by rw [hO, hP]; exact (H150.takes [0, 1, 2, 3, 4, 5, 6, 10] (by decide))⟩
 ·
  have cm13 := H143.mask [true, false, false, false, false, false, false, true, false, false, false]
  refine w_tg 8 rfl hb144 cm13 (fun _ _ => xm) ?_
  refine w_tg (v := .bool (!((quietB m.kind)))) 9 rfl hb144 cm13 (fun _ _ => x_not (b := (quietB m.kind)) rfl rfl) ?_
  refine w_t (v := .bool (!((quietB m.kind)))) 10 rfl cm13 (fun _ _ => x_pick_f rfl rfl hb144 rfl) ?_
  refine a_one (i := 11) (by kernel_rfl) rfl ?_
  refine s_val (v := .pointer (some ⟨sg, offO o, none⟩)) (wt0 rfl) rfl rfl (x_nilCheck rfl rfl) ?_
  refine a_k cm13 ?_
  refine a_one (i := 12) (by kernel_rfl) rfl ?_
  refine s_val (v := .pointer (some ⟨sg, offO o + 0, none⟩)) (wt0 rfl) rfl rfl (x_fieldAddr rfl rfl fo54_0 rfl) ?_
  refine a_k cm13 ?_
  refine a_one (i := 13) (by kernel_rfl) rfl ?_
  refine s_store1 H143 0 (wt0 rfl) rfl rfl rfl rfl rfl sz4 rfl rfl (sgC_ol rfl rfl (by decide)) ?_
  intro wq151 H152
  rw [sgC_so rfl rfl (by decide)] at H152
  replace H152 : S wq151 [Ob sg (.cells (sgC o c [.bool (!((quietB m.kind))), .bool (ruleO c a m).ck, .bool (ruleO c a m).wt, .string ((ruleO c a m).fd), .slice Aq.pa (ruleO c a m).al.length Aq.ca, .slice Aq.pw (ruleO c a m).wa.length Aq.cw, .map (some Aq.mg)] [.bool (ruleP c b m).bg, .bool (ruleP c b m).ck, .bool (ruleP c b m).wt, .string ((ruleP c b m).fd), .slice Bq.pa (ruleP c b m).al.length Bq.ca, .slice Bq.pw (ruleP c b m).wa.length Bq.cw, .map (some Bq.mg)]) 57 (0, 0)), alI Aq (ruleO c a m), waI Aq (ruleO c a m), goI Aq (ruleO c a m), alI Bq (ruleP c b m), waI Bq (ruleP c b m), goI Bq (ruleP c b m), ddI gd sg o m, Ob g4 (.cells #[.int .i64 0] 28 (0, 0)), mgI g1 m, olS w sg c o A B a b] := H152
  refine a_kt rfl ?_
  refine a_done (by kernel_rfl) ?_
  refine g_then ?_
  refine g_weak [(6, .pointer (some ⟨g4, 0, none⟩))] ⟨rfl, trivial⟩ ?_
  refine w_s ?_
  refine l_of (w_st #[.int .i64 0] H152 8 ?_)
  intro wq153 H154
  refine w_e ?_
  refine g_ret ?_
  refine fin_dret ?_
  refine gl_step (by simp) cl30 (step1_n g4 _) ?_
  rintro _ _ wq155 ⟨⟨rfl, H156⟩, rfl⟩
  replace H156 : S wq155 [Ob sg (.cells (sgC o c [.bool (!((quietB m.kind))), .bool (ruleO c a m).ck, .bool (ruleO c a m).wt, .string ((ruleO c a m).fd), .slice Aq.pa (ruleO c a m).al.length Aq.ca, .slice Aq.pw (ruleO c a m).wa.length Aq.cw, .map (some Aq.mg)] [.bool (ruleP c b m).bg, .bool (ruleP c b m).ck, .bool (ruleP c b m).wt, .string ((ruleP c b m).fd), .slice Bq.pa (ruleP c b m).al.length Bq.ca, .slice Bq.pw (ruleP c b m).wa.length Bq.cw, .map (some Bq.mg)]) 57 (0, 0)), alI Aq (ruleO c a m), waI Aq (ruleO c a m), goI Aq (ruleO c a m), alI Bq (ruleP c b m), waI Bq (ruleP c b m), goI Bq (ruleP c b m), ddI gd sg o m, Ob g4 (.cells #[.int .i64 0] 28 (0, 0)), mgI g1 m, olS w sg c o A B a b] := H154.absorb (new := []) H156
  refine (?_ : GL _ _ _ _ _ _ FrameMode.returning _)
  refine gl_ret [.cell 6 28] [.int .i64 0] rfl ⟨⟨_, rfl, run_load1 Try.underlying28 rfl (H156.cell (k := 8) rfl rfl)⟩, trivial⟩ ?_
  have hE : stepE c a b m = 0 := by unfold stepE; rw [h1, h2, h3, h5]; simp [h4, h6]
  have hbg : ((ruleO c a m).bg || !quietB m.kind) = (!((quietB m.kind))) := by simp [hb144]
  have hO : stepO c a b m = { (ruleO c a m) with bg := !((quietB m.kind)) } := by unfold stepO; rw [if_pos hE, hbg]
  have hP : stepP c a b m = (ruleP c b m) := by unfold stepP; rw [if_pos hE]
  exact ⟨Aq, Bq, by rw [hE]; rfl, by rw [hO, hP]; exact (H156.takes [0, 1, 2, 3, 4, 5, 6, 10] (by decide))⟩
end Go.Proofs.Ytdkfkdekiljcoaa
