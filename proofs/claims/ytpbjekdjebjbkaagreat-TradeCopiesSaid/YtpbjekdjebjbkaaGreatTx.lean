import Derived.Test.YtpbjekdjebjbkaaGreatFk
import Derived.Test.YtpbjekdjebjbkaaGreatTt
set_option linter.unusedSimpArgs false
set_option linter.unusedVariables false
namespace Go.Proofs.YtpbjekdjebjbkaaGreat
open Go.RowKit

theorem cl25 : callable Tryz.prog 25 = true := by kernel_rfl
/-- The error of players' numbers. -/
def askN (n : Nat) (l : List Int) : Int := if ∀ x ∈ l, 0 ≤ x ∧ x < (n : Int) then 0 else 7
theorem askN_0 {n : Nat} {l : List Int} : askN n l = 0 ↔ ∀ x ∈ l, 0 ≤ x ∧ x < (n : Int) := by
  unfold askN
  split
  · exact ⟨fun _ => by assumption, fun _ => rfl⟩
  · exact ⟨fun h => absurd h (by decide), fun h => absurd h (by assumption)⟩
theorem askN_7 {n : Nat} {l : List Int} {x : Int} (hx : x ∈ l) (h : ¬ (0 ≤ x ∧ x < (n : Int))) : askN n l = 7 := if_neg fun h9 => h (h9 x hx)
set_option maxRecDepth 20000 in
set_option maxHeartbeats 4000000 in
theorem asked_s (g : Nat) (gp : Option Addr) (gc gn : Nat) (seed : ByteArray) (pp : Option Addr) (pc : Nat) (ps : List Pl) (sp : Option Addr) (sc sn : Nat) (tp : Option Addr) (tc tn : Nat) (vp : Option Addr) (vc vn : Nat) (bp : Option Addr) (bc bn : Nat) (l : List Int) (q : Option Addr) (d : Nat) (hl : l.length ≤ 100) (hnp : ps.length ≤ 40)  (w : World) (HS : S w [Rw 3 1 q l.length d (fl intL l), Ob g (.cells #[.slice gp gn gc, .string seed, .slice pp ps.length pc, .slice sp sn sc, .slice tp tn tc, .slice vp vn vc, .slice bp bn bc] 52 (0, 0))]) : Calls Tryz.prog 25 #[.pointer (some ⟨g, 0, none⟩), .slice q l.length d] w fun e w' => e = .returned (.int .i64 (askN ps.length l)) ∧ S w' ([Rw 3 1 q l.length d (fl intL l), Ob g (.cells #[.slice gp gn gc, .string seed, .slice pp ps.length pc, .slice sp sn sc, .slice tp tn tc, .slice vp vn vc, .slice bp bn bc] 52 (0, 0))] ++ [Old w (fps [Rw 3 1 q l.length d (fl intL l), Ob g (.cells #[.slice gp gn gc, .string seed, .slice pp ps.length pc, .slice sp sn sc, .slice tp tn tc, .slice vp vn vc, .slice bp bn bc] 52 (0, 0))])]) := by
 have H0 := HS.beginI
 refine enter 27 Tryz.func25 rfl rfl rfl ?_
 refine g_weak [(0, .pointer (some ⟨g, 0, none⟩)), (1, .slice q l.length d)] ⟨rfl, rfl, trivial⟩ ?_
 refine w_s ?_
 refine w_a ?_
 refine w_e ?_
 refine g_seq ?_
 refine w_s ?_
 refine w_m ?_
 refine w_b (v := .bool false) (hb := (b_eqN (r := false) Tryz.underlying25 rfl)) ?_
 refine w_e ?_
 refine g_cond_f rfl rfl ?_
 refine g_skip ?_
 refine g_then ?_
 refine g_seq ?_
 refine w_s ?_
 refine w_m ?_
 refine w_v (v := .int .i64 ((l.length : Int))) (x_lenl rfl rfl Tryz.underlying34) ?_
 refine w_m ?_
 refine w_e ?_
 refine g_block ?_
 refine g_loop (ι := Nat) (fun i => [(0, .pointer (some ⟨g, 0, none⟩)), (9, .slice q l.length d), (10, .int .i64 ((l.length : Int))), (11, .int .i64 ((i : Int)))]) (fun i wx => (i ≤ l.length) ∧ (∀ x ∈ l.take i, 0 ≤ x ∧ x < (ps.length : Int)) ∧ S wx [Rw 3 1 q l.length d (fl intL l), Ob g (.cells #[.slice gp gn gc, .string seed, .slice pp ps.length pc, .slice sp sn sc, .slice tp tn tc, .slice vp vn vc, .slice bp bn bc] 52 (0, 0)), Old w (fps [Rw 3 1 q l.length d (fl intL l), Ob g (.cells #[.slice gp gn gc, .string seed, .slice pp ps.length pc, .slice sp sn sc, .slice tp tn tc, .slice vp vn vc, .slice bp bn bc] 52 (0, 0))])]) (fun i => l.length - i) (0) ⟨rfl, rfl, rfl, rfl, trivial⟩ ⟨Nat.zero_le _, (fun x hx => by simp at hx), (H0.takes [0, 1, 2] (by decide))⟩ ?_
 rintro i wq1 ⟨hi, hall, H2⟩
 refine g_weak [(0, .pointer (some ⟨g, 0, none⟩)), (9, .slice q l.length d), (10, .int .i64 ((l.length : Int))), (11, .int .i64 ((i : Int)))] ⟨rfl, rfl, rfl, rfl, trivial⟩ ?_
 refine w_s ?_
 refine w_b ?_
 refine w_e ?_
 refine g_seq ?_
 by_cases hb3 : ((i : Int) : Int) < (l.length : Int)
 ·
  refine g_cond_t rfl (decide_eq_true hb3) ?_
  refine g_skip ?_
  refine g_then ?_
  refine g_seq ?_
  refine g_block ?_
  refine w_s ?_
  refine w_v (v := .pointer ((q).map fun q => q.add (i * 1))) (x_idxR i (H2.rwReads (k := 0) rfl) rfl rfl rfl Tryz.underlying34 sz3 (by omega)) ?_
  have hlq := (H2.rwReads (k := 0) rfl).lenL intE
  obtain ⟨x4, hx4⟩ := ex_at (l := l) (j := i) (by omega)
  clear hlq
  refine w_v (v := .int .i64 x4) (x_loadR1 i (H2.rwReads (k := 0) rfl) (by omega) rfl rfl Tryz.underlying3 rfl (intE.flAt1 hx4 rfl)) ?_
  refine w_a ?_
  refine w_e ?_
  refine w_s ?_
  refine w_m ?_
  refine w_b ?_
  refine w_m ?_
  by_cases hb5 : (x4 : Int) < 0
  ·
   refine w_n (decide_eq_true hb5) ?_
   refine w_n (decide_eq_true hb5) ?_
   refine w_n (decide_eq_true hb5) ?_
   refine w_n (decide_eq_true hb5) ?_
   refine w_n (decide_eq_true hb5) ?_
   refine w_n (decide_eq_true hb5) ?_
   refine w_n (decide_eq_true hb5) ?_
   refine w_v (v := .bool true) (x_pick_t rfl rfl (decide_eq_true hb5) rfl) ?_
   refine w_e ?_
   refine g_weak [(0, .pointer (some ⟨g, 0, none⟩)), (9, .slice q l.length d), (10, .int .i64 ((l.length : Int))), (11, .int .i64 ((i : Int))), (25, .bool true)] ⟨rfl, rfl, rfl, rfl, rfl, trivial⟩ ?_
   refine g_cond_t rfl rfl ?_
   refine w_s ?_
   refine w_a ?_
   refine w_e ?_
   refine g_ret ?_
   refine g_in_ret ?_
   refine g_then_ret ?_
   refine g_then_ret ?_
   refine g_in_ret ?_
   refine g_then_ret ?_
   refine fin_ret [.tmp 4] [.int .i64 7] rfl ⟨rfl, trivial⟩ ?_
   rw [askN_7 (n := ps.length) (List.mem_of_getElem? hx4) (by omega)]
   exact ⟨rfl, (H2.takes [0, 1, 2] (by decide))⟩
  ·
   refine w_g (decide_eq_false hb5) xm ?_
   refine w_g (decide_eq_false hb5) xm ?_
   refine w_g (decide_eq_false hb5) xn ?_
   refine w_g (decide_eq_false hb5) (xf 2) ?_
   refine w_g (decide_eq_false hb5) (xl H2 1) ?_
   refine w_g (v := .int .i64 ((ps.length : Int))) (decide_eq_false hb5) (x_lenl rfl rfl Tryz.underlying22) ?_
   refine w_g (decide_eq_false hb5) (x_bin rfl rfl rfl b_geq) ?_
   refine w_v (v := .bool (decide (((ps.length : Int) : Int) ≤ x4))) (x_pick_f rfl rfl (decide_eq_false hb5) rfl) ?_
   refine w_e ?_
   refine g_weak [(0, .pointer (some ⟨g, 0, none⟩)), (9, .slice q l.length d), (10, .int .i64 ((l.length : Int))), (11, .int .i64 ((i : Int))), (25, .bool (decide (((ps.length : Int) : Int) ≤ x4)))] ⟨rfl, rfl, rfl, rfl, rfl, trivial⟩ ?_
   by_cases hb6 : ((ps.length : Int) : Int) ≤ x4
   ·
    refine g_cond_t rfl (decide_eq_true hb6) ?_
    refine w_s ?_
    refine w_a ?_
    refine w_e ?_
    refine g_ret ?_
    refine g_in_ret ?_
    refine g_then_ret ?_
    refine g_then_ret ?_
    refine g_in_ret ?_
    refine g_then_ret ?_
    refine fin_ret [.tmp 4] [.int .i64 7] rfl ⟨rfl, trivial⟩ ?_
    rw [askN_7 (n := ps.length) (List.mem_of_getElem? hx4) (by omega)]
    exact ⟨rfl, (H2.takes [0, 1, 2] (by decide))⟩
   ·
    refine g_cond_f rfl (decide_eq_false hb6) ?_
    refine g_skip ?_
    refine g_in ?_
    refine g_then ?_
    refine g_region ?_
    refine w_b (v := .int .i64 (((i + 1 : Nat) : Int))) (hb := (b_add (by rw [w64 (by omega)]; omega))) ?_
    refine w_m ?_
    refine w_e ?_
    refine g_round (i := (i)) ((i + 1)) ?_ ?_ ?_
    · exact ⟨rfl, rfl, rfl, rfl, trivial⟩
    · exact ⟨by omega, (no_takeP hall hx4 (by omega)), (H2.takes [0, 1, 2] (by decide))⟩
    · (try dsimp only); omega
 ·
  refine g_cond_f rfl (decide_eq_false hb3) ?_
  refine g_exit ?_
  refine g_then_exit ?_
  refine g_then_exit ?_
  refine g_in_hit ?_
  refine g_then ?_
  refine w_s ?_
  refine w_a ?_
  refine w_e ?_
  refine g_ret ?_
  refine fin_ret [.tmp 4] [.int .i64 0] rfl ⟨rfl, trivial⟩ ?_
  rw [List.take_of_length_le (by omega)] at hall
  rw [askN_0.2 hall]
  exact ⟨rfl, (H2.takes [0, 1, 2] (by decide))⟩
set_option maxRecDepth 20000 in
set_option maxHeartbeats 4000000 in
theorem got_s (g : Nat) (gp : Option Addr) (gc gn : Nat) (seed : ByteArray) (pp : Option Addr) (pc : Nat) (ps : List Pl) (sp : Option Addr) (sc sn : Nat) (tp : Option Addr) (tc tn : Nat) (vp : Option Addr) (vc vn : Nat) (bp : Option Addr) (bc bn : Nat) (got : List Int) (hgt : got.length = ps.length) (i : Int) (hnp : ps.length ≤ 40)  (w : World) (HS : S w [Ob g (.cells #[.slice gp gn gc, .string seed, .slice pp ps.length pc, .slice sp sn sc, .slice tp got.length tc, .slice vp vn vc, .slice bp bn bc] 52 (0, 0)), Rw 3 1 tp got.length tc (fl intL got)]) : Calls Tryz.prog 10 #[.pointer (some ⟨g, 0, none⟩), .int .i64 i] w fun e w' => e = .returned (.tuple #[.int .i64 (if askN ps.length [i] = 0 then got.getD i.toNat 0 else 0), .int .i64 (askN ps.length [i])]) ∧ S w' ([Ob g (.cells #[.slice gp gn gc, .string seed, .slice pp ps.length pc, .slice sp sn sc, .slice tp got.length tc, .slice vp vn vc, .slice bp bn bc] 52 (0, 0)), Rw 3 1 tp got.length tc (fl intL got)] ++ [Old w (fps [Ob g (.cells #[.slice gp gn gc, .string seed, .slice pp ps.length pc, .slice sp sn sc, .slice tp got.length tc, .slice vp vn vc, .slice bp bn bc] 52 (0, 0)), Rw 3 1 tp got.length tc (fl intL got)])]) := by
 have H0 := HS.beginI
 refine enter 21 Tryz.func10 rfl rfl rfl ?_
 refine g_weak [(0, .pointer (some ⟨g, 0, none⟩)), (1, .int .i64 i)] ⟨rfl, rfl, trivial⟩ ?_
 refine w_s ?_
 refine w_r2 ?_
 refine w_e ?_
 refine g_seq ?_
 refine w_s ?_
 refine w_r2 ?_
 refine l_of (s_buildSlice H0 (wt0 rfl) rfl rfl rfl (vs := [.int .i64 i]) rfl Tryz.underlying34 sz3 ze3 rfl rfl (cells := #[.int .i64 i]) (by kernel_rfl) ?_)
 intro g1 wq2 H3
 have H4 : S wq2 [Rw 3 1 (some ⟨g1, 0, none⟩) 1 1 (fl intL ([i])), Ob g (.cells #[.slice gp gn gc, .string seed, .slice pp ps.length pc, .slice sp sn sc, .slice tp got.length tc, .slice vp vn vc, .slice bp bn bc] 52 (0, 0)), Rw 3 1 tp got.length tc (fl intL got), Old w (fps [Ob g (.cells #[.slice gp gn gc, .string seed, .slice pp ps.length pc, .slice sp sn sc, .slice tp got.length tc, .slice vp vn vc, .slice bp bn bc] 52 (0, 0)), Rw 3 1 tp got.length tc (fl intL got)])] := S.obFl intE H3 (k := 0) rfl rfl (by decide) rfl
 refine l_of (s_call (wt0 rfl) (x_call' rfl rfl cl25) (asked_s g gp gc gn seed pp pc ps sp sc sn tp tc got.length vp vc vn bp bc bn [i] (some ⟨g1, 0, none⟩) 1 (by simp) hnp _ (H4.takes [0, 1] (by decide))) ?_)
 rintro _ wq5 ⟨rfl, H6⟩
 replace H6 : S wq5 [Rw 3 1 (some ⟨g1, 0, none⟩) 1 1 (fl intL ([i])), Ob g (.cells #[.slice gp gn gc, .string seed, .slice pp ps.length pc, .slice sp sn sc, .slice tp got.length tc, .slice vp vn vc, .slice bp bn bc] 52 (0, 0)), Rw 3 1 tp got.length tc (fl intL got), Old w (fps [Ob g (.cells #[.slice gp gn gc, .string seed, .slice pp ps.length pc, .slice sp sn sc, .slice tp got.length tc, .slice vp vn vc, .slice bp bn bc] 52 (0, 0)), Rw 3 1 tp got.length tc (fl intL got)])] := by have h := H4.absorbI [0, 1] H6; exact h
 refine b_ret rfl rfl ?_
 refine w_a ?_
 refine w_e ?_
 refine w_s ?_
 refine w_m ?_
 refine w_b (v := .bool (!decide (((askN ps.length [i]) : Int) = 0))) (hb := b_neq) ?_
 refine w_e ?_
 by_cases hb7 : ((askN ps.length [i]) : Int) = 0
 ·
  have hq0 : askN ps.length [i] = 0 := by omega
  have hqa := askN_0.1 hq0
  have hii := hqa i (by simp)
  refine g_cond_f rfl (nf hb7) ?_
  refine g_skip ?_
  refine g_then ?_
  refine w_s ?_
  refine w_r3 ?_
  refine w_1 H6 1 ?_
  refine w_m ?_
  refine w_v (v := .pointer ((tp).map fun q => q.add (((i).toNat) * 1))) (x_idxR ((i).toNat) (H6.rwReads (k := 2) rfl) rfl rfl rfl Tryz.underlying34 sz3 (by omega)) ?_
  have hlq := (H6.rwReads (k := 2) rfl).lenL intE
  obtain ⟨x8, hx8⟩ := ex_at (l := got) (j := ((i).toNat)) (by omega)
  clear hlq
  refine w_v (v := .int .i64 x8) (x_loadR1 ((i).toNat) (H6.rwReads (k := 2) rfl) (by omega) rfl rfl Tryz.underlying3 rfl (intE.flAt1 hx8 rfl)) ?_
  refine w_r2 ?_
  refine w_e ?_
  refine g_weak [(4, .int .i64 x8), (5, .int .i64 0)] ⟨rfl, rfl, trivial⟩ ?_
  refine g_ret ?_
  refine fin_ret [.tmp 4, .tmp 5] [.int .i64 x8, .int .i64 0] rfl ⟨rfl, rfl, trivial⟩ ?_
  rw [if_pos hq0, hq0]
  rw [getD_atT hx8]
  exact ⟨rfl, H6.takes [1, 2, 3] (by decide)⟩
 ·
  refine g_cond_t rfl (nt hb7) ?_
  refine w_s ?_
  refine w_r3 ?_
  refine w_e ?_
  refine g_ret ?_
  refine g_then_ret ?_
  refine fin_ret [.tmp 4, .tmp 5] [.int .i64 0, .int .i64 ((askN ps.length [i]))] rfl ⟨rfl, rfl, trivial⟩ ?_
  rw [if_neg (show ¬ askN ps.length [i] = 0 by omega)]
  exact ⟨rfl, H6.takes [1, 2, 3] (by decide)⟩
set_option maxRecDepth 20000 in
set_option maxHeartbeats 4000000 in
theorem between_s (g : Nat) (gp : Option Addr) (gc gn : Nat) (seed : ByteArray) (pp : Option Addr) (pc : Nat) (ps : List Pl) (sp : Option Addr) (sc sn : Nat) (tp : Option Addr) (tc tn : Nat) (vp : Option Addr) (vc vn : Nat) (bp : Option Addr) (bc bn : Nat) (bs : List (Ro Int)) (hbl : bs.length = ps.length) (hbw : ∀ x ∈ bs, x.l.length = ps.length) (a b : Int) (hnp : ps.length ≤ 40)  (w : World) (HS : S w [Ob g (.cells #[.slice gp gn gc, .string seed, .slice pp ps.length pc, .slice sp sn sc, .slice tp tn tc, .slice vp vn vc, .slice bp bs.length bc] 52 (0, 0)), Rw 34 1 bp bs.length bc (fl rowL bs), (Lst BwI bs)]) : Calls Tryz.prog 16 #[.pointer (some ⟨g, 0, none⟩), .int .i64 a, .int .i64 b] w fun e w' => e = .returned (.tuple #[.int .i64 (if askN ps.length [a, b] = 0 then at2 (bs.map Ro.l) a b else 0), .int .i64 (askN ps.length [a, b])]) ∧ S w' ([Ob g (.cells #[.slice gp gn gc, .string seed, .slice pp ps.length pc, .slice sp sn sc, .slice tp tn tc, .slice vp vn vc, .slice bp bs.length bc] 52 (0, 0)), Rw 34 1 bp bs.length bc (fl rowL bs), (Lst BwI bs)] ++ [Old w (fps [Ob g (.cells #[.slice gp gn gc, .string seed, .slice pp ps.length pc, .slice sp sn sc, .slice tp tn tc, .slice vp vn vc, .slice bp bs.length bc] 52 (0, 0)), Rw 34 1 bp bs.length bc (fl rowL bs), (Lst BwI bs)])]) := by
 have H0 := HS.beginI
 refine enter 27 Tryz.func16 rfl rfl rfl ?_
 refine g_weak [(0, .pointer (some ⟨g, 0, none⟩)), (1, .int .i64 a), (2, .int .i64 b)] ⟨rfl, rfl, rfl, trivial⟩ ?_
 refine w_s ?_
 refine w_r2 ?_
 refine w_e ?_
 refine g_seq ?_
 refine w_s ?_
 refine w_r3 ?_
 refine l_of (s_buildSlice H0 (wt0 rfl) rfl rfl rfl (vs := [.int .i64 a, .int .i64 b]) rfl Tryz.underlying34 sz3 ze3 rfl rfl (cells := #[.int .i64 a, .int .i64 b]) (by kernel_rfl) ?_)
 intro g1 wq2 H3
 have H4 : S wq2 [Rw 3 1 (some ⟨g1, 0, none⟩) 2 2 (fl intL ([a, b])), Ob g (.cells #[.slice gp gn gc, .string seed, .slice pp ps.length pc, .slice sp sn sc, .slice tp tn tc, .slice vp vn vc, .slice bp bs.length bc] 52 (0, 0)), Rw 34 1 bp bs.length bc (fl rowL bs), (Lst BwI bs), Old w (fps [Ob g (.cells #[.slice gp gn gc, .string seed, .slice pp ps.length pc, .slice sp sn sc, .slice tp tn tc, .slice vp vn vc, .slice bp bs.length bc] 52 (0, 0)), Rw 34 1 bp bs.length bc (fl rowL bs), (Lst BwI bs)])] := S.obFl intE H3 (k := 0) rfl rfl (by decide) rfl
 refine l_of (s_call (wt0 rfl) (x_call' rfl rfl cl25) (asked_s g gp gc gn seed pp pc ps sp sc sn tp tc tn vp vc vn bp bc bs.length [a, b] (some ⟨g1, 0, none⟩) 2 (by simp) hnp _ (H4.takes [0, 1] (by decide))) ?_)
 rintro _ wq5 ⟨rfl, H6⟩
 replace H6 : S wq5 [Rw 3 1 (some ⟨g1, 0, none⟩) 2 2 (fl intL ([a, b])), Ob g (.cells #[.slice gp gn gc, .string seed, .slice pp ps.length pc, .slice sp sn sc, .slice tp tn tc, .slice vp vn vc, .slice bp bs.length bc] 52 (0, 0)), Rw 34 1 bp bs.length bc (fl rowL bs), (Lst BwI bs), Old w (fps [Ob g (.cells #[.slice gp gn gc, .string seed, .slice pp ps.length pc, .slice sp sn sc, .slice tp tn tc, .slice vp vn vc, .slice bp bs.length bc] 52 (0, 0)), Rw 34 1 bp bs.length bc (fl rowL bs), (Lst BwI bs)])] := by have h := H4.absorbI [0, 1] H6; exact h
 refine b_ret rfl rfl ?_
 refine w_a ?_
 refine w_e ?_
 refine w_s ?_
 refine w_m ?_
 refine w_b (v := .bool (!decide (((askN ps.length [a, b]) : Int) = 0))) (hb := b_neq) ?_
 refine w_e ?_
 by_cases hb7 : ((askN ps.length [a, b]) : Int) = 0
 ·
  have hq0 : askN ps.length [a, b] = 0 := by omega
  have hqa := askN_0.1 hq0
  have hia := hqa a (by simp)
  have hib := hqa b (by simp)
  refine g_cond_f rfl (nf hb7) ?_
  refine g_skip ?_
  refine g_then ?_
  refine w_s ?_
  refine w_r3 ?_
  refine w_1 H6 1 ?_
  refine w_m ?_
  refine w_v (v := .pointer ((bp).map fun q => q.add (((a).toNat) * 1))) (x_idxR ((a).toNat) (H6.rwReads (k := 2) rfl) rfl rfl rfl Tryz.underlying29 sz34 (by omega)) ?_
  have hlq := (H6.rwReads (k := 2) rfl).lenL rowE
  obtain ⟨x8, hx8⟩ := ex_at (l := bs) (j := ((a).toNat)) (by omega)
  clear hlq
  have hblx8 := hbw x8 (List.mem_of_getElem? hx8)
  refine w_v (v := .slice x8.p x8.l.length x8.c) (x_loadR1 ((a).toNat) (H6.rwReads (k := 2) rfl) (by omega) rfl rfl Tryz.underlying34 rfl (rowE.flAt1 hx8 rfl)) ?_
  refine w_m ?_
  refine w_v (v := .pointer ((x8.p).map fun q => q.add (((b).toNat) * 1))) (x_idxR ((b).toNat) (H6.bwRd (k := 3) rfl hx8) rfl rfl rfl Tryz.underlying34 sz3 (by omega)) ?_
  have hlq := (H6.bwRd (k := 3) rfl hx8).lenL intE
  obtain ⟨x9, hx9⟩ := ex_at (l := x8.l) (j := ((b).toNat)) (by omega)
  clear hlq
  refine w_v (v := .int .i64 x9) (x_loadR1 ((b).toNat) (H6.bwRd (k := 3) rfl hx8) (by omega) rfl rfl Tryz.underlying3 rfl (intE.flAt1 hx9 rfl)) ?_
  refine w_r2 ?_
  refine w_e ?_
  refine g_weak [(6, .int .i64 x9), (7, .int .i64 0)] ⟨rfl, rfl, trivial⟩ ?_
  refine g_ret ?_
  refine fin_ret [.tmp 6, .tmp 7] [.int .i64 x9, .int .i64 0] rfl ⟨rfl, rfl, trivial⟩ ?_
  rw [if_pos hq0, hq0]
  rw [at2_bw hx8 hx9]
  exact ⟨rfl, H6.takes [1, 2, 3, 4] (by decide)⟩
 ·
  refine g_cond_t rfl (nt hb7) ?_
  refine w_s ?_
  refine w_r3 ?_
  refine w_e ?_
  refine g_weak [(6, .int .i64 0), (7, .int .i64 ((askN ps.length [a, b])))] ⟨rfl, rfl, trivial⟩ ?_
  refine g_ret ?_
  refine g_then_ret ?_
  refine fin_ret [.tmp 6, .tmp 7] [.int .i64 0, .int .i64 ((askN ps.length [a, b]))] rfl ⟨rfl, rfl, trivial⟩ ?_
  rw [if_neg (show ¬ askN ps.length [a, b] = 0 by omega)]
  exact ⟨rfl, H6.takes [1, 2, 3, 4] (by decide)⟩
set_option maxRecDepth 20000 in
set_option maxHeartbeats 4000000 in
theorem rounds_n (g : Nat) (gp : Option Addr) (gc gn : Nat) (seed : ByteArray) (pp : Option Addr) (pc : Nat) (ps : List Pl) (sp : Option Addr) (sc sn : Nat) (tp : Option Addr) (tc tn : Nat) (vp : Option Addr) (vc vn : Nat) (bp : Option Addr) (bc bn : Nat)  (w : World) (HS : S w [Ob g (.cells #[.slice gp gn gc, .string seed, .slice pp ps.length pc, .slice sp sn sc, .slice tp tn tc, .slice vp vn vc, .slice bp bn bc] 52 (0, 0))]) : Calls Tryz.prog 13 #[.pointer (some ⟨g, 0, none⟩)] w fun e w' => e = .returned (.int .i64 (gn : Int)) ∧ S w' ([Ob g (.cells #[.slice gp gn gc, .string seed, .slice pp ps.length pc, .slice sp sn sc, .slice tp tn tc, .slice vp vn vc, .slice bp bn bc] 52 (0, 0))] ++ [Old w (fps [Ob g (.cells #[.slice gp gn gc, .string seed, .slice pp ps.length pc, .slice sp sn sc, .slice tp tn tc, .slice vp vn vc, .slice bp bn bc] 52 (0, 0))])]) := by
 have H0 := HS.beginI
 refine enter 11 Tryz.func13 rfl rfl rfl ?_
 refine g_weak [(0, .pointer (some ⟨g, 0, none⟩))] ⟨rfl, trivial⟩ ?_
 refine w_s ?_
 refine w_a ?_
 refine w_e ?_
 refine g_seq ?_
 refine w_s ?_
 refine w_m ?_
 refine w_b (v := .bool false) (hb := (b_eqN (r := false) Tryz.underlying25 rfl)) ?_
 refine w_e ?_
 refine g_cond_f rfl rfl ?_
 refine g_skip ?_
 refine g_then ?_
 refine w_s ?_
 refine w_r4 ?_
 refine w_1 H0 0 ?_
 refine w_v (v := .int .i64 ((gn : Int))) (x_lenl rfl rfl Tryz.underlying47) ?_
 refine w_a ?_
 refine w_e ?_
 refine g_ret ?_
 refine fin_ret [.tmp 2] [.int .i64 ((gn : Int))] rfl ⟨rfl, trivial⟩ ?_
 exact ⟨rfl, H0.takes [0, 1] (by decide)⟩
end Go.Proofs.YtpbjekdjebjbkaaGreat
namespace Go.Proofs.YtpbjekdjebjbkaaGreat
open Go.RowKit

/-! ## A game as one thing -/
section
variable {w : World} {X : GM} {g0 : Nat}
theorem GOK.lens (h : GOK X.A) : X.ss.length = X.ps.length ∧ X.bs.length = X.ps.length ∧ X.got.length = X.ps.length ∧ X.gave.length = X.ps.length ∧ ∀ x ∈ X.bs, x.l.length = X.ps.length := by
  refine ⟨?_, ?_, h.gt.1, h.gg.1, fun x hx => (h.bw.2 x.l (List.mem_map.2 ⟨x, hx, rfl⟩)).1⟩
  · have := h.sl
    rwa [show X.A.ss.length = X.ss.length from List.length_map ..] at this
  · have := h.bw.1
    rwa [show X.A.bw.length = X.bs.length from List.length_map ..] at this
theorem got_g (h : GOK X.A) (hg : X.g = g0) (i : Int) (HS : S w [X.I]) : Calls Tryz.prog 10 #[.pointer (some ⟨g0, 0, none⟩), .int .i64 i] w fun e w' => e = .returned (.tuple #[.int .i64 (if askN X.A.ps.length [i] = 0 then X.A.got.getD i.toNat 0 else 0), .int .i64 (askN X.A.ps.length [i])]) ∧ S w' ([X.I] ++ [Old w (fps [X.I])]) := by
  subst hg
  have H := HS.beginI
  have H1 := S.unbig (L := [_, _, _, _, _, _, _, _, _]) H
  have h9 := h.n9
  refine (got_s X.g X.gp X.gc X.gs.length X.sd X.pp X.pc X.ps X.sp X.sc X.ss.length X.tp X.tc X.got.length X.vp X.vc X.gave.length X.bp X.bc X.bs.length X.got h.lens.2.2.1 i (Nat.le_trans h9 (by decide)) w (H1.takes [0, 4] (by decide))).mono ?_
  rintro e w' ⟨rfl, h2⟩
  have h3 := H1.absorbI (new := [_, _]) [0, 4] h2
  exact ⟨rfl, S.big (L := [_, _, _, _, _, _, _, _, _]) (h3.takes [0, 2, 3, 4, 1, 5, 6, 7, 8, 9] (by decide))⟩
theorem between_g (h : GOK X.A) (hg : X.g = g0) (a b : Int) (HS : S w [X.I]) : Calls Tryz.prog 16 #[.pointer (some ⟨g0, 0, none⟩), .int .i64 a, .int .i64 b] w fun e w' => e = .returned (.tuple #[.int .i64 (if askN X.A.ps.length [a, b] = 0 then at2 X.A.bw a b else 0), .int .i64 (askN X.A.ps.length [a, b])]) ∧ S w' ([X.I] ++ [Old w (fps [X.I])]) := by
  subst hg
  have H := HS.beginI
  have H1 := S.unbig (L := [_, _, _, _, _, _, _, _, _]) H
  have h9 := h.n9
  refine (between_s X.g X.gp X.gc X.gs.length X.sd X.pp X.pc X.ps X.sp X.sc X.ss.length X.tp X.tc X.got.length X.vp X.vc X.gave.length X.bp X.bc X.bs.length X.bs h.lens.2.1 h.lens.2.2.2.2 a b (Nat.le_trans h9 (by decide)) w (H1.takes [0, 6, 7] (by decide))).mono ?_
  rintro e w' ⟨rfl, h2⟩
  have h3 := H1.absorbI (new := [_, _, _]) [0, 6, 7] h2
  exact ⟨rfl, S.big (L := [_, _, _, _, _, _, _, _, _]) (h3.takes [0, 3, 4, 5, 6, 7, 1, 2, 8, 9] (by decide))⟩
theorem rounds_g (hg : X.g = g0) (HS : S w [X.I]) : Calls Tryz.prog 13 #[.pointer (some ⟨g0, 0, none⟩)] w fun e w' => e = .returned (.int .i64 (X.gs.length : Int)) ∧ S w' ([X.I] ++ [Old w (fps [X.I])]) := by
  subst hg
  have H := HS.beginI
  have H1 := S.unbig (L := [_, _, _, _, _, _, _, _, _]) H
  refine (rounds_n X.g X.gp X.gc X.gs.length X.sd X.pp X.pc X.ps X.sp X.sc X.ss.length X.tp X.tc X.got.length X.vp X.vc X.gave.length X.bp X.bc X.bs.length w (H1.takes [0] (by decide))).mono ?_
  rintro e w' ⟨rfl, h2⟩
  have h3 := H1.absorbI (new := [_]) [0] h2
  exact ⟨rfl, S.big (L := [_, _, _, _, _, _, _, _, _]) h3⟩
theorem round_g {pl : List Rd} (h : MOK pl X) (hgl : X.gs.length ≤ 190) (hg : X.g = g0) (HS : S w [X.I, Pool pl]) :
    Calls Tryz.prog 9 #[.pointer (some ⟨g0, 0, none⟩)] w fun e w' => ∃ p' c' zz X' rd, e = .returned (.tuple #[.slice p' zz.length c', .int .i64 0]) ∧ zz.map Ro.l = roundR X.A ∧ X'.A = stepA X.A ∧ X'.g = g0 ∧ X'.gs.length = X.gs.length + 1 ∧ MOK (pl ++ [rd]) X' ∧
      S w' ([Rw 34 1 p' zz.length c' (fl rowL zz), Lst BwI zz, X'.I, Pool (pl ++ [rd])] ++ [Old w (fps [X.I, Pool pl])]) := by
  subst hg
  exact round_x X h hgl w HS
end
/-- Rounds one by one. -/
noncomputable def stepsA : Nat → GA → GA
  | 0, A => A
  | k + 1, A => stepA (stepsA k A)
theorem stepsA_add (a : Nat) (A : GA) : ∀ b, stepsA (a + b) A = stepsA b (stepsA a A)
  | 0 => rfl
  | b + 1 => by
    show stepA (stepsA (a + b) A) = stepA (stepsA b (stepsA a A))
    rw [stepsA_add a A b]
theorem stepsA_ps (A : GA) : ∀ k, (stepsA k A).ps = A.ps
  | 0 => rfl
  | k + 1 => stepsA_ps A k
theorem newA_ok {sd : ByteArray} {l : List Pl} (hsd : sd.size ≤ 100) (ha : (l.any fun p => !valP p) = false) (h2 : 2 ≤ l.length) (h9 : l.length ≤ 9) : GOK (newA sd l) where
  n2 := h2
  n9 := h9
  sd := hsd
  pv p hp := by
    obtain ⟨i, hi⟩ := List.getElem?_of_mem hp
    exact valid_at ha hi
  sk := by
    show (l.map fun p => spN p.st).map Sp.k = _
    rw [List.map_map]; rfl
  sP s hs j v hv := by
    obtain ⟨p, _, rfl⟩ := List.mem_map.1 hs
    cases hv
  sB s hs j v hv := by
    obtain ⟨p, _, rfl⟩ := List.mem_map.1 hs
    cases hv
  gr r hr := absurd hr List.not_mem_nil
  gt := ⟨List.length_replicate, fun x hx => by rw [(List.mem_replicate.1 hx).2]; exact ⟨Int.le_refl _, Int.le_refl _⟩⟩
  gg := ⟨List.length_replicate, fun x hx => by rw [(List.mem_replicate.1 hx).2]; exact ⟨Int.le_refl _, Int.le_refl _⟩⟩
  bw := ⟨List.length_replicate, fun l' hl => by
    rw [(List.mem_replicate.1 hl).2]
    exact ⟨List.length_replicate, fun x hx => by rw [(List.mem_replicate.1 hx).2]; exact ⟨Int.le_refl _, Int.le_refl _⟩⟩⟩
end Go.Proofs.YtpbjekdjebjbkaaGreat
namespace Go.Proofs.YtpbjekdjebjbkaaGreat
open Go.RowKit

theorem cl9 : callable Tryz.prog 9 = true := by kernel_rfl
set_option maxRecDepth 20000 in
set_option maxHeartbeats 4000000 in
set_option maxRecDepth 20000 in
set_option maxHeartbeats 4000000 in
theorem play_x (pl : List Rd) (X : GM) (hX : MOK pl X) (rn : Int) (hr0 : 0 ≤ rn ∧ rn ≤ 200) (hrg : X.gs.length + rn.toNat ≤ 190)  (w : World) (HS : S w [X.I, Pool pl]) : Calls Tryz.prog 12 #[.pointer (some ⟨X.g, 0, none⟩), .int .i64 rn] w fun e w' => ∃ X' pl', e = .returned (.int .i64 0) ∧ X'.A = stepsA rn.toNat X.A ∧ X'.g = X.g ∧ X'.gs.length = X.gs.length + rn.toNat ∧ MOK pl' X' ∧ (∀ r ∈ pl, r ∈ pl') ∧ S w' ([X'.I, Pool pl'] ++ [Old w (fps [X.I, Pool pl])]) := by
  have H00 := HS.beginI
  have H0 : S w ([X.I, Pool pl, Old w (fps [X.I, Pool pl])]) := H00
  replace H0 : S w [Ob X.g (.cells #[.slice X.gp X.gs.length X.gc, .string (X.sd), .slice X.pp X.ps.length X.pc, .slice X.sp X.ss.length X.sc, .slice X.tp X.got.length X.tc, .slice X.vp X.gave.length X.vc, .slice X.bp X.bs.length X.bc] 52 (0, 0)), Rw 29 1 X.gp X.gs.length X.gc (fl rowL X.gs), Rw 33 2 X.pp X.ps.length X.pc (fl plL X.ps), Rw 54 1 X.sp X.ss.length X.sc (fl sgL X.ss), Rw 3 1 X.tp X.got.length X.tc (fl intL X.got), Rw 3 1 X.vp X.gave.length X.vc (fl intL X.gave), Rw 34 1 X.bp X.bs.length X.bc (fl rowL X.bs), (Lst BwI X.bs), (Lst SgI X.ss), (Pool pl), Old w (fps [X.I, Pool pl])] := S.unbig (L := [_, _, _, _, _, _, _, _, _]) H0
  refine enter 31 Tryz.func12 rfl rfl rfl ?_
  refine g_weak [(0, .pointer (some ⟨X.g, 0, none⟩)), (1, .int .i64 rn)] ⟨rfl, rfl, trivial⟩ ?_
  refine g_seq ?_
  refine g_region ?_
  refine l_of (s_val (v := .int .i64 0) (wt0 rfl) rfl rfl (x_assign rfl rfl) ?_)
  refine g_nil ?_
  refine g_then ?_
  refine g_seq ?_
  refine g_block ?_
  refine g_seq ?_
  refine g_region ?_
  refine l_of (s_val (v := .pointer (some ⟨X.g, 0, none⟩)) (wt0 rfl) rfl rfl (x_move rfl rfl) ?_)
  refine l_of (s_val (v := .bool false) (wt0 rfl) rfl rfl (x_bin rfl rfl rfl (b_eqN (r := false) Tryz.underlying25 rfl)) ?_)
  refine l_of (s_val (v := .bool false) (wt0 rfl) rfl rfl (x_assign rfl rfl) ?_)
  refine g_nil ?_
  refine g_then ?_
  refine g_cond_f rfl rfl ?_
  refine g_seq ?_
  refine g_region ?_
  refine l_of (s_val (v := .int .i64 rn) (wt0 rfl) rfl rfl (x_move rfl rfl) ?_)
  refine l_of (s_val (v := .bool (decide ((rn : Int) < 0))) (wt0 rfl) rfl rfl (x_bin rfl rfl rfl b_lss) ?_)
  refine l_of (s_val (v := .bool (decide ((rn : Int) < 0))) (wt0 rfl) rfl rfl (x_move rfl rfl) ?_)
  refine l_of (s_val (v := .int .i64 rn) (wt1 rfl rfl rfl rfl (decide_eq_false (by omega))) rfl rfl (x_move rfl rfl) ?_)
  refine l_of (s_val (v := .bool (decide ((200 : Int) < rn))) (wt1 rfl rfl rfl rfl (decide_eq_false (by omega))) rfl rfl (x_bin rfl rfl rfl b_gtr) ?_)
  refine l_of (s_val (v := .bool (decide ((200 : Int) < rn))) (wt0 rfl) rfl rfl (x_pick_f rfl rfl (decide_eq_false (by omega)) rfl) ?_)
  refine l_of (s_val (v := .bool (decide ((200 : Int) < rn))) (wt0 rfl) rfl rfl (x_assign rfl rfl) ?_)
  refine g_nil ?_
  refine g_then ?_
  refine g_cond_f rfl (decide_eq_false (by omega)) ?_
  refine g_seq ?_
  refine g_region ?_
  refine l_of (s_val (v := .pointer (some ⟨X.g, 0, none⟩)) (wt0 rfl) rfl rfl (x_move rfl rfl) ?_)
  refine l_of (s_val (v := .pointer (some ⟨X.g, 0, none⟩)) (wt0 rfl) rfl rfl (x_nilCheck rfl rfl) ?_)
  refine l_of (s_val (v := .pointer (some ⟨X.g, 0, none⟩)) (wt0 rfl) rfl rfl (x_fieldAddr rfl rfl fo52_0 rfl) ?_)
  refine l_of (s_val (v := .pointer (some ⟨X.g, 0, none⟩)) (wt0 rfl) rfl rfl (x_fieldAddr rfl rfl fo49_0 rfl) ?_)
  refine l_of (s_val (v := .slice X.gp X.gs.length X.gc) (wt0 rfl) rfl rfl (x_load1 H0 0 rfl rfl Tryz.underlying47 rfl rfl rfl) ?_)
  refine l_of (s_val (v := .int .i64 ((X.gs.length : Int))) (wt0 rfl) rfl rfl (x_lenl rfl rfl Tryz.underlying47) ?_)
  refine l_of (s_val (v := .int .i64 rn) (wt0 rfl) rfl rfl (x_move rfl rfl) ?_)
  refine l_of (s_val (v := .int .i64 ((X.gs.length : Int) + rn)) (wt0 rfl) rfl rfl (x_bin rfl rfl rfl (b_add (w64 (by omega)))) ?_)
  refine l_of (s_val (v := .bool (decide ((1000 : Int) < (X.gs.length : Int) + rn))) (wt0 rfl) rfl rfl (x_bin rfl rfl rfl b_gtr) ?_)
  refine l_of (s_val (v := .bool (decide ((1000 : Int) < (X.gs.length : Int) + rn))) (wt0 rfl) rfl rfl (x_assign rfl rfl) ?_)
  refine g_nil ?_
  refine g_then ?_
  refine g_weak [(0, .pointer (some ⟨X.g, 0, none⟩)), (1, .int .i64 rn), (15, .bool (decide ((1000 : Int) < (X.gs.length : Int) + rn)))] ⟨rfl, rfl, rfl, trivial⟩ ?_
  refine g_cond_f rfl (decide_eq_false (by omega)) ?_
  refine g_skip ?_
  refine g_in ?_
  refine g_then ?_
  refine g_seq ?_
  refine g_seq ?_
  refine g_region ?_
  refine l_of (s_val (v := .int .i64 rn) (wt0 rfl) rfl rfl (x_move rfl rfl) ?_)
  refine l_of (s_val (v := .int .i64 0) (wt0 rfl) rfl rfl (x_move rfl rfl) ?_)
  refine g_nil ?_
  refine g_then ?_
  refine g_block ?_
  refine g_loop (ι := Nat × GM × List Rd) (fun (k, Y, pl2) => [(0, .pointer (some ⟨X.g, 0, none⟩)), (25, .int .i64 rn), (26, .int .i64 ((k : Int)))]) (fun (k, Y, pl2) wx => ((k : Int) ≤ rn) ∧ (Y.A = stepsA k X.A) ∧ (Y.g = X.g) ∧ (Y.gs.length = X.gs.length + k) ∧ (MOK pl2 Y) ∧ (∀ r ∈ pl, r ∈ pl2) ∧ S wx [(GM.I Y), (Pool pl2), Old w (fps [X.I, Pool pl])]) (fun (k, Y, pl2) => rn.toNat - k) (0, X, pl) ⟨rfl, rfl, rfl, trivial⟩ ⟨(by omega), rfl, rfl, rfl, hX, (fun _ h => h), (S.big (L := [_, _, _, _, _, _, _, _, _]) (H0.takes [0, 1, 2, 3, 4, 5, 6, 7, 8, 9, 10] (by decide)))⟩ ?_
  rintro ⟨k, Y, pl2⟩ wq1 ⟨hk, hYA, hYg, hYl, hYM, hYp, H2⟩
  replace H2 : S wq1 [(GM.I Y), (Pool pl2), Old w (fps [X.I, Pool pl])] := H2
  refine g_weak [(0, .pointer (some ⟨X.g, 0, none⟩)), (25, .int .i64 rn), (26, .int .i64 ((k : Int)))] ⟨rfl, rfl, rfl, trivial⟩ ?_
  refine g_seq ?_
  refine g_region ?_
  refine l_of (s_val (v := .bool (decide (((k : Int) : Int) < rn))) (wt0 rfl) rfl rfl (x_bin rfl rfl rfl b_lss) ?_)
  refine g_nil ?_
  refine g_then ?_
  refine g_seq ?_
  by_cases hb3 : ((k : Int) : Int) < rn
  · skip
    refine g_cond_t rfl (decide_eq_true hb3) ?_
    refine g_skip ?_
    refine g_then ?_
    refine g_seq ?_
    refine g_block ?_
    refine g_region ?_
    refine l_of (s_val (v := .pointer (some ⟨X.g, 0, none⟩)) (wt0 rfl) rfl rfl (x_move rfl rfl) ?_)
    refine l_of (s_call (wt0 rfl) (x_call' rfl rfl cl9) (round_g hYM (by omega) hYg (H2.takes [0, 1] (by decide))) ?_)
    rintro _ wq4 ⟨pz1, cz1, zz1, X1, rd1, rfl, hzz1, hA1, hg1, hl1, hM1, H5⟩
    replace H5 : S wq4 [Rw 34 1 pz1 zz1.length cz1 (fl rowL zz1), (Lst BwI zz1), (GM.I X1), (Pool (pl2 ++ [rd1])), Old w (fps [X.I, Pool pl])] := H2.absorbI (new := [Rw 34 1 pz1 zz1.length cz1 (fl rowL zz1), (Lst BwI zz1), (GM.I X1), (Pool (pl2 ++ [rd1]))]) [0, 1] H5
    refine b_ret rfl rfl ?_
    refine g_nil ?_
    refine g_in ?_
    refine g_then ?_
    refine g_region ?_
    refine l_of (s_val (v := .int .i64 (((k + 1 : Nat) : Int))) (wt0 rfl) rfl rfl (x_bin rfl rfl rfl (b_add (by rw [w64 (by omega)]; omega))) ?_)
    refine l_of (s_val (v := .int .i64 (((k + 1 : Nat) : Int))) (wt0 rfl) rfl rfl (x_move rfl rfl) ?_)
    refine g_nil ?_
    refine g_then ?_
    refine g_round (i := (k, Y, pl2)) ((k + 1), X1, (pl2 ++ [rd1])) ?_ ?_ ?_
    · exact ⟨rfl, rfl, rfl, trivial⟩
    · exact ⟨(by omega), (by rw [hA1, hYA]; rfl), hg1, (by omega), hM1, (fun r hr => List.mem_append_left _ (hYp r hr)), (H5.takes [2, 3, 4] (by decide))⟩
    · (try dsimp only); omega
  · skip
    refine g_cond_f rfl (decide_eq_false hb3) ?_
    refine g_exit ?_
    refine g_then_exit ?_
    refine g_then_exit ?_
    refine g_in_hit ?_
    refine g_then ?_
    refine g_seq ?_
    refine g_region ?_
    refine l_of (s_val (v := .int .i64 0) (wt0 rfl) rfl rfl (x_assign rfl rfl) ?_)
    refine g_nil ?_
    refine g_then ?_
    refine g_ret ?_
    refine fin_ret [.tmp 4] [.int .i64 0] rfl ⟨rfl, trivial⟩ ?_
    have hke : k = rn.toNat := by omega
    subst hke
    exact ⟨Y, pl2, rfl, hYA, hYg, hYl, hYM, hYp, H2.takes [0, 1, 2] (by decide)⟩
theorem play_g {pl : List Rd} {X : GM} {g0 : Nat} {w : World} (hX : MOK pl X) (rn : Int) (hr0 : 0 ≤ rn ∧ rn ≤ 200) (hrg : X.gs.length + rn.toNat ≤ 190) (hg : X.g = g0) (HS : S w [X.I, Pool pl]) : Calls Tryz.prog 12 #[.pointer (some ⟨g0, 0, none⟩), .int .i64 rn] w fun e w' => ∃ X' pl', e = .returned (.int .i64 0) ∧ X'.A = stepsA rn.toNat X.A ∧ X'.g = g0 ∧ X'.gs.length = X.gs.length + rn.toNat ∧ MOK pl' X' ∧ (∀ r ∈ pl, r ∈ pl') ∧ S w' ([X'.I, Pool pl'] ++ [Old w (fps [X.I, Pool pl])]) := by
  subst hg
  exact play_x pl X hX rn hr0 hrg w HS
end Go.Proofs.YtpbjekdjebjbkaaGreat
namespace Go.Proofs.YtpbjekdjebjbkaaGreat
open Go.RowKit

/-! ## The laws in plain words -/
theorem newE_0 {sd : ByteArray} {l : List Pl} (h : newE sd l = 0) : ¬ 100 < sd.size ∧ (l.any fun p => !valP p) = false ∧ 2 ≤ l.length := by
  unfold newE at h
  split at h
  · cases h
  · rename_i h1
    split at h
    · cases h
    · rename_i h2
      refine ⟨fun h3 => h1 (.inl h3), ?_, by omega⟩
      cases h4 : l.any fun p => !valP p with
      | false => rfl
      | true => exact absurd (.inr h4) h1
theorem new_any (sd : ByteArray) (l : List Pl) (p : Option Addr) (n c : Nat) (h9 : n ≤ 9) (w : World) (hr : Reads w p n c 2 (fl plL l)) : Calls Tryz.prog 8 #[.string sd, .slice p n c] w fun e w' =>
    (e = .returned (.tuple #[.pointer none, .int .i64 (newE sd l)]) ∧ ¬ newE sd l = 0 ∧ S w' ([] ++ [Old w no])) ∨ ∃ X : GM, e = .returned (.tuple #[.pointer (some ⟨X.g, 0, none⟩), .int .i64 0]) ∧ newE sd l = 0 ∧ X.A = newA sd l ∧ MOK [] X ∧ X.gs.length = 0 ∧ S w' ([X.I] ++ [Old w no]) := by
  have hnl := hr.lenL plE
  by_cases hE : newE sd l = 0
  · obtain ⟨h1, h2, h3⟩ := newE_0 hE
    subst hnl
    refine (new_ok sd l p c h1 h2 h3 h9 w hr).mono ?_
    rintro e w' ⟨X, rfl, hA, hs, h⟩
    exact .inr ⟨X, rfl, hE, hA, ⟨hA ▸ newA_ok (by omega) h2 h3 h9, fun r hr => by rw [hs] at hr; exact absurd hr List.not_mem_nil⟩, by rw [hs]; rfl, h⟩
  · by_cases h1 : 100 < sd.size
    · exact (new_b1 sd l p n c (by omega) h1 w hr).mono fun e w' ⟨he, h⟩ => .inl ⟨he, hE, h⟩
    · cases h2 : (l.any fun p => !valP p) with
      | true => exact (new_b2 sd l p n c (by omega) h1 h2 w hr).mono fun e w' ⟨he, h⟩ => .inl ⟨he, hE, h⟩
      | false =>
        by_cases h3 : l.length < 2
        · exact (new_b3 sd l p n c h1 h2 h3 w hr).mono fun e w' ⟨he, h⟩ => .inl ⟨he, hE, h⟩
        · exact absurd (by unfold newE; rw [if_neg (fun h9 => h9.elim h1 (fun h8 => by rw [h2] at h8; cases h8)), if_neg (by omega)]) hE
/-! a free player -/
theorem free_row {A : GA} (h : GOK A) {i : Nat} {p : Pl} (hp : A.ps[i]? = some p) (hst : p.st = 2) : rowR A i = List.replicate A.ps.length 0 := by
  obtain ⟨p', s, hp', hs, hk, _⟩ := h.at (List.getElem?_eq_some_iff.1 hp).1
  rw [hp] at hp'
  obtain rfl := Option.some.inj hp'
  rw [rowR_is hp hs]
  unfold giveV
  rw [if_neg (by omega), if_pos (by omega)]
  rfl
def FreeInv (A : GA) : Prop := ∀ r ∈ A.gv, ∀ (a : Int) (i : Nat) (p : Pl), A.ps[i]? = some p → p.st = 2 → at2 r i a = 0
theorem FreeInv.step {A : GA} (h : GOK A) (hf : FreeInv A) : FreeInv (stepA A) := fun r hr a i p hp hst => by
  have hr : r ∈ A.gv ++ [roundR A] := hr
  have hp : A.ps[i]? = some p := hp
  rcases List.mem_append.1 hr with hr | hr
  · exact hf r hr a i p hp hst
  · rw [List.mem_singleton.1 hr, at2_def, Int.toNat_natCast, GOK.round_at (List.getElem?_eq_some_iff.1 hp).1, free_row h hp hst]
    show ((List.replicate A.ps.length (0 : Int))[a.toNat]?).getD 0 = 0
    rw [List.getElem?_replicate]
    split <;> rfl
/-! sums -/
/-! the document's example -/
def exL : List Pl := [⟨3, 10⟩, ⟨3, 20⟩]
theorem ex_r0 : rowR (newA ⟨#[]⟩ exL) 0 = [0, 10] := by
  rw [rowR_is (A := newA ⟨#[]⟩ exL) (pm := ⟨3, 10⟩) (s := spN 3) rfl rfl]
  unfold giveV
  rw [if_neg (show ¬ (spN 3).k = 1 by decide), if_neg (show ¬ (spN 3).k = 2 by decide), if_pos (show (spN 3).k = 3 from rfl)]
  decide
theorem ex_r1 : rowR (newA ⟨#[]⟩ exL) 1 = [20, 0] := by
  rw [rowR_is (A := newA ⟨#[]⟩ exL) (pm := ⟨3, 20⟩) (s := spN 3) rfl rfl]
  unfold giveV
  rw [if_neg (show ¬ (spN 3).k = 1 by decide), if_neg (show ¬ (spN 3).k = 2 by decide), if_pos (show (spN 3).k = 3 from rfl)]
  decide
theorem ex_round : roundR (newA ⟨#[]⟩ exL) = [[0, 10], [20, 0]] := by
  show [rowR (newA ⟨#[]⟩ exL) 0, rowR (newA ⟨#[]⟩ exL) 1] = _
  rw [ex_r0, ex_r1]
theorem ex_got : (stepsA 1 (newA ⟨#[]⟩ exL)).got = [20, 10] := by
  show gotF (roundR (newA ⟨#[]⟩ exL)) [0, 0] = _
  rw [ex_round]
  decide
theorem ex_newE : newE ⟨#[]⟩ exL = 0 := by decide
end Go.Proofs.YtpbjekdjebjbkaaGreat
