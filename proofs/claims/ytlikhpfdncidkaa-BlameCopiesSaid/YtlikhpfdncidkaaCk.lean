import Derived.Test.YtlikhpfdncidkaaFk
import Derived.Test.YtlikhpfdncidkaaCj
set_option linter.unusedSimpArgs false
set_option linter.unusedVariables false
namespace Go.Proofs.Ytlikhpfdncidkaa
open Go.RowKit

theorem cl10 : callable Try.prog 10 = true := by kernel_rfl
theorem cl13 : callable Try.prog 13 = true := by kernel_rfl
theorem cl14 : callable Try.prog 14 = true := by kernel_rfl
theorem cl15 : callable Try.prog 15 = true := by kernel_rfl
theorem cl16 : callable Try.prog 16 = true := by kernel_rfl
theorem cl17 : callable Try.prog 17 = true := by kernel_rfl
theorem cl24 : callable Try.prog 24 = true := by kernel_rfl
theorem cl25 : callable Try.prog 25 = true := by kernel_rfl
theorem cl26 : callable Try.prog 26 = true := by kernel_rfl
theorem cl27 : callable Try.prog 27 = true := by kernel_rfl
theorem cl28 : callable Try.prog 28 = true := by kernel_rfl
theorem cl40 : callable Try.prog 40 = true := by kernel_rfl
theorem cl41 : callable Try.prog 41 = true := by kernel_rfl
theorem cl42 : callable Try.prog 42 = true := by kernel_rfl
theorem cl43 : callable Try.prog 43 = true := by kernel_rfl
theorem cl44 : callable Try.prog 44 = true := by kernel_rfl
theorem cl45 : callable Try.prog 45 = true := by kernel_rfl
theorem cl46 : callable Try.prog 46 = true := by kernel_rfl
theorem cl48 : callable Try.prog 48 = true := by kernel_rfl
theorem cl49 : callable Try.prog 49 = true := by kernel_rfl
theorem cl51 : callable Try.prog 51 = true := by kernel_rfl
theorem cl52 : callable Try.prog 52 = true := by kernel_rfl
theorem sz52 : szO Try.prog 52 = some 7 := by kernel_rfl
theorem ze52 : zeO Try.prog 52 = some (.agg #[.int .i64 0, .int .i64 0, .int .i64 0, .int .i64 0, .int .i64 0, .string (⟨#[]⟩), .bool false]) := by kernel_rfl
structure Dd where
  kd : Int
  pr : Int
  pc : Int
  bg : Int
  ln : Int
  dt : ByteArray
  gd : Bool
def ddL (x : Dd) : List Value := [.int .i64 x.kd, .int .i64 x.pr, .int .i64 x.pc, .int .i64 x.bg, .int .i64 x.ln, .string x.dt, .bool x.gd]
theorem ddE : Enc 7 ddL := ⟨by decide, fun _ => rfl, fun _ => rfl⟩
theorem who_le (A : BS) {X : BM} (hX : X.ok) (hA : X.A = A) (i : Int) : (whoL (A.nw i)).length ≤ 9223372036854775807 := by
  subst hA
  have := (hX.1.tokN i).whoLen
  exact Nat.le_trans this (by decide)
theorem bans_len (A : BS) : (bansL A).length ≤ 1000 := by
  unfold bansL
  refine Nat.le_trans (List.length_filter_le ..) ?_
  simp
set_option maxRecDepth 20000 in
set_option maxHeartbeats 4000000 in
theorem ints_s (l : List Int) (p : Option Addr) (n c : Nat) (q : Option Addr) (m d : Nat) (hl : l.length ≤ 9223372036854775807)  (w : World) (hr : Reads w p n c 1 (fl intL l)) (hq : Reads w q m d 1 (fl intL l)) : Calls Try.prog 41 #[.slice p n c, .slice q m d] w fun e w' => e = .returned (.bool true) ∧ S w' [Old w no] := by
 have H0 := S.old w
 have hn := hr.lenL intE
 have hm := hq.lenL intE
 refine enter 26 Try.func41 rfl rfl rfl ?_
 refine g_weak [(0, .slice p n c), (1, .slice q m d)] ⟨rfl, rfl, trivial⟩ ?_
 refine w_s ?_
 refine w_a ?_
 refine w_e ?_
 refine g_seq ?_
 refine w_s ?_
 refine w_m ?_
 refine w_v (v := .int .i64 ((n : Int))) (x_lenl rfl rfl Try.underlying24) ?_
 refine w_m ?_
 refine w_v (v := .int .i64 ((m : Int))) (x_lenl rfl rfl Try.underlying24) ?_
 refine w_b (v := .bool (!decide (((n : Int) : Int) = (m : Int)))) (hb := b_neq) ?_
 refine w_e ?_
 by_cases hb1 : ((n : Int) : Int) = (m : Int)
 ·
  refine g_cond_f rfl (nf hb1) ?_
  refine g_skip ?_
  refine g_then ?_
  refine g_seq ?_
  refine w_s ?_
  refine w_m ?_
  refine w_v (v := .int .i64 ((n : Int))) (x_lenl rfl rfl Try.underlying24) ?_
  refine w_m ?_
  refine w_e ?_
  refine g_block ?_
  refine g_loop (ι := Nat) (fun k => [(0, .slice p n c), (1, .slice q m d), (12, .int .i64 ((n : Int))), (13, .int .i64 ((k : Int)))]) (fun k wx => (k ≤ n) ∧ S wx [Old w no]) (fun k => n - k) (0) ⟨rfl, rfl, rfl, rfl, trivial⟩ ⟨Nat.zero_le _, H0⟩ ?_
  rintro k wq2 ⟨hk, H3⟩
  refine g_weak [(0, .slice p n c), (1, .slice q m d), (12, .int .i64 ((n : Int))), (13, .int .i64 ((k : Int)))] ⟨rfl, rfl, rfl, rfl, trivial⟩ ?_
  refine w_s ?_
  refine w_b ?_
  refine w_e ?_
  refine g_seq ?_
  by_cases hb4 : ((k : Int) : Int) < (n : Int)
  ·
   refine g_cond_t rfl (decide_eq_true hb4) ?_
   refine g_skip ?_
   refine g_then ?_
   refine g_seq ?_
   refine g_block ?_
   refine w_s ?_
   refine w_r2 ?_
   refine w_e ?_
   refine g_seq ?_
   refine g_quiet (by kernel_rfl) (by kernel_rfl) H3 ?_
   refine q_val (v := .slice p n c) (wt0 rfl) rfl rfl (fun wx H => x_move rfl rfl) ?_
   refine q_val (v := .int .i64 ((k : Int))) (wt0 rfl) rfl rfl (fun wx H => x_move rfl rfl) ?_
   refine q_val (v := .pointer ((p).map fun q => q.add (k * 1))) (wt0 rfl) rfl rfl (fun wx H => x_idxP k ((H3.oldReads (k := 0) rfl hr).some (by omega)) rfl rfl rfl Try.underlying24 sz3 (by omega)) ?_
   have hlq := (H3.oldReads (k := 0) rfl hr).lenL intE
   obtain ⟨x5, hx5⟩ := ex_at (l := l) (j := k) (by omega)
   clear hlq
   refine q_val (v := .int .i64 x5) (wt0 rfl) rfl rfl (fun wx H => x_loadR1 k (H.oldReads (k := 0) rfl hr) (by omega) rfl rfl Try.underlying3 rfl (intE.flAt1 hx5 rfl)) ?_
   refine q_val (v := .slice q m d) (wt0 rfl) rfl rfl (fun wx H => x_move rfl rfl) ?_
   refine q_val (v := .int .i64 ((k : Int))) (wt0 rfl) rfl rfl (fun wx H => x_move rfl rfl) ?_
   refine q_val (v := .pointer ((q).map fun q => q.add (k * 1))) (wt0 rfl) rfl rfl (fun wx H => x_idxP k ((H3.oldReads (k := 0) rfl hq).some (by omega)) rfl rfl rfl Try.underlying24 sz3 (by omega)) ?_
   refine q_val (v := .int .i64 x5) (wt0 rfl) rfl rfl (fun wx H => x_loadR1 k (H.oldReads (k := 0) rfl hq) (by omega) rfl rfl Try.underlying3 rfl (intE.flAt1 hx5 rfl)) ?_
   refine q_val (v := .bool (!decide ((x5 : Int) = x5))) (wt0 rfl) rfl rfl (fun wx H => x_bin rfl rfl rfl b_neq) ?_
   refine q_nil (fun wq6 H7 => ?_)
   refine g_then ?_
   refine g_cond_f rfl (nf rfl) ?_
   refine g_skip ?_
   refine g_in ?_
   refine g_then ?_
   refine g_weak [(0, .slice p n c), (1, .slice q m d), (12, .int .i64 ((n : Int))), (13, .int .i64 ((k : Int)))] ⟨rfl, rfl, rfl, rfl, trivial⟩ ?_
   refine g_region ?_
   refine w_b (v := .int .i64 (((k + 1 : Nat) : Int))) (hb := (b_add (by rw [w64 (by omega)]; omega))) ?_
   refine w_m ?_
   refine w_e ?_
   refine g_round (i := (k)) ((k + 1)) ?_ ?_ ?_
   · exact ⟨rfl, rfl, rfl, rfl, trivial⟩
   · exact ⟨by omega, H7⟩
   · (try dsimp only); omega
  ·
   refine g_cond_f rfl (decide_eq_false hb4) ?_
   refine g_exit ?_
   refine g_then_exit ?_
   refine g_then_exit ?_
   refine g_in_hit ?_
   refine g_then ?_
   refine w_s ?_
   refine w_a ?_
   refine w_e ?_
   refine g_ret ?_
   refine fin_ret [.tmp 4] [.bool true] rfl ⟨rfl, trivial⟩ ?_
   exact ⟨rfl, H3.mask [true]⟩
 ·
  refine g_cond_t rfl (nt hb1) ?_
  refine w_s ?_
  refine w_a ?_
  refine w_e ?_
  refine g_ret ?_
  refine g_then_ret ?_
  refine fin_ret [.tmp 4] [.bool false] rfl ⟨rfl, trivial⟩ ?_
  omega
set_option maxRecDepth 20000 in
set_option maxHeartbeats 4000000 in
theorem light_s (l : List Dd) (p : Option Addr) (n c : Nat) (hl : n ≤ 9223372036854775807)  (w : World) (hr : Reads w p n c 7 (fl ddL l)) : Calls Try.prog 18 #[.slice p n c] w fun e w' => ∃ b, e = .returned (.bool b) ∧ (b = true → l.length ≤ 120) ∧ S w' [Old w no] := by
 have H0 := S.old w
 have hn := hr.lenL ddE
 refine enter 25 Try.func18 rfl rfl rfl ?_
 refine g_weak [(0, .slice p n c)] ⟨rfl, trivial⟩ ?_
 refine w_s ?_
 refine w_a ?_
 refine w_e ?_
 refine w_s ?_
 refine w_a ?_
 refine w_e ?_
 refine g_seq ?_
 refine w_s ?_
 refine w_m ?_
 refine w_v (v := .int .i64 ((n : Int))) (x_lenl rfl rfl Try.underlying47) ?_
 refine w_m ?_
 refine w_e ?_
 refine g_block ?_
 refine g_loop (ι := Nat × Int) (fun (k, z) => [(0, .slice p n c), (3, .int .i64 z), (6, .slice p n c), (7, .int .i64 ((n : Int))), (8, .int .i64 ((k : Int)))]) (fun (k, z) wx => (k ≤ n) ∧ S wx [Old w no]) (fun (k, z) => n - k) (0, 0) ⟨rfl, rfl, rfl, rfl, rfl, trivial⟩ ⟨Nat.zero_le _, H0⟩ ?_
 rintro ⟨k, z⟩ wq1 ⟨hk, H2⟩
 refine g_weak [(0, .slice p n c), (3, .int .i64 z), (6, .slice p n c), (7, .int .i64 ((n : Int))), (8, .int .i64 ((k : Int)))] ⟨rfl, rfl, rfl, rfl, rfl, trivial⟩ ?_
 refine w_s ?_
 refine w_b ?_
 refine w_e ?_
 refine g_seq ?_
 by_cases hb3 : ((k : Int) : Int) < (n : Int)
 ·
  refine g_cond_t rfl (decide_eq_true hb3) ?_
  refine g_skip ?_
  refine g_then ?_
  refine g_seq ?_
  refine g_block ?_
  refine w_s ?_
  refine w_v (v := .pointer ((p).map fun q => q.add (k * 7))) (x_idxR k (H2.oldReads (k := 0) rfl hr) rfl rfl rfl Try.underlying47 sz52 (by omega)) ?_
  have hlq := (H2.oldReads (k := 0) rfl hr).lenL ddE
  obtain ⟨x4, hx4⟩ := ex_at (l := l) (j := k) (by omega)
  clear hlq
  refine w_v (v := .agg #[.int .i64 (x4.kd), .int .i64 (x4.pr), .int .i64 (x4.pc), .int .i64 (x4.bg), .int .i64 (x4.ln), .string (x4.dt), .bool x4.gd]) (x_loadRA (vs := ddL x4) k (H2.oldReads (k := 0) rfl hr) (by omega) rfl rfl Try.underlying52 rfl sz52 (by rfl) (ddE.flAt hx4)) ?_
  refine l_of (s_alloc H2 (wt0 rfl) rfl rfl rfl ze52 ?_)
  intro g5 wq6 H7
  refine l_of (w_st #[.int .i64 (x4.kd), .int .i64 (x4.pr), .int .i64 (x4.pc), .int .i64 (x4.bg), .int .i64 (x4.ln), .string (x4.dt), .bool x4.gd] H7 0 ?_)
  intro wq8 H9
  refine w_e ?_
  refine g_region ?_
  refine w_r2 ?_
  refine w_1 H9 0 ?_
  refine w_v (v := .int .i64 ((x4.dt.size : Int))) (x_lens rfl rfl Try.underlying9) ?_
  refine w_b (v := .int .i64 (IntKind.i64.wrap (z + (x4.dt.size : Int)))) (hb := (b_add rfl)) ?_
  refine w_a ?_
  refine g_nil ?_
  refine g_in ?_
  refine g_then ?_
  refine g_region ?_
  refine w_b (v := .int .i64 (((k + 1 : Nat) : Int))) (hb := (b_add (by rw [w64 (by omega)]; omega))) ?_
  refine w_m ?_
  refine w_e ?_
  refine g_round (i := (k, z)) ((k + 1), IntKind.i64.wrap (z + (x4.dt.size : Int))) ?_ ?_ ?_
  · exact ⟨rfl, rfl, rfl, rfl, rfl, trivial⟩
  · exact ⟨by omega, (H9.mask [false, true])⟩
  · (try dsimp only); omega
 ·
  refine g_cond_f rfl (decide_eq_false hb3) ?_
  refine g_exit ?_
  refine g_then_exit ?_
  refine g_then_exit ?_
  refine g_in_hit ?_
  refine g_then ?_
  refine w_s ?_
  refine w_m ?_
  refine w_v (v := .int .i64 ((n : Int))) (x_lenl rfl rfl Try.underlying47) ?_
  refine w_b ?_
  refine w_m ?_
  by_cases hb10 : ((n : Int) : Int) ≤ 120
  ·
   refine w_g (decide_eq_true hb10) xm ?_
   refine w_g (decide_eq_true hb10) (x_bin rfl rfl rfl b_leq) ?_
   refine w_v (v := .bool (decide ((z : Int) ≤ 5000))) (x_pick_t rfl rfl (decide_eq_true hb10) rfl) ?_
   refine w_a ?_
   refine w_e ?_
   refine g_weak [(2, .bool (decide ((z : Int) ≤ 5000)))] ⟨rfl, trivial⟩ ?_
   refine g_ret ?_
   refine fin_ret [.tmp 2] [.bool (decide ((z : Int) ≤ 5000))] rfl ⟨rfl, trivial⟩ ?_
   exact ⟨_, rfl, fun _ => by omega, H2.mask [true]⟩
  ·
   refine w_n (decide_eq_false hb10) ?_
   refine w_n (decide_eq_false hb10) ?_
   refine w_v (v := .bool false) (x_pick_f rfl rfl (decide_eq_false hb10) rfl) ?_
   refine w_a ?_
   refine w_e ?_
   refine g_weak [(2, .bool false)] ⟨rfl, trivial⟩ ?_
   refine g_ret ?_
   refine fin_ret [.tmp 2] [.bool false] rfl ⟨rfl, trivial⟩ ?_
   exact ⟨_, rfl, fun h => (by cases h), H2.mask [true]⟩
set_option maxRecDepth 20000 in
set_option maxHeartbeats 4000000 in
theorem same_s {X : BM} {Z : RM} {s : RSt} {A : BS} {g h : Nat} (hXo : X.ok) (hXb : X.b = g) (hXA : X.A = A) (hZo : Z.ok s) (hZb : Z.b = h) (hZA : Z.A = A) {p i : Int} (hok_p : okI p) (hok_i : okI i)  (w : World) (HS : S w [X.I, Z.I, stI s]) : Calls Try.prog 21 #[.pointer (some ⟨g, 0, none⟩), .pointer (some ⟨h, 0, none⟩), .int .i64 p, .int .i64 i] w fun e w' => e = .returned (.bool true) ∧ S w' ([X.I, Z.I, stI s] ++ [Old w (fps [X.I, Z.I, stI s])]) := by
 have H0 := HS.beginI
 refine enter 70 Try.func21 rfl rfl rfl ?_
 refine g_weak [(0, .pointer (some ⟨g, 0, none⟩)), (1, .pointer (some ⟨h, 0, none⟩)), (2, .int .i64 p), (3, .int .i64 i)] ⟨rfl, rfl, rfl, rfl, trivial⟩ ?_
 refine w_s ?_
 refine w_a ?_
 refine w_e ?_
 refine w_s ?_
 refine w_r2 ?_
 refine l_of (s_call (wt0 rfl) (x_call' rfl rfl cl10) (banned_g hXo hXb hXA hok_p rfl _ (H0.takes [0] (by decide))) ?_)
 rintro _ wq1 ⟨rfl, H2⟩
 replace H2 : S wq1 [X.I, Z.I, stI s, Old w (fps [X.I, Z.I, stI s])] := by have h := H0.absorbI [0] H2; exact h
 refine b_ret rfl rfl ?_
 refine w_r2 ?_
 refine l_of (s_call (wt0 rfl) (x_call' rfl rfl cl46) (rbanned_q hZo hZb hZA hok_p rfl _ (H2.takes [1, 2] (by decide))) ?_)
 rintro _ wq3 ⟨rfl, H4⟩
 replace H4 : S wq3 [Z.I, stI s, X.I, Old w (fps [X.I, Z.I, stI s])] := by have h := H2.absorbI [1, 2] H4; exact h
 refine b_ret rfl rfl ?_
 refine w_b (v := .bool (((A.bn p)) == ((A.bn p)))) (hb := (b_eqN Try.underlying4 rfl)) ?_
 refine w_m ?_
 refine w_g (beq_self_eq_true ((A.bn p))) xm ?_
 refine w_g (beq_self_eq_true ((A.bn p))) xm ?_
 refine l_of (s_call (wt1 rfl rfl rfl rfl (beq_self_eq_true ((A.bn p)))) (x_call' rfl rfl cl11) (parole_g hXo hXb hXA hok_p rfl _ (H4.takes [2] (by decide))) ?_)
 rintro _ wq5 ⟨rfl, H6⟩
 replace H6 : S wq5 [X.I, Z.I, stI s, Old w (fps [X.I, Z.I, stI s])] := by have h := H4.absorbI [2] H6; exact h
 refine b_ret rfl rfl ?_
 refine w_g (beq_self_eq_true ((A.bn p))) xm ?_
 refine w_g (beq_self_eq_true ((A.bn p))) xm ?_
 refine l_of (s_call (wt1 rfl rfl rfl rfl (beq_self_eq_true ((A.bn p)))) (x_call' rfl rfl cl47) (rparole_q hZo hZb hZA hok_p rfl _ (H6.takes [1, 2] (by decide))) ?_)
 rintro _ wq7 ⟨rfl, H8⟩
 replace H8 : S wq7 [Z.I, stI s, X.I, Old w (fps [X.I, Z.I, stI s])] := by have h := H6.absorbI [1, 2] H8; exact h
 refine b_ret rfl rfl ?_
 refine w_g (v := .bool (((A.par p)) == ((A.par p)))) (beq_self_eq_true ((A.bn p))) (x_bin rfl rfl rfl (b_eqN Try.underlying4 rfl)) ?_
 refine w_v (v := .bool (((A.par p)) == ((A.par p)))) (x_pick_t rfl rfl (beq_self_eq_true ((A.bn p))) rfl) ?_
 refine w_m ?_
 refine w_g (beq_self_eq_true ((A.par p))) xm ?_
 refine w_g (beq_self_eq_true ((A.par p))) xm ?_
 refine l_of (s_call (wt1 rfl rfl rfl rfl (beq_self_eq_true ((A.par p)))) (x_call' rfl rfl cl27) (score_g hXo hXb hXA hok_p rfl _ (H8.takes [2] (by decide))) ?_)
 rintro _ wq9 ⟨rfl, H10⟩
 replace H10 : S wq9 [X.I, Z.I, stI s, Old w (fps [X.I, Z.I, stI s])] := by have h := H8.absorbI [2] H10; exact h
 refine b_ret rfl rfl ?_
 refine w_g (beq_self_eq_true ((A.par p))) xm ?_
 refine w_g (beq_self_eq_true ((A.par p))) xm ?_
 refine l_of (s_call (wt1 rfl rfl rfl rfl (beq_self_eq_true ((A.par p)))) (x_call' rfl rfl cl48) (rscore_q hZo hZb hZA hok_p rfl _ (H10.takes [1, 2] (by decide))) ?_)
 rintro _ wq11 ⟨rfl, H12⟩
 replace H12 : S wq11 [Z.I, stI s, X.I, Old w (fps [X.I, Z.I, stI s])] := by have h := H10.absorbI [1, 2] H12; exact h
 refine b_ret rfl rfl ?_
 refine w_g (beq_self_eq_true ((A.par p))) (x_bin rfl rfl rfl b_eql) ?_
 refine w_v (v := .bool (decide (((A.sc p) : Int) = (A.sc p)))) (x_pick_t rfl rfl (beq_self_eq_true ((A.par p))) rfl) ?_
 refine w_m ?_
 refine w_g (decide_eq_true rfl) xm ?_
 refine w_g (decide_eq_true rfl) xm ?_
 refine w_g (decide_eq_true rfl) xm ?_
 refine l_of (s_call (wt1 rfl rfl rfl rfl (decide_eq_true rfl)) (x_call' rfl rfl cl17) (may_g hXo hXb hXA hok_p hok_i rfl _ (H12.takes [2] (by decide))) ?_)
 rintro _ wq13 ⟨rfl, H14⟩
 replace H14 : S wq13 [X.I, Z.I, stI s, Old w (fps [X.I, Z.I, stI s])] := by have h := H12.absorbI [2] H14; exact h
 refine b_ret rfl rfl ?_
 refine w_g (decide_eq_true rfl) xm ?_
 refine w_g (decide_eq_true rfl) xm ?_
 refine w_g (decide_eq_true rfl) xm ?_
 refine l_of (s_call (wt1 rfl rfl rfl rfl (decide_eq_true rfl)) (x_call' rfl rfl cl49) (rmay_q hZo hZb hZA hok_p hok_i rfl _ (H14.takes [1, 2] (by decide))) ?_)
 rintro _ wq15 ⟨rfl, H16⟩
 replace H16 : S wq15 [Z.I, stI s, X.I, Old w (fps [X.I, Z.I, stI s])] := by have h := H14.absorbI [1, 2] H16; exact h
 refine b_ret rfl rfl ?_
 refine w_g (v := .bool (((A.may p i)) == ((A.may p i)))) (decide_eq_true rfl) (x_bin rfl rfl rfl (b_eqN Try.underlying4 rfl)) ?_
 refine w_v (v := .bool (((A.may p i)) == ((A.may p i)))) (x_pick_t rfl rfl (decide_eq_true rfl) rfl) ?_
 refine w_m ?_
 refine w_g (beq_self_eq_true ((A.may p i))) xm ?_
 refine w_g (beq_self_eq_true ((A.may p i))) xm ?_
 refine l_of (s_call (wt1 rfl rfl rfl rfl (beq_self_eq_true ((A.may p i)))) (x_call' rfl rfl cl15) (senders_g hXo hXb hXA hok_i rfl _ (H16.takes [2] (by decide))) ?_)
 rintro _ wq19 ⟨p17, c18, rfl, H20⟩
 replace H20 : S wq19 [Rw 3 1 p17 (whoL (A.nw i)).length c18 (zV (whoL (A.nw i))), X.I, Z.I, stI s, Old w (fps [X.I, Z.I, stI s])] := by have h := H16.absorbI [2] H20; exact h
 refine b_ret rfl rfl ?_
 refine w_g (beq_self_eq_true ((A.may p i))) xm ?_
 refine w_g (beq_self_eq_true ((A.may p i))) xm ?_
 refine l_of (s_call (wt1 rfl rfl rfl rfl (beq_self_eq_true ((A.may p i)))) (x_call' rfl rfl cl50) (rsenders_q hZo hZb hZA hok_i rfl _ (H20.takes [2, 3] (by decide))) ?_)
 rintro _ wq23 ⟨p21, c22, rfl, H24⟩
 replace H24 : S wq23 [Rw 3 1 p21 ((whoL (A.nw i)).length) c22 (fl intL (whoL (A.nw i))), Z.I, stI s, Rw 3 1 p17 (whoL (A.nw i)).length c18 (zV (whoL (A.nw i))), X.I, Old w (fps [X.I, Z.I, stI s])] := by have h := H20.absorbI [2, 3] H24; exact h
 refine b_ret rfl rfl ?_
 refine l_of (s_call0 H24 (wt1 rfl rfl rfl rfl (beq_self_eq_true ((A.may p i)))) (x_call' rfl rfl cl41) (ints_s (whoL (A.nw i)) p17 ((whoL (A.nw i)).length) c18 p21 ((whoL (A.nw i)).length) c22 (who_le _ hXo hXA _) _ (by have h := H24.rwReads (k := 3) rfl; rwa [zV_fl] at h) (H24.rwReads (k := 0) rfl)) rfl rfl ?_)
 intro wq25 H26
 refine w_v (v := .bool true) (x_pick_t rfl rfl (beq_self_eq_true ((A.may p i))) rfl) ?_
 refine w_m ?_
 refine w_g rfl xm ?_
 refine w_g rfl xm ?_
 refine l_of (s_call (wt1 rfl rfl rfl rfl rfl) (x_call' rfl rfl cl28) (tries_g hXo hXb hXA hok_i rfl _ (H26.takes [4] (by decide))) ?_)
 rintro _ wq27 ⟨rfl, H28⟩
 replace H28 : S wq27 [X.I, Rw 3 1 p21 ((whoL (A.nw i)).length) c22 (fl intL (whoL (A.nw i))), Z.I, stI s, Rw 3 1 p17 (whoL (A.nw i)).length c18 (zV (whoL (A.nw i))), Old w (fps [X.I, Z.I, stI s])] := by have h := H26.absorbI [4] H28; exact h
 refine b_ret rfl rfl ?_
 refine w_g rfl xm ?_
 refine w_g rfl xm ?_
 refine l_of (s_call (wt1 rfl rfl rfl rfl rfl) (x_call' rfl rfl cl51) (rtries_q hZo hZb hZA hok_i rfl _ (H28.takes [2, 3] (by decide))) ?_)
 rintro _ wq29 ⟨rfl, H30⟩
 replace H30 : S wq29 [Z.I, stI s, X.I, Rw 3 1 p21 ((whoL (A.nw i)).length) c22 (fl intL (whoL (A.nw i))), Rw 3 1 p17 (whoL (A.nw i)).length c18 (zV (whoL (A.nw i))), Old w (fps [X.I, Z.I, stI s])] := by have h := H28.absorbI [2, 3] H30; exact h
 refine b_ret rfl rfl ?_
 refine w_g rfl (x_bin rfl rfl rfl b_eql) ?_
 refine w_v (v := .bool (decide ((((A.od i).length : Int) : Int) = ((A.od i).length : Int)))) (x_pick_t rfl rfl rfl rfl) ?_
 refine w_m ?_
 refine w_g (decide_eq_true rfl) xm ?_
 refine l_of (s_call (wt1 rfl rfl rfl rfl (decide_eq_true rfl)) (x_call' rfl rfl cl24) (bans_g hXo hXb hXA rfl _ (H30.takes [2] (by decide))) ?_)
 rintro _ wq33 ⟨p31, c32, rfl, H34⟩
 replace H34 : S wq33 [Rw 3 1 p31 (bansL A).length c32 (zV (bansL A)), X.I, Z.I, stI s, Rw 3 1 p21 ((whoL (A.nw i)).length) c22 (fl intL (whoL (A.nw i))), Rw 3 1 p17 (whoL (A.nw i)).length c18 (zV (whoL (A.nw i))), Old w (fps [X.I, Z.I, stI s])] := by have h := H30.absorbI [2] H34; exact h
 refine b_ret rfl rfl ?_
 refine w_g (decide_eq_true rfl) xm ?_
 refine l_of (s_call (wt1 rfl rfl rfl rfl (decide_eq_true rfl)) (x_call' rfl rfl cl52) (rbans_q hZo hZb hZA  rfl _ (H34.takes [2, 3] (by decide))) ?_)
 rintro _ wq37 ⟨p35, c36, rfl, H38⟩
 replace H38 : S wq37 [Rw 3 1 p35 ((bansL A).length) c36 (fl intL (bansL A)), Z.I, stI s, Rw 3 1 p31 (bansL A).length c32 (zV (bansL A)), X.I, Rw 3 1 p21 ((whoL (A.nw i)).length) c22 (fl intL (whoL (A.nw i))), Rw 3 1 p17 (whoL (A.nw i)).length c18 (zV (whoL (A.nw i))), Old w (fps [X.I, Z.I, stI s])] := by have h := H34.absorbI [2, 3] H38; exact h
 refine b_ret rfl rfl ?_
 refine l_of (s_call0 H38 (wt1 rfl rfl rfl rfl (decide_eq_true rfl)) (x_call' rfl rfl cl41) (ints_s (bansL A) p31 ((bansL A).length) c32 p35 ((bansL A).length) c36 (Nat.le_trans (bans_len _) (by decide)) _ (by have h := H38.rwReads (k := 3) rfl; rwa [zV_fl] at h) (H38.rwReads (k := 0) rfl)) rfl rfl ?_)
 intro wq39 H40
 refine w_v (v := .bool true) (x_pick_t rfl rfl (decide_eq_true rfl) rfl) ?_
 refine w_a ?_
 refine w_e ?_
 refine g_weak [(8, .bool true)] ⟨rfl, trivial⟩ ?_
 refine g_ret ?_
 refine fin_ret [.tmp 8] [.bool true] rfl ⟨rfl, trivial⟩ ?_
 exact ⟨rfl, H40.takes [4, 1, 2, 7] (by decide)⟩
theorem banM_grow {A : BS} {l : List Int} {p : Int} (h : A.bn p = true) : banM A l p = true := by unfold banM; rw [h]; rfl
theorem sentA_bn {A : BS} {p i bg ln : Int} {data : ByteArray} : (sentA A p i bg ln data).bn = A.bn := by unfold sentA; split <;> rfl
theorem failA_grow {A : BS} {i p : Int} (h : A.bn p = true) : (failA A i).bn p = true := by unfold failA; split <;> first | exact banM_grow h | exact h
theorem goodA_grow {A : BS} {i p : Int} (h : A.bn p = true) : (goodA A i).bn p = true := by unfold goodA; split <;> first | exact banM_grow h | exact h
theorem provA_grow {A : BS} {q i bg ln p : Int} {gd : Bool} (h : A.bn p = true) : (provA A q i bg ln gd).bn p = true := by unfold provA; split <;> first | exact banM_grow h | exact h
theorem dropA_bn {A : BS} {i : Int} : (dropA A i).bn = A.bn := by unfold dropA; split <;> rfl
theorem newR_len {A : BS} {l : List Int} (hl : l.length ≤ 100000) : (banL A l).length ≤ 9223372036854775807 := by
  unfold banL
  refine Nat.le_trans (List.length_filter_le ..) (Nat.le_trans (ascI_le l) (Nat.le_trans hl (by decide)))
theorem failR_len {X : BM} {A : BS} (hX : X.ok) (hA : X.A = A) (i : Int) : (failR A i).length ≤ 9223372036854775807 := by
  subst hA
  unfold failR
  split
  · refine newR_len (Nat.le_trans (m := 1001) ?_ (by decide))
    unfold failL
    split
    · exact (hX.1.tokN i).whoLen
    · exact Nat.zero_le _
  · exact Nat.zero_le _
theorem goodR_len {X : BM} {A : BS} (hX : X.ok) (hA : X.A = A) (i : Int) : (goodR A i).length ≤ 9223372036854775807 := by
  subst hA
  unfold goodR
  split
  · refine newR_len ?_
    have h2 := outL_len (right := X.A.nw i) (T := odA X.od X.ct i) fun t ht => by obtain ⟨x, hx, rfl⟩ := List.mem_map.1 ht; exact hX.1.tok x (hX.1.odIn hx)
    have h3 := hX.1.odLen i
    have h4 : (odA X.od X.ct i).length = (odR X.od i).length := List.length_map ..
    have h5 : (outL (X.A.nw i) (X.A.od i)).length ≤ 1001 * (odA X.od X.ct i).length := h2
    omega
  · exact Nat.zero_le _
set_option maxRecDepth 20000 in
set_option maxHeartbeats 4000000 in
theorem does_s {X : BM} {Z : RM} {s : RSt} {A : BS} {g h : Nat} (hXo : X.ok) (hXb : X.b = g) (hXA : X.A = A) (hZo : Z.ok s) (hZb : Z.b = h) (hZA : Z.A = A) {kd p i bg ln : Int} {data : ByteArray} {gd : Bool} (hok_p : okI p) (hok_i : okI i)  (w : World) (HS : S w [X.I, Z.I, stI s]) : Calls Try.prog 20 #[.pointer (some ⟨g, 0, none⟩), .pointer (some ⟨h, 0, none⟩), .agg #[.int .i64 kd, .int .i64 p, .int .i64 i, .int .i64 bg, .int .i64 ln, .string data, .bool gd]] w fun e w' => ∃ (X' : BM) (Z' : RM) (s' : RSt) (A' : BS), X'.ok ∧ X'.b = g ∧ X'.A = A' ∧ Z'.ok s' ∧ Z'.b = h ∧ Z'.A = A' ∧ s.le s' ∧ (∀ p, A.bn p = true → A'.bn p = true) ∧ e = .returned (.bool true) ∧ S w' ([X'.I, Z'.I, stI s'] ++ [Old w (fps [X.I, Z.I, stI s])]) := by
 have H0 := HS.beginI
 refine enter 135 Try.func20 rfl rfl rfl ?_
 refine g_weak [(0, .pointer (some ⟨g, 0, none⟩)), (1, .pointer (some ⟨h, 0, none⟩)), (2, .agg #[.int .i64 kd, .int .i64 p, .int .i64 i, .int .i64 bg, .int .i64 ln, .string data, .bool gd])] ⟨rfl, rfl, rfl, trivial⟩ ?_
 refine w_s ?_
 refine l_of (s_box H0 (wt0 rfl) rfl rfl rfl rfl ?_)
 intro g1 wq2 H3
 refine w_a ?_
 refine w_e ?_
 refine g_seq ?_
 refine w_s ?_
 refine w_f 0 ?_
 refine w_1 H3 0 ?_
 refine w_e ?_
 refine g_block ?_
 refine w_s ?_
 refine w_b ?_
 refine w_a ?_
 refine w_e ?_
 by_cases hb4 : (kd : Int) = 1
 ·
  refine g_cond_t rfl (decide_eq_true hb4) ?_
  refine w_s ?_
  refine w_r3 ?_
  refine w_1 H3 0 ?_
  refine l_of (s_call (wt0 rfl) (x_call' rfl rfl cl16) (fail_g (A' := (failA A i)) hXo hXb hXA hok_i rfl rfl rfl _ (H3.takes [1] (by decide))) ?_)
  rintro _ wq11 ⟨Y5, p9, c10, hYb6, hYo7, hYA8, rfl, H12⟩
  replace H12 : S wq11 [Rw 3 1 p9 (failR A i).length c10 (zV (failR A i)), Y5.I, Ob g1 (.cells #[.int .i64 kd, .int .i64 p, .int .i64 i, .int .i64 bg, .int .i64 ln, .string data, .bool gd] 52 (0, 0)), Z.I, stI s, Old w (fps [X.I, Z.I, stI s])] := by have h := H3.absorbI [1] H12; exact h
  refine b_ret rfl rfl ?_
  refine w_r5 ?_
  refine w_e ?_
  refine g_weak [(1, .pointer (some ⟨h, 0, none⟩)), (5, .pointer (some ⟨g1, 0, none⟩)), (7, .slice p9 (failR A i).length c10), (8, .int .i64 ((endE A i)))] ⟨rfl, rfl, rfl, rfl, trivial⟩ ?_
  refine w_s ?_
  refine w_r3 ?_
  refine w_1 H12 2 ?_
  refine l_of (s_call (wt0 rfl) (x_call' rfl rfl cl40) (rfail_q (A' := (failA A i)) hZo hZb hZA hok_i rfl rfl rfl _ (H12.takes [3, 4] (by decide))) ?_)
  rintro _ wq21 ⟨Z13, sto14, p19, c20, hZb15, hZo16, hle17, hZA18, rfl, H22⟩
  replace H22 : S wq21 [Rw 3 1 p19 ((failR A i).length) c20 (fl intL (failR A i)), Z13.I, stI sto14, Rw 3 1 p9 (failR A i).length c10 (zV (failR A i)), Y5.I, Ob g1 (.cells #[.int .i64 kd, .int .i64 p, .int .i64 i, .int .i64 bg, .int .i64 ln, .string data, .bool gd] 52 (0, 0)), Old w (fps [X.I, Z.I, stI s])] := by have h := H12.absorbI [3, 4] H22; exact h
  refine b_ret rfl rfl ?_
  refine w_r5 ?_
  refine w_e ?_
  refine w_s ?_
  refine w_r2 ?_
  refine l_of (s_call0 H22 (wt0 rfl) (x_call' rfl rfl cl41) (ints_s (failR A i) p9 ((failR A i).length) c10 p19 ((failR A i).length) c20 (failR_len hXo hXA _) _ (by have h := H22.rwReads (k := 3) rfl; rwa [zV_fl] at h) (H22.rwReads (k := 0) rfl)) rfl rfl ?_)
  intro wq23 H24
  refine w_m ?_
  refine w_g rfl xm ?_
  refine w_g rfl xm ?_
  refine w_g rfl (x_bin rfl rfl rfl b_eql) ?_
  refine w_v (v := .bool (decide (((endE A i) : Int) = (endE A i)))) (x_pick_t rfl rfl rfl rfl) ?_
  refine w_a ?_
  refine w_e ?_
  refine g_weak [(6, .bool (decide (((endE A i) : Int) = (endE A i))))] ⟨rfl, trivial⟩ ?_
  refine g_ret ?_
  refine g_in_ret ?_
  refine g_then_ret ?_
  refine fin_ret [.tmp 6] [.bool (decide (((endE A i) : Int) = (endE A i)))] rfl ⟨rfl, trivial⟩ ?_
  exact ⟨Y5, Z13, sto14, (failA A i), hYo7, hYb6, hYA8, hZo16, hZb15, hZA18, hle17, (fun p hp => failA_grow hp), (by show Ending.returned (.bool (decide _)) = _; rw [decide_eq_true rfl]), H24.takes [4, 1, 2, 6] (by decide)⟩
 ·
  refine g_cond_f rfl (decide_eq_false hb4) ?_
  refine w_s ?_
  refine w_b ?_
  refine w_a ?_
  refine w_e ?_
  by_cases hb25 : (kd : Int) = 2
  ·
   refine g_cond_t rfl (decide_eq_true hb25) ?_
   refine w_s ?_
   refine w_r3 ?_
   refine w_1 H3 0 ?_
   refine l_of (s_call (wt0 rfl) (x_call' rfl rfl cl25) (good_g (A' := (goodA A i)) hXo hXb hXA hok_i rfl rfl rfl _ (H3.takes [1] (by decide))) ?_)
   rintro _ wq32 ⟨Y26, p30, c31, hYb27, hYo28, hYA29, rfl, H33⟩
   replace H33 : S wq32 [Rw 3 1 p30 (goodR A i).length c31 (zV (goodR A i)), Y26.I, Ob g1 (.cells #[.int .i64 kd, .int .i64 p, .int .i64 i, .int .i64 bg, .int .i64 ln, .string data, .bool gd] 52 (0, 0)), Z.I, stI s, Old w (fps [X.I, Z.I, stI s])] := by have h := H3.absorbI [1] H33; exact h
   refine b_ret rfl rfl ?_
   refine w_r5 ?_
   refine w_e ?_
   refine g_weak [(1, .pointer (some ⟨h, 0, none⟩)), (5, .pointer (some ⟨g1, 0, none⟩)), (11, .slice p30 (goodR A i).length c31), (12, .int .i64 ((endE A i)))] ⟨rfl, rfl, rfl, rfl, trivial⟩ ?_
   refine w_s ?_
   refine w_r3 ?_
   refine w_1 H33 2 ?_
   refine l_of (s_call (wt0 rfl) (x_call' rfl rfl cl42) (rgood_q (A' := (goodA A i)) hZo hZb hZA hok_i rfl rfl rfl _ (H33.takes [3, 4] (by decide))) ?_)
   rintro _ wq42 ⟨Z34, sto35, p40, c41, hZb36, hZo37, hle38, hZA39, rfl, H43⟩
   replace H43 : S wq42 [Rw 3 1 p40 ((goodR A i).length) c41 (fl intL (goodR A i)), Z34.I, stI sto35, Rw 3 1 p30 (goodR A i).length c31 (zV (goodR A i)), Y26.I, Ob g1 (.cells #[.int .i64 kd, .int .i64 p, .int .i64 i, .int .i64 bg, .int .i64 ln, .string data, .bool gd] 52 (0, 0)), Old w (fps [X.I, Z.I, stI s])] := by have h := H33.absorbI [3, 4] H43; exact h
   refine b_ret rfl rfl ?_
   refine w_r5 ?_
   refine w_e ?_
   refine w_s ?_
   refine w_r2 ?_
   refine l_of (s_call0 H43 (wt0 rfl) (x_call' rfl rfl cl41) (ints_s (goodR A i) p30 ((goodR A i).length) c31 p40 ((goodR A i).length) c41 (goodR_len hXo hXA _) _ (by have h := H43.rwReads (k := 3) rfl; rwa [zV_fl] at h) (H43.rwReads (k := 0) rfl)) rfl rfl ?_)
   intro wq44 H45
   refine w_m ?_
   refine w_g rfl xm ?_
   refine w_g rfl xm ?_
   refine w_g rfl (x_bin rfl rfl rfl b_eql) ?_
   refine w_v (v := .bool (decide (((endE A i) : Int) = (endE A i)))) (x_pick_t rfl rfl rfl rfl) ?_
   refine w_a ?_
   refine w_e ?_
   refine g_weak [(6, .bool (decide (((endE A i) : Int) = (endE A i))))] ⟨rfl, trivial⟩ ?_
   refine g_ret ?_
   refine g_in_ret ?_
   refine g_then_ret ?_
   refine fin_ret [.tmp 6] [.bool (decide (((endE A i) : Int) = (endE A i)))] rfl ⟨rfl, trivial⟩ ?_
   exact ⟨Y26, Z34, sto35, (goodA A i), hYo28, hYb27, hYA29, hZo37, hZb36, hZA39, hle38, (fun p hp => goodA_grow hp), (by show Ending.returned (.bool (decide _)) = _; rw [decide_eq_true rfl]), H45.takes [4, 1, 2, 6] (by decide)⟩
  ·
   refine g_cond_f rfl (decide_eq_false hb25) ?_
   refine w_s ?_
   refine w_b ?_
   refine w_a ?_
   refine w_e ?_
   by_cases hb46 : (kd : Int) = 3
   ·
    refine g_cond_t rfl (decide_eq_true hb46) ?_
    refine w_s ?_
    refine w_r2 ?_
    refine w_1 H3 0 ?_
    refine w_f 2 ?_
    refine w_v (v := .agg #[.int .i64 i, .int .i64 bg, .int .i64 ln]) (x_loadA H3 0 rfl rfl Try.underlying37 rfl sz37 rfl rfl rfl) ?_
    refine w_f 6 ?_
    refine w_1 H3 0 ?_
    refine l_of (s_call (wt0 rfl) (x_call' rfl rfl cl14) (proved_g (A' := (provA A p i bg ln gd)) hXo hXb hXA hok_p hok_i rfl rfl rfl _ (H3.takes [1] (by decide))) ?_)
    rintro _ wq51 ⟨Y47, hYb48, hYo49, hYA50, rfl, H52⟩
    replace H52 : S wq51 [Y47.I, Ob g1 (.cells #[.int .i64 kd, .int .i64 p, .int .i64 i, .int .i64 bg, .int .i64 ln, .string data, .bool gd] 52 (0, 0)), Z.I, stI s, Old w (fps [X.I, Z.I, stI s])] := by have h := H3.absorbI [1] H52; exact h
    refine b_ret rfl rfl ?_
    refine w_r5 ?_
    refine w_e ?_
    refine g_weak [(1, .pointer (some ⟨h, 0, none⟩)), (5, .pointer (some ⟨g1, 0, none⟩)), (15, .bool ((provR A p i bg ln gd))), (16, .int .i64 ((provE A p i bg ln)))] ⟨rfl, rfl, rfl, rfl, trivial⟩ ?_
    refine w_s ?_
    refine w_r2 ?_
    refine w_1 H52 1 ?_
    refine w_f 2 ?_
    refine w_v (v := .agg #[.int .i64 i, .int .i64 bg, .int .i64 ln]) (x_loadA H52 1 rfl rfl Try.underlying37 rfl sz37 rfl rfl rfl) ?_
    refine w_f 6 ?_
    refine w_1 H52 1 ?_
    refine l_of (s_call (wt0 rfl) (x_call' rfl rfl cl43) (rproved_q (A' := (provA A p i bg ln gd)) hZo hZb hZA hok_p hok_i rfl rfl rfl _ (H52.takes [2, 3] (by decide))) ?_)
    rintro _ wq59 ⟨Z53, sto54, hZb55, hZo56, hle57, hZA58, rfl, H60⟩
    replace H60 : S wq59 [Z53.I, stI sto54, Y47.I, Ob g1 (.cells #[.int .i64 kd, .int .i64 p, .int .i64 i, .int .i64 bg, .int .i64 ln, .string data, .bool gd] 52 (0, 0)), Old w (fps [X.I, Z.I, stI s])] := by have h := H52.absorbI [2, 3] H60; exact h
    refine b_ret rfl rfl ?_
    refine w_r5 ?_
    refine w_e ?_
    refine g_weak [(15, .bool ((provR A p i bg ln gd))), (16, .int .i64 ((provE A p i bg ln))), (17, .bool ((provR A p i bg ln gd))), (18, .int .i64 ((provE A p i bg ln)))] ⟨rfl, rfl, rfl, rfl, trivial⟩ ?_
    refine w_s ?_
    refine w_r2 ?_
    refine w_b (v := .bool (((provR A p i bg ln gd)) == ((provR A p i bg ln gd)))) (hb := (b_eqN Try.underlying4 rfl)) ?_
    refine w_m ?_
    refine w_g (beq_self_eq_true ((provR A p i bg ln gd))) xm ?_
    refine w_g (beq_self_eq_true ((provR A p i bg ln gd))) xm ?_
    refine w_g (beq_self_eq_true ((provR A p i bg ln gd))) (x_bin rfl rfl rfl b_eql) ?_
    refine w_v (v := .bool (decide (((provE A p i bg ln) : Int) = (provE A p i bg ln)))) (x_pick_t rfl rfl (beq_self_eq_true ((provR A p i bg ln gd))) rfl) ?_
    refine w_a ?_
    refine w_e ?_
    refine g_weak [(6, .bool (decide (((provE A p i bg ln) : Int) = (provE A p i bg ln))))] ⟨rfl, trivial⟩ ?_
    refine g_ret ?_
    refine g_in_ret ?_
    refine g_then_ret ?_
    refine fin_ret [.tmp 6] [.bool (decide (((provE A p i bg ln) : Int) = (provE A p i bg ln)))] rfl ⟨rfl, trivial⟩ ?_
    exact ⟨Y47, Z53, sto54, (provA A p i bg ln gd), hYo49, hYb48, hYA50, hZo56, hZb55, hZA58, hle57, (fun p hp => provA_grow hp), (by show Ending.returned (.bool (decide _)) = _; rw [decide_eq_true rfl]), H60.takes [2, 0, 1, 4] (by decide)⟩
   ·
    refine g_cond_f rfl (decide_eq_false hb46) ?_
    refine w_s ?_
    refine w_b ?_
    refine w_a ?_
    refine w_e ?_
    by_cases hb61 : (kd : Int) = 4
    ·
     refine g_cond_t rfl (decide_eq_true hb61) ?_
     refine g_seq ?_
     refine g_any [] (fun wx => S wx [Ob g1 (.cells #[.int .i64 kd, .int .i64 p, .int .i64 i, .int .i64 bg, .int .i64 ln, .string data, .bool gd] 52 (0, 0))]) [] (by kernel_rfl) H3 (fun wq62 H63 => ?_)
     have cm1 := H63.mask [true, false, false, false, false]
     refine w_t 0 rfl cm1 (fun _ _ => xm) ?_
     refine w_t 1 rfl cm1 (fun _ _ => xf 2) ?_
     refine w_t 2 rfl cm1 (fun _ _ => xf 2) ?_
     refine w_t 3 rfl cm1 (fun _ H => xl H 0) ?_
     refine w_t 5 rfl cm1 (fun _ _ => xm) ?_
     refine w_t 6 rfl cm1 (fun _ _ => xf 2) ?_
     refine w_t 7 rfl cm1 (fun _ _ => xf 2) ?_
     refine w_t 8 rfl cm1 (fun _ H => xl H 0) ?_
     refine a_one (i := 4) (by kernel_rfl) rfl ?_
     refine s_call (wt0 rfl) (x_call' rfl rfl cl26) (drop_g (A' := (dropA A i)) hXo hXb hXA hok_i rfl rfl _ (H63.takes [1] (by decide))) ?_
     rintro _ wq68 ⟨Y64, hYb65, hYo66, hYA67, rfl, H69⟩
     replace H69 : S wq68 [Y64.I, Ob g1 (.cells #[.int .i64 kd, .int .i64 p, .int .i64 i, .int .i64 bg, .int .i64 ln, .string data, .bool gd] 52 (0, 0)), Z.I, stI s, Old w (fps [X.I, Z.I, stI s])] := by have h := H63.absorbI [1] H69; exact h
     refine b_ret rfl rfl ?_
     refine a_k (H69.mask [false, true, false, false, false]) ?_
     refine a_one (i := 9) (by kernel_rfl) rfl ?_
     refine s_call (wt0 rfl) (x_call' rfl rfl cl44) (rdrop_q (A' := (dropA A i)) hZo hZb hZA hok_i rfl rfl _ (H69.takes [2, 3] (by decide))) ?_
     rintro _ wq76 ⟨Z70, sto71, hZb72, hZo73, hle74, hZA75, rfl, H77⟩
     replace H77 : S wq76 [Z70.I, stI sto71, Y64.I, Ob g1 (.cells #[.int .i64 kd, .int .i64 p, .int .i64 i, .int .i64 bg, .int .i64 ln, .string data, .bool gd] 52 (0, 0)), Old w (fps [X.I, Z.I, stI s])] := by have h := H69.absorbI [2, 3] H77; exact h
     refine b_ret rfl rfl ?_
     have cm2 := H77.mask [false, false, false, true, false]
     refine a_k cm2 ?_
     refine w_t 10 rfl cm2 (fun _ _ => x_bin rfl rfl rfl b_eql) ?_
     refine w_t 11 rfl cm2 (fun _ _ => xa) ?_
     refine a_done (by kernel_rfl) ?_
     refine g_then ?_
     refine g_weak [(6, .bool (decide (((endE A i) : Int) = (endE A i))))] ⟨rfl, trivial⟩ ?_
     refine g_ret ?_
     refine g_in_ret ?_
     refine g_then_ret ?_
     refine fin_ret [.tmp 6] [.bool (decide (((endE A i) : Int) = (endE A i)))] rfl ⟨rfl, trivial⟩ ?_
     exact ⟨Y64, Z70, sto71, (dropA A i), hYo66, hYb65, hYA67, hZo73, hZb72, hZA75, hle74, (fun p hp => by rw [dropA_bn]; exact hp), (by show Ending.returned (.bool (decide _)) = _; rw [decide_eq_true rfl]), H77.takes [2, 0, 1, 4] (by decide)⟩
    ·
     refine g_cond_f rfl (decide_eq_false hb61) ?_
     refine g_skip ?_
     refine g_in ?_
     refine g_then ?_
     refine g_weak [(0, .pointer (some ⟨g, 0, none⟩)), (1, .pointer (some ⟨h, 0, none⟩)), (5, .pointer (some ⟨g1, 0, none⟩))] ⟨rfl, rfl, rfl, trivial⟩ ?_
     refine g_seq ?_
     refine g_any [] (fun wx => S wx [Ob g1 (.cells #[.int .i64 kd, .int .i64 p, .int .i64 i, .int .i64 bg, .int .i64 ln, .string data, .bool gd] 52 (0, 0))]) [] (by kernel_rfl) H3 (fun wq78 H79 => ?_)
     have cm3 := H79.mask [true, false, false, false, false]
     refine w_t 0 rfl cm3 (fun _ _ => xm) ?_
     refine w_t 1 rfl cm3 (fun _ _ => xf 1) ?_
     refine w_t 2 rfl cm3 (fun _ H => xl H 0) ?_
     refine w_t 3 rfl cm3 (fun _ _ => xf 2) ?_
     refine w_t (v := .agg #[.int .i64 i, .int .i64 bg, .int .i64 ln]) 4 rfl cm3 (fun _ H => x_loadA H 0 rfl rfl Try.underlying37 rfl sz37 rfl rfl rfl) ?_
     refine w_t 5 rfl cm3 (fun _ _ => xf 5) ?_
     refine w_t 6 rfl cm3 (fun _ H => xl H 0) ?_
     refine w_t 8 rfl cm3 (fun _ _ => xm) ?_
     refine w_t 9 rfl cm3 (fun _ _ => xf 1) ?_
     refine w_t 10 rfl cm3 (fun _ H => xl H 0) ?_
     refine w_t 11 rfl cm3 (fun _ _ => xf 2) ?_
     refine w_t (v := .agg #[.int .i64 i, .int .i64 bg, .int .i64 ln]) 12 rfl cm3 (fun _ H => x_loadA H 0 rfl rfl Try.underlying37 rfl sz37 rfl rfl rfl) ?_
     refine w_t 13 rfl cm3 (fun _ _ => xf 5) ?_
     refine w_t 14 rfl cm3 (fun _ H => xl H 0) ?_
     refine a_one (i := 7) (by kernel_rfl) rfl ?_
     refine s_call (wt0 rfl) (x_call' rfl rfl cl13) (sent_g (A' := (sentA A p i bg ln data)) hXo hXb hXA hok_p hok_i rfl rfl _ (H79.takes [1] (by decide))) ?_
     rintro _ wq84 ⟨Y80, hYb81, hYo82, hYA83, rfl, H85⟩
     replace H85 : S wq84 [Y80.I, Ob g1 (.cells #[.int .i64 kd, .int .i64 p, .int .i64 i, .int .i64 bg, .int .i64 ln, .string data, .bool gd] 52 (0, 0)), Z.I, stI s, Old w (fps [X.I, Z.I, stI s])] := by have h := H79.absorbI [1] H85; exact h
     refine b_ret rfl rfl ?_
     refine a_k (H85.mask [false, true, false, false, false]) ?_
     refine a_one (i := 15) (by kernel_rfl) rfl ?_
     refine s_call (wt0 rfl) (x_call' rfl rfl cl45) (rsent_q (A' := (sentA A p i bg ln data)) hZo hZb hZA hok_p hok_i rfl rfl _ (H85.takes [2, 3] (by decide))) ?_
     rintro _ wq92 ⟨Z86, sto87, hZb88, hZo89, hle90, hZA91, rfl, H93⟩
     replace H93 : S wq92 [Z86.I, stI sto87, Y80.I, Ob g1 (.cells #[.int .i64 kd, .int .i64 p, .int .i64 i, .int .i64 bg, .int .i64 ln, .string data, .bool gd] 52 (0, 0)), Old w (fps [X.I, Z.I, stI s])] := by have h := H85.absorbI [2, 3] H93; exact h
     refine b_ret rfl rfl ?_
     have cm4 := H93.mask [false, false, false, true, false]
     refine a_k cm4 ?_
     refine w_t 16 rfl cm4 (fun _ _ => x_bin rfl rfl rfl b_eql) ?_
     refine w_t 17 rfl cm4 (fun _ _ => xa) ?_
     refine a_done (by kernel_rfl) ?_
     refine g_then ?_
     refine g_weak [(6, .bool (decide (((sentE A p i bg ln data) : Int) = (sentE A p i bg ln data))))] ⟨rfl, trivial⟩ ?_
     refine g_ret ?_
     refine fin_ret [.tmp 6] [.bool (decide (((sentE A p i bg ln data) : Int) = (sentE A p i bg ln data)))] rfl ⟨rfl, trivial⟩ ?_
     exact ⟨Y80, Z86, sto87, (sentA A p i bg ln data), hYo82, hYb81, hYA83, hZo89, hZb88, hZA91, hle90, (fun p hp => by rw [sentA_bn]; exact hp), (by show Ending.returned (.bool (decide _)) = _; rw [decide_eq_true rfl]), H93.takes [2, 0, 1, 4] (by decide)⟩
end Go.Proofs.Ytlikhpfdncidkaa
