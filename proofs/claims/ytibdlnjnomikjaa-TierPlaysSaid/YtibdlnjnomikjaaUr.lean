import Derived.Test.YtibdlnjnomikjaaFk
import Derived.Test.YtibdlnjnomikjaaUq
set_option linter.unusedSimpArgs false
set_option linter.unusedVariables false
namespace Go.Proofs.Ytibdlnjnomikjaa
open Go.RowKit

theorem cl19 : callable Try.prog 19 = true := by kernel_rfl
theorem cl20 : callable Try.prog 20 = true := by kernel_rfl
theorem cl21 : callable Try.prog 21 = true := by kernel_rfl
theorem cl7 : callable Try.prog 7 = true := by kernel_rfl
theorem cl8 : callable Try.prog 8 = true := by kernel_rfl
theorem cl9 : callable Try.prog 9 = true := by kernel_rfl
theorem actE : Enc 5 actL := ⟨by decide, fun _ => rfl, fun _ => rfl⟩
set_option maxRecDepth 20000 in
set_option maxHeartbeats 4000000 in
theorem plays_law (seed : ByteArray) (ls : List (Ro ByteArray)) (p : Option Addr) (c : Nat) (hm : ls.length ≤ 9223372036854775807) (hln : ∀ r ∈ ls, r.l.length ≤ 9223372036854775807) (whole : Bool) (acs : List Act) (pa : Option Addr) (ca : Nat) (hma : acs.length ≤ 9223372036854775807)  (w : World) (hr : Reads w p ls.length c 1 (fl rowL ls)) (hls : ∀ r ∈ ls, Reads w r.p r.l.length r.c 1 (fl strL r.l)) (ha : Reads w pa acs.length ca 5 (fl actL acs)) : Calls Try.prog 5 #[.string seed, .slice p ls.length c, .bool whole, .slice pa acs.length ca] w fun e w' => e = .returned (.bool true) ∧ S w' [Old w no] := by
 have H0 := S.old w
 refine enter 104 Try.func5 rfl rfl rfl ?_
 refine g_weak [(0, .string seed), (1, .slice p ls.length c), (2, .bool whole), (3, .slice pa acs.length ca)] ⟨rfl, rfl, rfl, rfl, trivial⟩ ?_
 refine w_s ?_
 refine w_a ?_
 refine w_e ?_
 refine g_seq ?_
 refine w_s ?_
 refine w_r2 ?_
 refine l_of (s_call (wt0 rfl) (x_call' rfl rfl cl7) (light_s ls p ls.length c rfl acs pa acs.length ca rfl hm hma hln _ (by rw [rosV_fl]; exact (H0.oldReads (k := 0) rfl hr)) (fun r h => by rw [stV_fl]; exact (H0.oldReads (k := 0) rfl (hls r h))) (H0.oldReads (k := 0) rfl ha)) ?_)
 rintro ee3 wq1 hor4
 rcases hor4 with ⟨hL9, rfl, H2⟩ | ⟨rfl, H2⟩
 ·
  replace H2 : S wq1 [Old w no] := H0.absorb (new := []) H2
  have hL1 := hL9.1
  have hL3 := hL9.2.2.1
  refine b_ret rfl rfl ?_
  refine w_v (v := .bool false) (x_not (b := true) rfl rfl) ?_
  refine w_m ?_
  refine w_g rfl xm ?_
  refine w_g (v := .int .i64 ((seed.size : Int))) rfl (x_lens rfl rfl Try.underlying9) ?_
  refine w_g rfl (x_bin rfl rfl rfl b_gtr) ?_
  refine w_v (v := .bool (decide ((200 : Int) < (seed.size : Int)))) (x_pick_f rfl rfl rfl rfl) ?_
  refine w_e ?_
  by_cases hb5 : (200 : Int) < (seed.size : Int)
  ·
   refine g_cond_t rfl (decide_eq_true hb5) ?_
   refine w_s ?_
   refine l_of (s_call0 H2 (wt0 rfl) (x_call' rfl rfl cl8) (awake_s _) rfl rfl ?_)
   intro wq6 H7
   refine w_a ?_
   refine w_e ?_
   refine g_weak [(8, .bool true)] ⟨rfl, trivial⟩ ?_
   refine g_ret ?_
   refine g_then_ret ?_
   refine fin_ret [.tmp 8] [.bool true] rfl ⟨rfl, trivial⟩ ?_
   exact ⟨rfl, H7.mask [true]⟩
  ·
   refine g_cond_f rfl (decide_eq_false hb5) ?_
   refine g_skip ?_
   refine g_then ?_
   refine w_s ?_
   refine w_r3 ?_
   refine l_of (s_call (wt0 rfl) (x_call' rfl rfl cl9) (new_x seed (by omega) ls p c (by omega) (fun r h => ⟨by have := (hL9.2.1 r h).1; omega, fun s hs => by have := (hL9.2.1 r h).2 s hs; omega⟩) whole _ (H2.oldReads (k := 0) rfl hr) (fun r h => (H2.oldReads (k := 0) rfl (hls r h)))) ?_)
   rintro ee13 wq11 hor14
   rcases hor14 with ⟨hbad, rfl, H12⟩ | ⟨Y8, hs9, hg9, hYo9, hYA10, rfl, H12⟩
   ·
    replace H12 : S wq11 [Old w no] := H2.absorb (new := []) H12
    refine b_ret rfl rfl ?_
    refine w_r5 ?_
    refine w_e ?_
    refine g_weak [(0, .string seed), (1, .slice p ls.length c), (2, .bool whole), (3, .slice pa acs.length ca), (9, .pointer none), (10, .int .i64 1)] ⟨rfl, rfl, rfl, rfl, rfl, rfl, trivial⟩ ?_
    refine w_s ?_
    refine w_r3 ?_
    refine l_of (s_call (wt0 rfl) (x_call' rfl rfl cl19) (new_rx seed (by omega) ls p c (by omega) (fun r h => ⟨by have := (hL9.2.1 r h).1; omega, fun s hs => by have := (hL9.2.1 r h).2 s hs; omega⟩) whole _ (H12.oldReads (k := 0) rfl hr) (fun r h => (H12.oldReads (k := 0) rfl (hls r h)))) ?_)
    rintro ee20 wq18 hor21
    rcases hor21 with ⟨hbad, rfl, H19⟩ | ⟨Y15, hs9, hg9, hYo16, hYA17, rfl, H19⟩
    ·
     replace H19 : S wq18 [Old w no] := H12.absorb (new := []) H19
     refine b_ret rfl rfl ?_
     refine w_r5 ?_
     refine w_e ?_
     refine g_seq ?_
     refine w_s ?_
     refine w_r2 ?_
     refine w_b (v := .bool (!decide ((1 : Int) = 1))) (hb := b_neq) ?_
     refine w_m ?_
     refine w_g (nf rfl) xm ?_
     refine w_g (v := .bool (!decide ((1 : Int) = 0))) (nf rfl) (x_bin rfl rfl rfl b_neq) ?_
     refine w_v (v := .bool (!decide ((1 : Int) = 0))) (x_pick_f rfl rfl (nf rfl) rfl) ?_
     refine w_e ?_
     refine g_weak [(3, .slice pa acs.length ca), (9, .pointer none), (10, .int .i64 1), (11, .pointer none), (12, .int .i64 1), (46, .bool (!decide ((1 : Int) = 0)))] ⟨rfl, rfl, rfl, rfl, rfl, rfl, trivial⟩ ?_
     refine g_cond_t rfl (by decide) ?_
     refine w_s ?_
     refine w_r2 ?_
     refine w_b ?_
     refine w_m ?_
     refine w_g (decide_eq_true rfl) xm ?_
     refine w_g (v := .bool true) (decide_eq_true rfl) (x_bin rfl rfl rfl (b_eqN (r := true) Try.underlying26 rfl)) ?_
     refine w_v (v := .bool true) (x_pick_t rfl rfl (decide_eq_true rfl) rfl) ?_
     refine w_m ?_
     refine l_of (s_call0 H19 (wt1 rfl rfl rfl rfl rfl) (x_call' rfl rfl cl8) (awake_s _) rfl rfl ?_)
     intro wq22 H23
     refine w_v (v := .bool true) (x_pick_t rfl rfl rfl rfl) ?_
     refine w_a ?_
     refine w_e ?_
     refine g_weak [(8, .bool true)] ⟨rfl, trivial⟩ ?_
     refine g_ret ?_
     refine g_then_ret ?_
     refine fin_ret [.tmp 8] [.bool true] rfl ⟨rfl, trivial⟩ ?_
     exact ⟨rfl, H23.mask [true]⟩
    ·
     exact absurd ⟨hs9, hg9⟩ hbad
   ·
    replace H12 : S wq11 [Y8.I, Old w no] := H2.absorb (new := [Y8.I]) H12
    refine b_ret rfl rfl ?_
    refine w_r5 ?_
    refine w_e ?_
    refine g_weak [(0, .string seed), (1, .slice p ls.length c), (2, .bool whole), (3, .slice pa acs.length ca), (9, .pointer (some ⟨Y8.g, 0, none⟩)), (10, .int .i64 0)] ⟨rfl, rfl, rfl, rfl, rfl, rfl, trivial⟩ ?_
    refine w_s ?_
    refine w_r3 ?_
    refine l_of (s_call (wt0 rfl) (x_call' rfl rfl cl19) (new_rx seed (by omega) ls p c (by omega) (fun r h => ⟨by have := (hL9.2.1 r h).1; omega, fun s hs => by have := (hL9.2.1 r h).2 s hs; omega⟩) whole _ (H12.oldReads (k := 1) rfl hr) (fun r h => (H12.oldReads (k := 1) rfl (hls r h)))) ?_)
    rintro ee29 wq27 hor30
    rcases hor30 with ⟨hbad, rfl, H28⟩ | ⟨Y24, hs9, hg9, hYo25, hYA26, rfl, H28⟩
    ·
     exact absurd ⟨hs9, hg9⟩ hbad
    ·
     replace H28 : S wq27 [Y24.I, Y8.I, Old w no] := H12.absorb (new := [Y24.I]) H28
     refine b_ret rfl rfl ?_
     refine w_r5 ?_
     refine w_e ?_
     refine g_seq ?_
     refine w_s ?_
     refine w_r2 ?_
     refine w_b (v := .bool (!decide ((0 : Int) = 0))) (hb := b_neq) ?_
     refine w_m ?_
     refine w_g (nf rfl) xm ?_
     refine w_g (v := .bool (!decide ((0 : Int) = 0))) (nf rfl) (x_bin rfl rfl rfl b_neq) ?_
     refine w_v (v := .bool (!decide ((0 : Int) = 0))) (x_pick_f rfl rfl (nf rfl) rfl) ?_
     refine w_e ?_
     refine g_weak [(3, .slice pa acs.length ca), (9, .pointer (some ⟨Y8.g, 0, none⟩)), (10, .int .i64 0), (11, .pointer (some ⟨Y24.g, 0, none⟩)), (12, .int .i64 0), (46, .bool (!decide ((0 : Int) = 0)))] ⟨rfl, rfl, rfl, rfl, rfl, rfl, trivial⟩ ?_
     refine g_cond_f rfl (nf rfl) ?_
     refine g_skip ?_
     refine g_then ?_
     refine w_s ?_
     refine w_a ?_
     refine w_e ?_
     refine g_seq ?_
     refine w_s ?_
     refine w_m ?_
     refine w_v (v := .int .i64 ((acs.length : Int))) (x_lenl rfl rfl Try.underlying47) ?_
     refine w_m ?_
     refine w_e ?_
     refine g_block ?_
     refine g_loop (ι := Nat × TM × RT × PS × Int) (fun (k, X, Z, A, now) => [(9, .pointer (some ⟨Y8.g, 0, none⟩)), (11, .pointer (some ⟨Y24.g, 0, none⟩)), (13, .int .i64 now), (57, .slice pa acs.length ca), (58, .int .i64 ((acs.length : Int))), (59, .int .i64 ((k : Int)))]) (fun (k, X, Z, A, now) wx => (k ≤ acs.length) ∧ (X.ok k) ∧ (X.g = Y8.g) ∧ (X.A = A) ∧ (PI k Z.A) ∧ (Z.g = Y24.g) ∧ (Z.A = A) ∧ (0 ≤ now ∧ now ≤ 1000000000) ∧ S wx [X.I, Z.I, Old w no]) (fun (k, X, Z, A, now) => acs.length - k) (0, Y8, Y24, (newA seed ls whole), 0) ⟨rfl, rfl, rfl, rfl, rfl, rfl, trivial⟩ ⟨Nat.zero_le _, hYo9, rfl, hYA10, hYo25, rfl, hYA26, ⟨Int.le_refl _, by decide⟩, (H28.takes [1, 0, 2] (by decide))⟩ ?_
     rintro ⟨k, X, Z, A, now⟩ wq31 ⟨hk, hXo, hXg, hXA, hZo, hZg, hZA, hnow, H32⟩
     refine g_weak [(9, .pointer (some ⟨Y8.g, 0, none⟩)), (11, .pointer (some ⟨Y24.g, 0, none⟩)), (13, .int .i64 now), (57, .slice pa acs.length ca), (58, .int .i64 ((acs.length : Int))), (59, .int .i64 ((k : Int)))] ⟨rfl, rfl, rfl, rfl, rfl, rfl, trivial⟩ ?_
     refine w_s ?_
     refine w_b ?_
     refine w_e ?_
     refine g_seq ?_
     by_cases hb33 : ((k : Int) : Int) < (acs.length : Int)
     ·
      refine g_cond_t rfl (decide_eq_true hb33) ?_
      refine g_skip ?_
      refine g_then ?_
      refine g_seq ?_
      refine g_block ?_
      refine w_s ?_
      refine w_v (v := .pointer ((pa).map fun q => q.add (k * 5))) (x_idxR k (H32.oldReads (k := 2) rfl ha) rfl rfl rfl Try.underlying47 sz52 (by omega)) ?_
      have hlq := (H32.oldReads (k := 2) rfl ha).lenL actE
      obtain ⟨x34, hx34⟩ := ex_at (l := acs) (j := k) (by omega)
      clear hlq
      have hltx34 := (hL9.2.2.2 x34 (List.mem_of_getElem? hx34)).2
      refine w_v (v := .agg #[.int .i64 (x34.kind), .int .i64 (x34.later), .int .i64 (x34.iv), .int .i64 (x34.tier), .string (x34.name)]) (x_loadRA (vs := actL x34) k (H32.oldReads (k := 2) rfl ha) (by omega) rfl rfl Try.underlying52 rfl sz52 (by rfl) (actE.flAt hx34)) ?_
      refine l_of (s_alloc H32 (wt0 rfl) rfl rfl rfl ze52 ?_)
      intro g35 wq36 H37
      refine l_of (w_st #[.int .i64 (x34.kind), .int .i64 (x34.later), .int .i64 (x34.iv), .int .i64 (x34.tier), .string (x34.name)] H37 0 ?_)
      intro wq38 H39
      refine w_e ?_
      refine g_seq ?_
      refine w_s ?_
      refine w_r4 ?_
      refine w_1 H39 0 ?_
      refine w_b (v := .int .i64 (now + x34.later)) (hb := (b_add (w64 (by omega)))) ?_
      refine w_v (v := .agg #[.int .i64 (x34.kind), .int .i64 (x34.later), .int .i64 (x34.iv), .int .i64 (x34.tier), .string (x34.name)]) (x_loadA H39 0 rfl rfl Try.underlying52 rfl sz52 rfl rfl rfl) ?_
      refine l_of (s_call (wt0 rfl) (x_call' rfl rfl cl20) (do_s (n := (now + x34.later)) (kd := x34.kind) (lt := x34.later) (iv := x34.iv) (tr := x34.tier) (s := x34.name) hXo hXg hXA hZo hZg hZA (by omega) _ (H39.takes [1, 2] (by decide))) ?_)
      rintro _ wq49 ⟨X40, Z41, A42, hXg43, hXo44, hXA45, hZg46, hZo47, hZA48, rfl, H50⟩
      replace H50 : S wq49 [X40.I, Z41.I, Ob g35 (.cells #[.int .i64 (x34.kind), .int .i64 (x34.later), .int .i64 (x34.iv), .int .i64 (x34.tier), .string (x34.name)] 52 (0, 0)), Old w no] := by have h := H39.absorbI [1, 2] H50; exact h
      refine b_ret rfl rfl ?_
      refine w_v (v := .bool false) (x_not (b := true) rfl rfl) ?_
      refine w_m ?_
      refine w_g rfl xm ?_
      refine w_g rfl xm ?_
      refine l_of (s_call (wt1 rfl rfl rfl rfl rfl) (x_call' rfl rfl cl21) (alike_s hXo44 hXg43 hXA45 hZo47 hZg46 hZA48 _ (H50.takes [0, 1] (by decide))) ?_)
      rintro _ wq51 ⟨rfl, H52⟩
      replace H52 : S wq51 [X40.I, Z41.I, Ob g35 (.cells #[.int .i64 (x34.kind), .int .i64 (x34.later), .int .i64 (x34.iv), .int .i64 (x34.tier), .string (x34.name)] 52 (0, 0)), Old w no] := by have h := H50.absorbI [0, 1] H52; exact h
      refine b_ret rfl rfl ?_
      refine w_g (v := .bool false) rfl (x_not (b := true) rfl rfl) ?_
      refine w_v (v := .bool false) (x_pick_f rfl rfl rfl rfl) ?_
      refine w_e ?_
      refine g_weak [(9, .pointer (some ⟨Y8.g, 0, none⟩)), (11, .pointer (some ⟨Y24.g, 0, none⟩)), (13, .int .i64 now), (15, .pointer (some ⟨g35, 0, none⟩)), (57, .slice pa acs.length ca), (58, .int .i64 ((acs.length : Int))), (59, .int .i64 ((k : Int))), (77, .bool false)] ⟨rfl, rfl, rfl, rfl, rfl, rfl, rfl, rfl, trivial⟩ ?_
      refine g_cond_f rfl rfl ?_
      refine g_skip ?_
      refine g_then ?_
      refine w_s ?_
      refine w_f 1 ?_
      refine w_1 H52 2 ?_
      refine w_b ?_
      refine w_m ?_
      by_cases hb53 : (0 : Int) < x34.later
      ·
       refine w_g (decide_eq_true hb53) xm ?_
       refine w_g (decide_eq_true hb53) (xf 1) ?_
       refine w_g (decide_eq_true hb53) (xl H52 2) ?_
       refine w_g (v := .int .i64 (now + x34.later)) (decide_eq_true hb53) (x_bin rfl rfl rfl (b_add (w64 (by omega)))) ?_
       refine w_g (decide_eq_true hb53) (x_bin rfl rfl rfl b_leq) ?_
       refine w_v (v := .bool (decide ((now + x34.later : Int) ≤ 1000000000))) (x_pick_t rfl rfl (decide_eq_true hb53) rfl) ?_
       refine w_m ?_
       by_cases hb54 : (now + x34.later : Int) ≤ 1000000000
       ·
        refine w_g (decide_eq_true hb54) (xf 0) ?_
        refine w_g (decide_eq_true hb54) (xl H52 2) ?_
        refine w_g (decide_eq_true hb54) (x_bin rfl rfl rfl b_lss) ?_
        refine w_g (decide_eq_true hb54) xm ?_
        by_cases hb55 : (x34.kind : Int) < 6
        ·
         refine w_n (decide_eq_true hb55) ?_
         refine w_n (decide_eq_true hb55) ?_
         refine w_n (decide_eq_true hb55) ?_
         refine w_g (v := .bool true) (decide_eq_true hb54) (x_pick_t rfl rfl (decide_eq_true hb55) rfl) ?_
         refine w_v (v := .bool true) (x_pick_t rfl rfl (decide_eq_true hb54) rfl) ?_
         refine w_e ?_
         refine g_weak [(9, .pointer (some ⟨Y8.g, 0, none⟩)), (11, .pointer (some ⟨Y24.g, 0, none⟩)), (13, .int .i64 now), (15, .pointer (some ⟨g35, 0, none⟩)), (57, .slice pa acs.length ca), (58, .int .i64 ((acs.length : Int))), (59, .int .i64 ((k : Int))), (97, .bool true)] ⟨rfl, rfl, rfl, rfl, rfl, rfl, rfl, rfl, trivial⟩ ?_
         refine g_cond_t rfl rfl ?_
         refine g_region ?_
         refine w_r2 ?_
         refine w_1 H52 2 ?_
         refine w_b (v := .int .i64 (now + x34.later)) (hb := (b_add (w64 (by omega)))) ?_
         refine w_a ?_
         refine g_nil ?_
         refine g_in ?_
         refine g_then ?_
         refine g_region ?_
         refine w_b (v := .int .i64 (((k + 1 : Nat) : Int))) (hb := (b_add (by rw [w64 (by omega)]; omega))) ?_
         refine w_m ?_
         refine w_e ?_
         refine g_round (i := (k, X, Z, A, now)) ((k + 1), X40, Z41, A42, now + x34.later) ?_ ?_ ?_
         · exact ⟨rfl, rfl, rfl, rfl, rfl, rfl, trivial⟩
         · exact ⟨by omega, hXo44, hXg43, hXA45, hZo47, hZg46, hZA48, (by omega), (H52.takes [0, 1, 3] (by decide))⟩
         · (try dsimp only); omega
        ·
         refine w_g (decide_eq_false hb55) (xf 0) ?_
         refine w_g (decide_eq_false hb55) (xl H52 2) ?_
         refine w_g (decide_eq_false hb55) (x_bin rfl rfl rfl b_gtr) ?_
         refine w_g (v := .bool (decide ((9 : Int) < x34.kind))) (decide_eq_true hb54) (x_pick_f rfl rfl (decide_eq_false hb55) rfl) ?_
         refine w_v (v := .bool (decide ((9 : Int) < x34.kind))) (x_pick_t rfl rfl (decide_eq_true hb54) rfl) ?_
         refine w_e ?_
         refine g_weak [(9, .pointer (some ⟨Y8.g, 0, none⟩)), (11, .pointer (some ⟨Y24.g, 0, none⟩)), (13, .int .i64 now), (15, .pointer (some ⟨g35, 0, none⟩)), (57, .slice pa acs.length ca), (58, .int .i64 ((acs.length : Int))), (59, .int .i64 ((k : Int))), (97, .bool (decide ((9 : Int) < x34.kind)))] ⟨rfl, rfl, rfl, rfl, rfl, rfl, rfl, rfl, trivial⟩ ?_
         by_cases hb56 : (9 : Int) < x34.kind
         ·
          refine g_cond_t rfl (decide_eq_true hb56) ?_
          refine g_region ?_
          refine w_r2 ?_
          refine w_1 H52 2 ?_
          refine w_b (v := .int .i64 (now + x34.later)) (hb := (b_add (w64 (by omega)))) ?_
          refine w_a ?_
          refine g_nil ?_
          refine g_in ?_
          refine g_then ?_
          refine g_region ?_
          refine w_b (v := .int .i64 (((k + 1 : Nat) : Int))) (hb := (b_add (by rw [w64 (by omega)]; omega))) ?_
          refine w_m ?_
          refine w_e ?_
          refine g_round (i := (k, X, Z, A, now)) ((k + 1), X40, Z41, A42, now + x34.later) ?_ ?_ ?_
          · exact ⟨rfl, rfl, rfl, rfl, rfl, rfl, trivial⟩
          · exact ⟨by omega, hXo44, hXg43, hXA45, hZo47, hZg46, hZA48, (by omega), (H52.takes [0, 1, 3] (by decide))⟩
          · (try dsimp only); omega
         ·
          refine g_cond_f rfl (decide_eq_false hb56) ?_
          refine g_skip ?_
          refine g_in ?_
          refine g_then ?_
          refine g_region ?_
          refine w_b (v := .int .i64 (((k + 1 : Nat) : Int))) (hb := (b_add (by rw [w64 (by omega)]; omega))) ?_
          refine w_m ?_
          refine w_e ?_
          refine g_round (i := (k, X, Z, A, now)) ((k + 1), X40, Z41, A42, now) ?_ ?_ ?_
          · exact ⟨rfl, rfl, rfl, rfl, rfl, rfl, trivial⟩
          · exact ⟨by omega, hXo44, hXg43, hXA45, hZo47, hZg46, hZA48, (by omega), (H52.takes [0, 1, 3] (by decide))⟩
          · (try dsimp only); omega
       ·
        refine w_n (decide_eq_false hb54) ?_
        refine w_n (decide_eq_false hb54) ?_
        refine w_n (decide_eq_false hb54) ?_
        refine w_n (decide_eq_false hb54) ?_
        refine l_of (s_not (wn2 rfl rfl rfl rfl) rfl rfl ?_)
        refine l_of (s_not (wn2 rfl rfl rfl rfl) rfl rfl ?_)
        refine l_of (s_not (wn2 rfl rfl rfl rfl) rfl rfl ?_)
        refine w_n (decide_eq_false hb54) ?_
        refine w_v (v := .bool false) (x_pick_f rfl rfl (decide_eq_false hb54) rfl) ?_
        refine w_e ?_
        refine g_weak [(9, .pointer (some ⟨Y8.g, 0, none⟩)), (11, .pointer (some ⟨Y24.g, 0, none⟩)), (13, .int .i64 now), (15, .pointer (some ⟨g35, 0, none⟩)), (57, .slice pa acs.length ca), (58, .int .i64 ((acs.length : Int))), (59, .int .i64 ((k : Int))), (97, .bool false)] ⟨rfl, rfl, rfl, rfl, rfl, rfl, rfl, rfl, trivial⟩ ?_
        refine g_cond_f rfl rfl ?_
        refine g_skip ?_
        refine g_in ?_
        refine g_then ?_
        refine g_region ?_
        refine w_b (v := .int .i64 (((k + 1 : Nat) : Int))) (hb := (b_add (by rw [w64 (by omega)]; omega))) ?_
        refine w_m ?_
        refine w_e ?_
        refine g_round (i := (k, X, Z, A, now)) ((k + 1), X40, Z41, A42, now) ?_ ?_ ?_
        · exact ⟨rfl, rfl, rfl, rfl, rfl, rfl, trivial⟩
        · exact ⟨by omega, hXo44, hXg43, hXA45, hZo47, hZg46, hZA48, (by omega), (H52.takes [0, 1, 3] (by decide))⟩
        · (try dsimp only); omega
      ·
       refine w_n (decide_eq_false hb53) ?_
       refine w_n (decide_eq_false hb53) ?_
       refine w_n (decide_eq_false hb53) ?_
       refine w_n (decide_eq_false hb53) ?_
       refine w_n (decide_eq_false hb53) ?_
       refine w_v (v := .bool false) (x_pick_f rfl rfl (decide_eq_false hb53) rfl) ?_
       refine w_m ?_
       refine w_n rfl ?_
       refine w_n rfl ?_
       refine w_n rfl ?_
       refine w_n rfl ?_
       refine l_of (s_not (wn2 rfl rfl rfl rfl) rfl rfl ?_)
       refine l_of (s_not (wn2 rfl rfl rfl rfl) rfl rfl ?_)
       refine l_of (s_not (wn2 rfl rfl rfl rfl) rfl rfl ?_)
       refine w_n rfl ?_
       refine w_v (v := .bool false) (x_pick_f rfl rfl rfl rfl) ?_
       refine w_e ?_
       refine g_weak [(9, .pointer (some ⟨Y8.g, 0, none⟩)), (11, .pointer (some ⟨Y24.g, 0, none⟩)), (13, .int .i64 now), (15, .pointer (some ⟨g35, 0, none⟩)), (57, .slice pa acs.length ca), (58, .int .i64 ((acs.length : Int))), (59, .int .i64 ((k : Int))), (97, .bool false)] ⟨rfl, rfl, rfl, rfl, rfl, rfl, rfl, rfl, trivial⟩ ?_
       refine g_cond_f rfl rfl ?_
       refine g_skip ?_
       refine g_in ?_
       refine g_then ?_
       refine g_region ?_
       refine w_b (v := .int .i64 (((k + 1 : Nat) : Int))) (hb := (b_add (by rw [w64 (by omega)]; omega))) ?_
       refine w_m ?_
       refine w_e ?_
       refine g_round (i := (k, X, Z, A, now)) ((k + 1), X40, Z41, A42, now) ?_ ?_ ?_
       · exact ⟨rfl, rfl, rfl, rfl, rfl, rfl, trivial⟩
       · exact ⟨by omega, hXo44, hXg43, hXA45, hZo47, hZg46, hZA48, (by omega), (H52.takes [0, 1, 3] (by decide))⟩
       · (try dsimp only); omega
     ·
      refine g_cond_f rfl (decide_eq_false hb33) ?_
      refine g_exit ?_
      refine g_then_exit ?_
      refine g_then_exit ?_
      refine g_in_hit ?_
      refine g_then ?_
      refine w_s ?_
      refine l_of (s_call0 H32 (wt0 rfl) (x_call' rfl rfl cl8) (awake_s _) rfl rfl ?_)
      intro wq57 H58
      refine w_a ?_
      refine w_e ?_
      refine g_ret ?_
      refine fin_ret [.tmp 8] [.bool true] rfl ⟨rfl, trivial⟩ ?_
      exact ⟨rfl, H58.mask [false, false, true]⟩
 ·
  replace H2 : S wq1 [Old w no] := H0.absorb (new := []) H2
  refine b_ret rfl rfl ?_
  refine w_v (v := .bool true) (x_not (b := false) rfl rfl) ?_
  refine w_m ?_
  refine w_n rfl ?_
  refine w_n rfl ?_
  refine w_n rfl ?_
  refine w_v (v := .bool true) (x_pick_t rfl rfl rfl rfl) ?_
  refine w_e ?_
  refine g_cond_t rfl rfl ?_
  refine w_s ?_
  refine l_of (s_call0 H2 (wt0 rfl) (x_call' rfl rfl cl8) (awake_s _) rfl rfl ?_)
  intro wq59 H60
  refine w_a ?_
  refine w_e ?_
  refine g_weak [(8, .bool true)] ⟨rfl, trivial⟩ ?_
  refine g_ret ?_
  refine g_then_ret ?_
  refine fin_ret [.tmp 8] [.bool true] rfl ⟨rfl, trivial⟩ ?_
  exact ⟨rfl, H60.mask [true]⟩
end Go.Proofs.Ytibdlnjnomikjaa
