import Derived.Test.YtibdlnjnomikjaaFk
import Derived.Test.YtibdlnjnomikjaaTv
set_option linter.unusedSimpArgs false
set_option linter.unusedVariables false
namespace Go.Proofs.Ytibdlnjnomikjaa
open Go.RowKit

theorem sz52 : szO Try.prog 52 = some 5 := by kernel_rfl
theorem ze52 : zeO Try.prog 52 = some (.agg #[.int .i64 0, .int .i64 0, .int .i64 0, .int .i64 0, .string (⟨#[]⟩)]) := by kernel_rfl
structure Act where
  kind : Int
  later : Int
  iv : Int
  tier : Int
  name : ByteArray
def actL (a : Act) : List Value := [.int .i64 a.kind, .int .i64 a.later, .int .i64 a.iv, .int .i64 a.tier, .string a.name]
def actsV (l : List Act) : List Value := l.flatMap actL
theorem acts_at {l : List Act} {j : Nat} {a : Act} (h : l[j]? = some a) : ∀ i u, (actL a)[i]? = some u → (actsV l)[j * 5 + i]? = some u := flat_at (f := actL) (size := 5) (fun _ _ => rfl) h
def lightP (ls : List (Ro ByteArray)) (acs : List Act) : Prop := ls.length ≤ 25 ∧ (∀ r ∈ ls, r.l.length ≤ 25 ∧ ∀ s ∈ r.l, s.size ≤ 250) ∧ acs.length ≤ 100 ∧ ∀ a ∈ acs, a.name.size ≤ 250 ∧ a.later ≤ 10000000 ∧ -10000000 ≤ a.later
theorem take_all {α : Type} {P : α → Prop} {l : List α} {k : Nat} {x : α} (hk : l[k]? = some x) (h : ∀ y ∈ l.take k, P y) (hx : P x) : ∀ y ∈ l.take (k + 1), P y := by
  rw [take_snoc hk]; exact forall_snoc h hx
theorem all_take {α : Type} {P : α → Prop} {l : List α} {k : Nat} (hk : k = l.length) (h : ∀ y ∈ l.take k, P y) : ∀ y ∈ l, P y := by
  subst hk; rw [List.take_length] at h; exact h
set_option maxRecDepth 20000 in
set_option maxHeartbeats 4000000 in
theorem light_s (ls : List (Ro ByteArray)) (p : Option Addr) (n c : Nat) (hn : n = ls.length) (acs : List Act) (pa : Option Addr) (na ca : Nat) (hna : na = acs.length) (hn2 : n ≤ 9223372036854775807) (hna2 : na ≤ 9223372036854775807) (hln : ∀ r ∈ ls, r.l.length ≤ 9223372036854775807) (w : World) (hr : Reads w p n c 1 (rosV ls)) (hrs : ∀ r ∈ ls, Reads w r.p r.l.length r.c 1 (stV r.l)) (ha : Reads w pa na ca 5 (actsV acs)) : Calls Try.prog 7 #[.slice p n c, .slice pa na ca] w fun e w' => (lightP ls acs ∧ e = .returned (.bool true) ∧ S w' [Old w no]) ∨ (e = .returned (.bool false) ∧ S w' [Old w no]) := by
 have H0 := S.old w
 refine enter 60 Try.func7 rfl rfl rfl ?_
 refine g_weak [(0, .slice p n c), (1, .slice pa na ca)] ⟨rfl, rfl, trivial⟩ ?_
 refine w_s ?_
 refine w_a ?_
 refine w_e ?_
 refine g_seq ?_
 refine w_s ?_
 refine w_m ?_
 refine w_v (v := .int .i64 ((n : Int))) (x_lenl rfl rfl Try.underlying22) ?_
 refine w_b ?_
 refine w_m ?_
 by_cases hb1 : (25 : Int) < (n : Int)
 ·
  refine w_n (decide_eq_true hb1) ?_
  refine w_n (decide_eq_true hb1) ?_
  refine w_n (decide_eq_true hb1) ?_
  refine w_v (v := .bool true) (x_pick_t rfl rfl (decide_eq_true hb1) rfl) ?_
  refine w_e ?_
  refine g_cond_t rfl rfl ?_
  refine w_s ?_
  refine w_a ?_
  refine w_e ?_
  refine g_ret ?_
  refine g_then_ret ?_
  refine fin_ret [.tmp 4] [.bool false] rfl ⟨rfl, trivial⟩ ?_
  exact .inr ⟨rfl, H0.mask [true]⟩
 ·
  refine w_g (decide_eq_false hb1) xm ?_
  refine w_g (v := .int .i64 ((na : Int))) (decide_eq_false hb1) (x_lenl rfl rfl Try.underlying47) ?_
  refine w_g (decide_eq_false hb1) (x_bin rfl rfl rfl b_gtr) ?_
  refine w_v (v := .bool (decide ((100 : Int) < (na : Int)))) (x_pick_f rfl rfl (decide_eq_false hb1) rfl) ?_
  refine w_e ?_
  by_cases hb2 : (100 : Int) < (na : Int)
  ·
   refine g_cond_t rfl (decide_eq_true hb2) ?_
   refine w_s ?_
   refine w_a ?_
   refine w_e ?_
   refine g_ret ?_
   refine g_then_ret ?_
   refine fin_ret [.tmp 4] [.bool false] rfl ⟨rfl, trivial⟩ ?_
   exact .inr ⟨rfl, H0.mask [true]⟩
  ·
   refine g_cond_f rfl (decide_eq_false hb2) ?_
   refine g_skip ?_
   refine g_then ?_
   refine g_seq ?_
   refine w_s ?_
   refine w_m ?_
   refine w_v (v := .int .i64 ((n : Int))) (x_lenl rfl rfl Try.underlying22) ?_
   refine w_m ?_
   refine w_e ?_
   refine g_block ?_
   refine g_loop (ι := Nat) (fun i => [(1, .slice pa na ca), (19, .slice p n c), (20, .int .i64 ((n : Int))), (21, .int .i64 ((i : Int)))]) (fun i wx => (i ≤ n) ∧ (∀ r ∈ ls.take i, r.l.length ≤ 25 ∧ ∀ s ∈ r.l, s.size ≤ 250) ∧ S wx [Old w no]) (fun i => n - i) (0) ⟨rfl, rfl, rfl, rfl, trivial⟩ ⟨Nat.zero_le _, (fun r hr => by cases hr), H0⟩ ?_
   rintro i wq3 ⟨hi, hA, H4⟩
   refine g_weak [(1, .slice pa na ca), (19, .slice p n c), (20, .int .i64 ((n : Int))), (21, .int .i64 ((i : Int)))] ⟨rfl, rfl, rfl, rfl, trivial⟩ ?_
   refine w_s ?_
   refine w_b ?_
   refine w_e ?_
   refine g_seq ?_
   by_cases hb5 : ((i : Int) : Int) < (n : Int)
   ·
    obtain ⟨r, hrow⟩ : ∃ r, ls[i]? = some r := ⟨_, List.getElem?_eq_getElem (by omega)⟩
    refine g_cond_t rfl (decide_eq_true hb5) ?_
    refine g_skip ?_
    refine g_then ?_
    refine g_seq ?_
    refine g_block ?_
    refine w_s ?_
    refine w_v (v := .pointer ((p).map fun q => q.add (i * 1))) (x_idxR i (H4.oldReads (k := 0) rfl hr) rfl rfl rfl Try.underlying22 sz37 (by omega)) ?_
    refine w_v (v := .slice r.p r.l.length r.c) (x_loadR1 i (H4.oldReads (k := 0) rfl hr) (by omega) rfl rfl Try.underlying37 rfl (rosV_at hrow)) ?_
    refine w_a ?_
    refine w_e ?_
    refine g_seq ?_
    refine w_s ?_
    refine w_m ?_
    refine w_v (v := .int .i64 ((r.l.length : Int))) (x_lenl rfl rfl Try.underlying37) ?_
    refine w_b ?_
    refine w_e ?_
    by_cases hb6 : (25 : Int) < (r.l.length : Int)
    ·
     refine g_cond_t rfl (decide_eq_true hb6) ?_
     refine w_s ?_
     refine w_a ?_
     refine w_e ?_
     refine g_ret ?_
     refine g_then_ret ?_
     refine g_in_ret ?_
     refine g_then_ret ?_
     refine g_then_ret ?_
     refine g_in_ret ?_
     refine g_then_ret ?_
     refine fin_ret [.tmp 4] [.bool false] rfl ⟨rfl, trivial⟩ ?_
     exact .inr ⟨rfl, H4.mask [true]⟩
    ·
     refine g_cond_f rfl (decide_eq_false hb6) ?_
     refine g_skip ?_
     refine g_then ?_
     refine w_s ?_
     refine w_m ?_
     refine w_v (v := .int .i64 ((r.l.length : Int))) (x_lenl rfl rfl Try.underlying37) ?_
     refine w_m ?_
     refine w_e ?_
     refine g_block ?_
     refine g_loop (ι := Nat) (fun k => [(1, .slice pa na ca), (19, .slice p n c), (20, .int .i64 ((n : Int))), (21, .int .i64 ((i : Int))), (28, .slice r.p r.l.length r.c), (29, .int .i64 ((r.l.length : Int))), (30, .int .i64 ((k : Int)))]) (fun k wx => (k ≤ r.l.length) ∧ (∀ s ∈ r.l.take k, s.size ≤ 250) ∧ S wx [Old w no]) (fun k => r.l.length - k) (0) ⟨rfl, rfl, rfl, rfl, rfl, rfl, rfl, trivial⟩ ⟨Nat.zero_le _, (fun s hs => by cases hs), H4⟩ ?_
     rintro k wq7 ⟨hk, hB, H8⟩
     refine g_weak [(1, .slice pa na ca), (19, .slice p n c), (20, .int .i64 ((n : Int))), (21, .int .i64 ((i : Int))), (28, .slice r.p r.l.length r.c), (29, .int .i64 ((r.l.length : Int))), (30, .int .i64 ((k : Int)))] ⟨rfl, rfl, rfl, rfl, rfl, rfl, rfl, trivial⟩ ?_
     refine w_s ?_
     refine w_b ?_
     refine w_e ?_
     refine g_seq ?_
     by_cases hb9 : ((k : Int) : Int) < (r.l.length : Int)
     ·
      obtain ⟨s, hsk⟩ : ∃ s, r.l[k]? = some s := ⟨_, List.getElem?_eq_getElem (by omega)⟩
      refine g_cond_t rfl (decide_eq_true hb9) ?_
      refine g_skip ?_
      refine g_then ?_
      refine g_seq ?_
      refine g_block ?_
      refine w_s ?_
      refine w_v (v := .pointer ((r.p).map fun q => q.add (k * 1))) (x_idxR k (H8.oldReads (k := 0) rfl (hrs r (List.mem_of_getElem? hrow))) rfl rfl rfl Try.underlying37 sz9 (by omega)) ?_
      refine w_v (v := .string s) (x_loadR1 k (H8.oldReads (k := 0) rfl (hrs r (List.mem_of_getElem? hrow))) (by omega) rfl rfl Try.underlying9 rfl (stV_at hsk)) ?_
      refine w_a ?_
      refine w_e ?_
      refine w_s ?_
      refine w_m ?_
      refine w_v (v := .int .i64 ((s.size : Int))) (x_lens rfl rfl Try.underlying9) ?_
      refine w_b ?_
      refine w_e ?_
      by_cases hb10 : (250 : Int) < (s.size : Int)
      ·
       refine g_cond_t rfl (decide_eq_true hb10) ?_
       refine w_s ?_
       refine w_a ?_
       refine w_e ?_
       refine g_weak [(4, .bool false)] ⟨rfl, trivial⟩ ?_
       refine g_ret ?_
       refine g_in_ret ?_
       refine g_then_ret ?_
       refine g_then_ret ?_
       refine g_in_ret ?_
       refine g_in_ret ?_
       refine g_then_ret ?_
       refine g_then_ret ?_
       refine g_in_ret ?_
       refine g_then_ret ?_
       refine fin_ret [.tmp 4] [.bool false] rfl ⟨rfl, trivial⟩ ?_
       exact .inr ⟨rfl, H8.mask [true]⟩
      ·
       refine g_cond_f rfl (decide_eq_false hb10) ?_
       refine g_skip ?_
       refine g_in ?_
       refine g_then ?_
       refine g_region ?_
       refine w_b (v := .int .i64 (((k + 1 : Nat) : Int))) (hb := (b_add (by rw [w64 (by omega)]; omega))) ?_
       refine w_m ?_
       refine w_e ?_
       refine g_round (i := (k)) (k + 1) ?_ ?_ ?_
       · exact ⟨rfl, rfl, rfl, rfl, rfl, rfl, rfl, trivial⟩
       · exact ⟨by omega, (take_all hsk hB (by omega)), H8⟩
       · (try dsimp only); omega
     ·
      refine g_cond_f rfl (decide_eq_false hb9) ?_
      refine g_exit ?_
      refine g_then_exit ?_
      refine g_then_exit ?_
      refine g_in_hit ?_
      refine g_in ?_
      refine g_then ?_
      refine g_region ?_
      refine w_b (v := .int .i64 (((i + 1 : Nat) : Int))) (hb := (b_add (by rw [w64 (by omega)]; omega))) ?_
      refine w_m ?_
      refine w_e ?_
      refine g_round (i := (i)) (i + 1) ?_ ?_ ?_
      · exact ⟨rfl, rfl, rfl, rfl, trivial⟩
      · exact ⟨by omega, (take_all hrow hA ⟨by omega, all_take (by omega) hB⟩), H8⟩
      · (try dsimp only); omega
   ·
    refine g_cond_f rfl (decide_eq_false hb5) ?_
    refine g_exit ?_
    refine g_then_exit ?_
    refine g_then_exit ?_
    refine g_in_hit ?_
    refine g_then ?_
    refine g_seq ?_
    refine w_s ?_
    refine w_m ?_
    refine w_v (v := .int .i64 ((na : Int))) (x_lenl rfl rfl Try.underlying47) ?_
    refine w_m ?_
    refine w_e ?_
    refine g_block ?_
    refine g_loop (ι := Nat) (fun m => [(39, .slice pa na ca), (40, .int .i64 ((na : Int))), (41, .int .i64 ((m : Int)))]) (fun m wx => (m ≤ na) ∧ (∀ a ∈ acs.take m, a.name.size ≤ 250 ∧ a.later ≤ 10000000 ∧ -10000000 ≤ a.later) ∧ S wx [Old w no]) (fun m => na - m) (0) ⟨rfl, rfl, rfl, trivial⟩ ⟨Nat.zero_le _, (fun s hs => by cases hs), H4⟩ ?_
    rintro m wq11 ⟨hm, hC, H12⟩
    refine g_weak [(39, .slice pa na ca), (40, .int .i64 ((na : Int))), (41, .int .i64 ((m : Int)))] ⟨rfl, rfl, rfl, trivial⟩ ?_
    refine w_s ?_
    refine w_b ?_
    refine w_e ?_
    refine g_seq ?_
    by_cases hb13 : ((m : Int) : Int) < (na : Int)
    ·
     obtain ⟨a, hact⟩ : ∃ a, acs[m]? = some a := ⟨_, List.getElem?_eq_getElem (by omega)⟩
     refine g_cond_t rfl (decide_eq_true hb13) ?_
     refine g_skip ?_
     refine g_then ?_
     refine g_seq ?_
     refine g_block ?_
     refine w_s ?_
     refine w_v (v := .pointer ((pa).map fun q => q.add (m * 5))) (x_idxR m (H12.oldReads (k := 0) rfl ha) rfl rfl rfl Try.underlying47 sz52 (by omega)) ?_
     refine w_v (v := .agg #[.int .i64 (a.kind), .int .i64 (a.later), .int .i64 (a.iv), .int .i64 (a.tier), .string (a.name)]) (x_loadRA (vs := (actL a)) m (H12.oldReads (k := 0) rfl ha) (by omega) rfl rfl Try.underlying52 rfl sz52 (by rfl) (acts_at hact)) ?_
     refine l_of (s_alloc H12 (wt0 rfl) rfl rfl rfl ze52 ?_)
     intro g14 wq15 H16
     refine l_of (w_st #[.int .i64 (a.kind), .int .i64 (a.later), .int .i64 (a.iv), .int .i64 (a.tier), .string (a.name)] H16 0 ?_)
     intro wq17 H18
     refine w_e ?_
     refine w_s ?_
     refine w_f 4 ?_
     refine w_1 H18 0 ?_
     refine w_v (v := .int .i64 ((a.name.size : Int))) (x_lens rfl rfl Try.underlying9) ?_
     refine w_b ?_
     refine w_m ?_
     by_cases hb19 : (250 : Int) < (a.name.size : Int)
     ·
      refine w_n (decide_eq_true hb19) ?_
      refine w_n (decide_eq_true hb19) ?_
      refine w_n (decide_eq_true hb19) ?_
      refine w_v (v := .bool true) (x_pick_t rfl rfl (decide_eq_true hb19) rfl) ?_
      refine w_m ?_
      refine w_n rfl ?_
      refine w_n rfl ?_
      refine w_n rfl ?_
      refine w_v (v := .bool true) (x_pick_t rfl rfl rfl rfl) ?_
      refine w_e ?_
      refine g_weak [(39, .slice pa na ca), (40, .int .i64 ((na : Int))), (41, .int .i64 ((m : Int))), (58, .bool true)] ⟨rfl, rfl, rfl, rfl, trivial⟩ ?_
      refine g_cond_t rfl rfl ?_
      refine w_s ?_
      refine w_a ?_
      refine w_e ?_
      refine g_ret ?_
      refine g_in_ret ?_
      refine g_then_ret ?_
      refine g_then_ret ?_
      refine g_in_ret ?_
      refine g_then_ret ?_
      refine fin_ret [.tmp 4] [.bool false] rfl ⟨rfl, trivial⟩ ?_
      exact .inr ⟨rfl, H18.mask [false, true]⟩
     ·
      refine w_g (decide_eq_false hb19) (xf 1) ?_
      refine w_g (decide_eq_false hb19) (xl H18 0) ?_
      refine w_g (decide_eq_false hb19) (x_bin rfl rfl rfl b_gtr) ?_
      refine w_v (v := .bool (decide ((10000000 : Int) < a.later))) (x_pick_f rfl rfl (decide_eq_false hb19) rfl) ?_
      refine w_m ?_
      by_cases hb20 : (10000000 : Int) < a.later
      ·
       refine w_n (decide_eq_true hb20) ?_
       refine w_n (decide_eq_true hb20) ?_
       refine w_n (decide_eq_true hb20) ?_
       refine w_v (v := .bool true) (x_pick_t rfl rfl (decide_eq_true hb20) rfl) ?_
       refine w_e ?_
       refine g_weak [(39, .slice pa na ca), (40, .int .i64 ((na : Int))), (41, .int .i64 ((m : Int))), (58, .bool true)] ⟨rfl, rfl, rfl, rfl, trivial⟩ ?_
       refine g_cond_t rfl rfl ?_
       refine w_s ?_
       refine w_a ?_
       refine w_e ?_
       refine g_ret ?_
       refine g_in_ret ?_
       refine g_then_ret ?_
       refine g_then_ret ?_
       refine g_in_ret ?_
       refine g_then_ret ?_
       refine fin_ret [.tmp 4] [.bool false] rfl ⟨rfl, trivial⟩ ?_
       exact .inr ⟨rfl, H18.mask [false, true]⟩
      ·
       refine w_g (decide_eq_false hb20) (xf 1) ?_
       refine w_g (decide_eq_false hb20) (xl H18 0) ?_
       refine w_g (decide_eq_false hb20) (x_bin rfl rfl rfl b_lss) ?_
       refine w_v (v := .bool (decide ((a.later : Int) < -10000000))) (x_pick_f rfl rfl (decide_eq_false hb20) rfl) ?_
       refine w_e ?_
       refine g_weak [(39, .slice pa na ca), (40, .int .i64 ((na : Int))), (41, .int .i64 ((m : Int))), (58, .bool (decide ((a.later : Int) < -10000000)))] ⟨rfl, rfl, rfl, rfl, trivial⟩ ?_
       by_cases hb21 : (a.later : Int) < -10000000
       ·
        refine g_cond_t rfl (decide_eq_true hb21) ?_
        refine w_s ?_
        refine w_a ?_
        refine w_e ?_
        refine g_ret ?_
        refine g_in_ret ?_
        refine g_then_ret ?_
        refine g_then_ret ?_
        refine g_in_ret ?_
        refine g_then_ret ?_
        refine fin_ret [.tmp 4] [.bool false] rfl ⟨rfl, trivial⟩ ?_
        exact .inr ⟨rfl, H18.mask [false, true]⟩
       ·
        refine g_cond_f rfl (decide_eq_false hb21) ?_
        refine g_skip ?_
        refine g_in ?_
        refine g_then ?_
        refine g_region ?_
        refine w_b (v := .int .i64 (((m + 1 : Nat) : Int))) (hb := (b_add (by rw [w64 (by omega)]; omega))) ?_
        refine w_m ?_
        refine w_e ?_
        refine g_round (i := (m)) (m + 1) ?_ ?_ ?_
        · exact ⟨rfl, rfl, rfl, trivial⟩
        · exact ⟨by omega, (take_all hact hC (by omega)), (H18.mask [false, true])⟩
        · (try dsimp only); omega
    ·
     refine g_cond_f rfl (decide_eq_false hb13) ?_
     refine g_exit ?_
     refine g_then_exit ?_
     refine g_then_exit ?_
     refine g_in_hit ?_
     refine g_then ?_
     refine w_s ?_
     refine w_a ?_
     refine w_e ?_
     refine g_ret ?_
     refine fin_ret [.tmp 4] [.bool true] rfl ⟨rfl, trivial⟩ ?_
     exact .inl ⟨⟨by omega, all_take (by omega) hA, by omega, all_take (by omega) hC⟩, rfl, H12.mask [true]⟩
end Go.Proofs.Ytibdlnjnomikjaa
