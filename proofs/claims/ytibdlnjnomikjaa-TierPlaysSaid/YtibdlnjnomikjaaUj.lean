import Derived.Test.YtibdlnjnomikjaaFk
import Derived.Test.YtibdlnjnomikjaaUh
import Derived.Test.YtibdlnjnomikjaaTu
import Derived.Test.YtibdlnjnomikjaaGt
set_option linter.unusedSimpArgs false
set_option linter.unusedVariables false
namespace Go.Proofs.Ytibdlnjnomikjaa
open Go.RowKit

theorem ze4 : zeO Try.prog 4 = some (.bool false) := by kernel_rfl
theorem look_B2 (x : Option Bool) : (x.map Value.bool).getD (.bool false) = .bool (x.getD false) := by cases x <;> rfl
noncomputable instance goodDec (l : List (List ByteArray)) : Decidable (goodL l) := Classical.propDecidable _
/-- What is met: the names of these lists. -/
structure Met (l : List ByteArray) (M : ByteArray → Option Bool) : Prop where
  nodup : l.Nodup
  text : ∀ s ∈ l, textS s = true
  map : ∀ s, (M s).getD false = true ↔ s ∈ l
theorem Met.nil : Met [] (fun _ => none) := ⟨.nil, fun s h => (by cases h), fun s => by simp⟩
theorem Met.step {l : List ByteArray} {M : ByteArray → Option Bool} {s : ByteArray} (h : Met l M) (ht : textS s = true) (hm : (M s).getD false = false) : Met (l ++ [s]) (upM M s true) := by
  have hn : s ∉ l := fun hs => by rw [(h.map s).2 hs] at hm; cases hm
  refine ⟨List.nodup_append.2 ⟨h.nodup, by simp, ?_⟩, ?_, ?_⟩
  · intro a ha b hb e
    rw [List.mem_singleton] at hb
    exact hn (by rw [← hb, ← e]; exact ha)
  · intro a ha
    rcases List.mem_append.1 ha with ha | ha
    · exact h.text a ha
    · rw [List.mem_singleton] at ha; rw [ha]; exact ht
  · intro a
    by_cases e : a = s
    · subst e; simp [upM]
    · have : upM M s true a = M a := if_neg e
      rw [this, h.map a]; simp [e]
def namesL (ls : List (Ro ByteArray)) (i : Nat) (l : List ByteArray) (k : Nat) : List ByteArray := ((tlsOf ls).take i).flatten ++ l.take k
theorem namesL_next {ls : List (Ro ByteArray)} {i k : Nat} {l : List ByteArray} {s : ByteArray} (h : l[k]? = some s) : namesL ls i l (k + 1) = namesL ls i l k ++ [s] := by
  unfold namesL; rw [take_snoc h, List.append_assoc]
theorem namesL_row {ls : List (Ro ByteArray)} {i k : Nat} {r : Ro ByteArray} (h : ls[i]? = some r) (hk : r.l.length ≤ k) : ((tlsOf ls).take (i + 1)).flatten = namesL ls i r.l k := by
  unfold namesL tlsOf
  have h2 : (ls.map (·.l))[i]? = some r.l := by rw [List.getElem?_map, h]; rfl
  rw [take_snoc h2, List.flatten_append, List.take_of_length_le hk]; simp
theorem bad_row {ls : List (Ro ByteArray)} {i : Nat} {r : Ro ByteArray} (h : ls[i]? = some r) (hr : r.l.length < 1 ∨ 20 < r.l.length) : ¬ goodL (tlsOf ls) := fun g => by
  have := g.2.2.1 r.l (List.mem_map.2 ⟨r, List.mem_of_getElem? h, rfl⟩); omega
theorem bad_text {ls : List (Ro ByteArray)} {i k : Nat} {r : Ro ByteArray} {s : ByteArray} (h : ls[i]? = some r) (hs : r.l[k]? = some s) (ht : textS s = false) : ¬ goodL (tlsOf ls) := fun g => by
  have := (g.2.2.1 r.l (List.mem_map.2 ⟨r, List.mem_of_getElem? h, rfl⟩)).2.2 s (List.mem_of_getElem? hs); rw [ht] at this; cases this
theorem bad_dup {ls : List (Ro ByteArray)} {i k : Nat} {r : Ro ByteArray} {s : ByteArray} (h : ls[i]? = some r) (hs : r.l[k]? = some s) (hm : s ∈ namesL ls i r.l k) : ¬ goodL (tlsOf ls) := fun g => by
  have h2 : (tlsOf ls)[i]? = some r.l := by unfold tlsOf; rw [List.getElem?_map, h]; rfl
  obtain ⟨hi, e⟩ := List.getElem?_eq_some_iff.1 h2
  obtain ⟨hk, e2⟩ := List.getElem?_eq_some_iff.1 hs
  have e3 : (tlsOf ls).flatten = (namesL ls i r.l k) ++ (s :: r.l.drop (k + 1)) ++ ((tlsOf ls).drop (i + 1)).flatten := by
    conv => lhs; rw [← List.take_append_drop i (tlsOf ls), List.drop_eq_getElem_cons hi, e, List.flatten_append, List.flatten_cons]
    unfold namesL
    conv => lhs; rw [← List.take_append_drop k r.l, List.drop_eq_getElem_cons hk, e2]
    simp
  have h4 := g.2.2.2
  rw [e3] at h4
  have h5 := (List.nodup_append.1 (List.nodup_append.1 h4).1).2.2
  exact h5 s hm s List.mem_cons_self rfl
set_option maxRecDepth 20000 in
set_option maxHeartbeats 4000000 in
theorem right_ref (ls : List (Ro ByteArray)) (p : Option Addr) (c : Nat) (hnl : ls.length ≤ 1000) (hln : ∀ r ∈ ls, r.l.length ≤ 1000 ∧ ∀ s ∈ r.l, s.size ≤ 1000)  (w : World) (hr : Reads w p ls.length c 1 (fl rowL ls)) (hls : ∀ r ∈ ls, Reads w r.p r.l.length r.c 1 (fl strL r.l)) : Calls Try.prog 38 #[.slice p ls.length c] w fun e w' => (e = .returned (.bool (decide (goodL (tlsOf ls)))) ∧ S w' [Old w no]) := by
 have H0 := S.old w
 refine enter 47 Try.func38 rfl rfl rfl ?_
 refine g_weak [(0, .slice p ls.length c)] ⟨rfl, trivial⟩ ?_
 refine w_s ?_
 refine w_a ?_
 refine w_e ?_
 refine g_seq ?_
 refine w_s ?_
 refine w_m ?_
 refine w_v (v := .int .i64 ((ls.length : Int))) (x_lenl rfl rfl Try.underlying22) ?_
 refine w_b ?_
 refine w_m ?_
 by_cases hb1 : ((ls.length : Int) : Int) < 1
 ·
  refine w_n (decide_eq_true hb1) ?_
  refine w_n (decide_eq_true hb1) ?_
  refine w_n (decide_eq_true hb1) ?_
  refine w_v (v := .bool true) (x_pick_t rfl rfl (decide_eq_true hb1) rfl) ?_
  refine w_e ?_
  refine g_cond_t rfl rfl ?_
  refine w_s ?_
  refine w_a ?_
  refine w_e ?_
  refine g_ret ?_
  refine g_then_ret ?_
  refine fin_ret [.tmp 2] [.bool false] rfl ⟨rfl, trivial⟩ ?_
  have hG : ¬ goodL (tlsOf ls) := fun g => by
   have h8 := g.1; have h9 := g.2.1
   unfold tlsOf at h8 h9; rw [List.length_map] at h8 h9; omega
  exact ⟨by simp [hG, tupled], H0.mask [true]⟩
 ·
  refine w_g (decide_eq_false hb1) xm ?_
  refine w_g (v := .int .i64 ((ls.length : Int))) (decide_eq_false hb1) (x_lenl rfl rfl Try.underlying22) ?_
  refine w_g (decide_eq_false hb1) (x_bin rfl rfl rfl b_gtr) ?_
  refine w_v (v := .bool (decide ((20 : Int) < (ls.length : Int)))) (x_pick_f rfl rfl (decide_eq_false hb1) rfl) ?_
  refine w_e ?_
  by_cases hb2 : (20 : Int) < (ls.length : Int)
  ·
   refine g_cond_t rfl (decide_eq_true hb2) ?_
   refine w_s ?_
   refine w_a ?_
   refine w_e ?_
   refine g_ret ?_
   refine g_then_ret ?_
   refine fin_ret [.tmp 2] [.bool false] rfl ⟨rfl, trivial⟩ ?_
   have hG : ¬ goodL (tlsOf ls) := fun g => by
    have h8 := g.1; have h9 := g.2.1
    unfold tlsOf at h8 h9; rw [List.length_map] at h8 h9; omega
   exact ⟨by simp [hG, tupled], H0.mask [true]⟩
  ·
   refine g_cond_f rfl (decide_eq_false hb2) ?_
   refine g_skip ?_
   refine g_then ?_
   refine w_s ?_
   refine l_of (s_makeMap (α := Bool) Value.string Value.bool okT H0 (wt0 rfl) rfl rfl rfl ?_)
   intro mg3 wq4 H5
   refine w_a ?_
   refine w_e ?_
   refine g_seq ?_
   refine w_s ?_
   refine w_m ?_
   refine w_v (v := .int .i64 ((ls.length : Int))) (x_lenl rfl rfl Try.underlying22) ?_
   refine w_m ?_
   refine w_e ?_
   refine g_block ?_
   refine g_loop (ι := Nat × (ByteArray → Option Bool)) (fun (i, M) => [(3, .map (some mg3)), (17, .slice p ls.length c), (18, .int .i64 ((ls.length : Int))), (19, .int .i64 ((i : Int)))]) (fun (i, M) wx => (i ≤ ls.length) ∧ (Met ((tlsOf ls).take i).flatten M) ∧ ((∀ r ∈ ls.take i, 1 ≤ r.l.length ∧ r.l.length ≤ 20)) ∧ S wx [Mp Value.string Value.bool okT mg3 M, Old w no]) (fun (i, M) => ls.length - i) (0, (fun _ => none)) ⟨rfl, rfl, rfl, rfl, trivial⟩ ⟨Nat.zero_le _, (Met.nil), (fun r hr => by simp at hr), (H5.takes [0, 1] (by decide))⟩ ?_
   rintro ⟨i, M⟩ wq6 ⟨hi, hM, hA, H7⟩
   refine g_weak [(3, .map (some mg3)), (17, .slice p ls.length c), (18, .int .i64 ((ls.length : Int))), (19, .int .i64 ((i : Int)))] ⟨rfl, rfl, rfl, rfl, trivial⟩ ?_
   refine w_s ?_
   refine w_b ?_
   refine w_e ?_
   refine g_seq ?_
   by_cases hb8 : ((i : Int) : Int) < (ls.length : Int)
   ·
    refine g_cond_t rfl (decide_eq_true hb8) ?_
    refine g_skip ?_
    refine g_then ?_
    refine g_seq ?_
    refine g_block ?_
    refine w_s ?_
    refine w_v (v := .pointer ((p).map fun q => q.add (i * 1))) (x_idxR i (H7.oldReads (k := 1) rfl hr) rfl rfl rfl Try.underlying22 sz37 (by omega)) ?_
    have hlq := (H7.oldReads (k := 1) rfl hr).lenL rowE
    obtain ⟨x9, hx9⟩ := ex_at (l := ls) (j := i) (by omega)
    clear hlq
    have hlnx9 := (hln x9 (List.mem_of_getElem? hx9)).1
    refine w_v (v := .slice x9.p x9.l.length x9.c) (x_loadR1 i (H7.oldReads (k := 1) rfl hr) (by omega) rfl rfl Try.underlying37 rfl (rowE.flAt1 hx9 rfl)) ?_
    refine w_a ?_
    refine w_e ?_
    refine g_seq ?_
    refine w_s ?_
    refine w_m ?_
    refine w_v (v := .int .i64 ((x9.l.length : Int))) (x_lenl rfl rfl Try.underlying37) ?_
    refine w_b ?_
    refine w_m ?_
    by_cases hb10 : ((x9.l.length : Int) : Int) < 1
    ·
     refine w_n (decide_eq_true hb10) ?_
     refine w_n (decide_eq_true hb10) ?_
     refine w_n (decide_eq_true hb10) ?_
     refine w_v (v := .bool true) (x_pick_t rfl rfl (decide_eq_true hb10) rfl) ?_
     refine w_e ?_
     refine g_cond_t rfl rfl ?_
     refine w_s ?_
     refine w_a ?_
     refine w_e ?_
     refine g_weak [(2, .bool false)] ⟨rfl, trivial⟩ ?_
     refine g_ret ?_
     refine g_then_ret ?_
     refine g_in_ret ?_
     refine g_then_ret ?_
     refine g_then_ret ?_
     refine g_in_ret ?_
     refine g_then_ret ?_
     refine fin_ret [.tmp 2] [.bool false] rfl ⟨rfl, trivial⟩ ?_
     have hG := bad_row hx9 (by omega)
     exact ⟨by simp [hG, tupled], H7.mask [false, true]⟩
    ·
     refine w_g (decide_eq_false hb10) xm ?_
     refine w_g (v := .int .i64 ((x9.l.length : Int))) (decide_eq_false hb10) (x_lenl rfl rfl Try.underlying37) ?_
     refine w_g (decide_eq_false hb10) (x_bin rfl rfl rfl b_gtr) ?_
     refine w_v (v := .bool (decide ((20 : Int) < (x9.l.length : Int)))) (x_pick_f rfl rfl (decide_eq_false hb10) rfl) ?_
     refine w_e ?_
     by_cases hb11 : (20 : Int) < (x9.l.length : Int)
     ·
      refine g_cond_t rfl (decide_eq_true hb11) ?_
      refine w_s ?_
      refine w_a ?_
      refine w_e ?_
      refine g_weak [(2, .bool false)] ⟨rfl, trivial⟩ ?_
      refine g_ret ?_
      refine g_then_ret ?_
      refine g_in_ret ?_
      refine g_then_ret ?_
      refine g_then_ret ?_
      refine g_in_ret ?_
      refine g_then_ret ?_
      refine fin_ret [.tmp 2] [.bool false] rfl ⟨rfl, trivial⟩ ?_
      have hG := bad_row hx9 (by omega)
      exact ⟨by simp [hG, tupled], H7.mask [false, true]⟩
     ·
      refine g_cond_f rfl (decide_eq_false hb11) ?_
      refine g_skip ?_
      refine g_then ?_
      refine w_s ?_
      refine w_m ?_
      refine w_v (v := .int .i64 ((x9.l.length : Int))) (x_lenl rfl rfl Try.underlying37) ?_
      refine w_m ?_
      refine w_e ?_
      refine g_weak [(3, .map (some mg3)), (17, .slice p ls.length c), (18, .int .i64 ((ls.length : Int))), (19, .int .i64 ((i : Int))), (31, .slice x9.p x9.l.length x9.c), (32, .int .i64 ((x9.l.length : Int))), (33, .int .i64 0)] ⟨rfl, rfl, rfl, rfl, rfl, rfl, rfl, trivial⟩ ?_
      refine g_block ?_
      refine g_loop (ι := Nat × (ByteArray → Option Bool)) (fun (k, M2) => [(3, .map (some mg3)), (17, .slice p ls.length c), (18, .int .i64 ((ls.length : Int))), (19, .int .i64 ((i : Int))), (31, .slice x9.p x9.l.length x9.c), (32, .int .i64 ((x9.l.length : Int))), (33, .int .i64 ((k : Int)))]) (fun (k, M2) wx => (k ≤ x9.l.length) ∧ (Met (namesL ls i x9.l k) M2) ∧ S wx [Mp Value.string Value.bool okT mg3 M2, Old w no]) (fun (k, M2) => x9.l.length - k) (0, M) ⟨rfl, rfl, rfl, rfl, rfl, rfl, rfl, trivial⟩ ⟨Nat.zero_le _, (by unfold namesL; rw [List.take_zero, List.append_nil]; exact hM), (H7.takes [0, 1] (by decide))⟩ ?_
      rintro ⟨k, M2⟩ wq12 ⟨hk, hM2, H13⟩
      refine g_weak [(3, .map (some mg3)), (17, .slice p ls.length c), (18, .int .i64 ((ls.length : Int))), (19, .int .i64 ((i : Int))), (31, .slice x9.p x9.l.length x9.c), (32, .int .i64 ((x9.l.length : Int))), (33, .int .i64 ((k : Int)))] ⟨rfl, rfl, rfl, rfl, rfl, rfl, rfl, trivial⟩ ?_
      refine w_s ?_
      refine w_b ?_
      refine w_e ?_
      refine g_seq ?_
      by_cases hb14 : ((k : Int) : Int) < (x9.l.length : Int)
      ·
       refine g_cond_t rfl (decide_eq_true hb14) ?_
       refine g_skip ?_
       refine g_then ?_
       refine g_seq ?_
       refine g_block ?_
       refine w_s ?_
       refine w_v (v := .pointer ((x9.p).map fun q => q.add (k * 1))) (x_idxR k (H13.oldReads (k := 1) rfl (hls x9 (List.mem_of_getElem? hx9))) rfl rfl rfl Try.underlying37 sz9 (by omega)) ?_
       have hlq := (H13.oldReads (k := 1) rfl (hls x9 (List.mem_of_getElem? hx9))).lenL strE
       obtain ⟨x15, hx15⟩ := ex_at (l := x9.l) (j := k) (by omega)
       clear hlq
       have hok_x15 : okT x15 := Nat.le_trans ((hln x9 (List.mem_of_getElem? hx9)).2 x15 (List.mem_of_getElem? hx15)) (by decide)
       refine w_v (v := .string x15) (x_loadR1 k (H13.oldReads (k := 1) rfl (hls x9 (List.mem_of_getElem? hx9))) (by omega) rfl rfl Try.underlying9 rfl (strE.flAt1 hx15 rfl)) ?_
       refine w_a ?_
       refine w_e ?_
       refine g_seq ?_
       refine w_s ?_
       refine w_m ?_
       refine l_of (s_call0 H13 (wt0 rfl) (x_call' rfl rfl cl59) (name_r x15 _) rfl rfl ?_)
       intro wq16 H17
       refine w_v (v := .bool (!((textS x15)))) (x_not (b := (textS x15)) rfl rfl) ?_
       refine w_e ?_
       rcases Bool.eq_false_or_eq_true ((textS x15)) with hb18 | hb18
       ·
        refine g_cond_f rfl (neg_of hb18) ?_
        refine g_skip ?_
        refine g_then ?_
        refine g_seq ?_
        refine w_s ?_
        refine w_r2 ?_
        refine w_v (v := .bool (((M2 x15).getD false))) (ex_cast (x_lookup1 (x := x15) (strTy Try.underlying45 Try.underlying9) H17 0 rfl rfl rfl rfl (hok_x15) ze4) (look_B2 _)) ?_
        refine w_e ?_
        rcases Bool.eq_false_or_eq_true (((M2 x15).getD false)) with hb19 | hb19
        ·
         refine g_cond_t rfl hb19 ?_
         refine w_s ?_
         refine w_a ?_
         refine w_e ?_
         refine g_weak [(2, .bool false)] ⟨rfl, trivial⟩ ?_
         refine g_ret ?_
         refine g_then_ret ?_
         refine g_in_ret ?_
         refine g_then_ret ?_
         refine g_then_ret ?_
         refine g_in_ret ?_
         refine g_in_ret ?_
         refine g_then_ret ?_
         refine g_then_ret ?_
         refine g_in_ret ?_
         refine g_then_ret ?_
         refine fin_ret [.tmp 2] [.bool false] rfl ⟨rfl, trivial⟩ ?_
         have hG := bad_dup hx9 hx15 ((hM2.map _).1 hb19)
         exact ⟨by simp [hG, tupled], H17.mask [false, true]⟩
        ·
         refine g_cond_f rfl hb19 ?_
         refine g_skip ?_
         refine g_then ?_
         refine g_region ?_
         refine w_r2 ?_
         refine l_of (s_mapUpdate (x := x15) (a := true) (strTy Try.underlying45 Try.underlying9) H17 0 (wt0 rfl) rfl rfl rfl rfl rfl rfl (hok_x15) ?_)
         intro wq20 H21
         refine g_nil ?_
         refine g_in ?_
         refine g_then ?_
         refine g_weak [(3, .map (some mg3)), (17, .slice p ls.length c), (18, .int .i64 ((ls.length : Int))), (19, .int .i64 ((i : Int))), (31, .slice x9.p x9.l.length x9.c), (32, .int .i64 ((x9.l.length : Int))), (33, .int .i64 ((k : Int)))] ⟨rfl, rfl, rfl, rfl, rfl, rfl, rfl, trivial⟩ ?_
         refine g_region ?_
         refine w_b (v := .int .i64 (((k + 1 : Nat) : Int))) (hb := (b_add (by rw [w64 (by omega)]; omega))) ?_
         refine w_m ?_
         refine w_e ?_
         refine g_round (i := (k, M2)) ((k + 1), (upM M2 x15 true)) ?_ ?_ ?_
         · exact ⟨rfl, rfl, rfl, rfl, rfl, rfl, rfl, trivial⟩
         · exact ⟨by omega, (by rw [namesL_next hx15]; exact hM2.step hb18 hb19), (H21.takes [0, 1] (by decide))⟩
         · (try dsimp only); omega
       ·
        refine g_cond_t rfl (neg_of hb18) ?_
        refine w_s ?_
        refine w_a ?_
        refine w_e ?_
        refine g_weak [(2, .bool false)] ⟨rfl, trivial⟩ ?_
        refine g_ret ?_
        refine g_then_ret ?_
        refine g_in_ret ?_
        refine g_then_ret ?_
        refine g_then_ret ?_
        refine g_in_ret ?_
        refine g_in_ret ?_
        refine g_then_ret ?_
        refine g_then_ret ?_
        refine g_in_ret ?_
        refine g_then_ret ?_
        refine fin_ret [.tmp 2] [.bool false] rfl ⟨rfl, trivial⟩ ?_
        have hG := bad_text hx9 hx15 hb18
        exact ⟨by simp [hG, tupled], H17.mask [false, true]⟩
      ·
       refine g_cond_f rfl (decide_eq_false hb14) ?_
       refine g_exit ?_
       refine g_then_exit ?_
       refine g_then_exit ?_
       refine g_in_hit ?_
       refine g_in ?_
       refine g_then ?_
       refine g_region ?_
       refine w_b (v := .int .i64 (((i + 1 : Nat) : Int))) (hb := (b_add (by rw [w64 (by omega)]; omega))) ?_
       refine w_m ?_
       refine w_e ?_
       refine g_round (i := (i, M)) ((i + 1), M2) ?_ ?_ ?_
       · exact ⟨rfl, rfl, rfl, rfl, trivial⟩
       · exact ⟨by omega, (by rw [namesL_row (k := k) hx9 (by omega)]; exact hM2), (take_all hx9 hA (by omega)), (H13.takes [0, 1] (by decide))⟩
       · (try dsimp only); omega
   ·
    refine g_cond_f rfl (decide_eq_false hb8) ?_
    refine g_exit ?_
    refine g_then_exit ?_
    refine g_then_exit ?_
    refine g_in_hit ?_
    refine g_then ?_
    refine w_s ?_
    refine w_a ?_
    refine w_e ?_
    refine g_ret ?_
    refine fin_ret [.tmp 2] [.bool true] rfl ⟨rfl, trivial⟩ ?_
    rw [List.take_of_length_le (by omega)] at hA
    rw [List.take_of_length_le (by unfold tlsOf; rw [List.length_map]; omega)] at hM
    have hG : goodL (tlsOf ls) := ⟨by unfold tlsOf; rw [List.length_map]; omega, by unfold tlsOf; rw [List.length_map]; omega, fun l hl => by
     obtain ⟨r, hr, rfl⟩ := List.mem_map.1 hl
     exact ⟨(hA r hr).1, (hA r hr).2, fun s hs => hM.text s (List.mem_flatten.2 ⟨r.l, hl, hs⟩)⟩, hM.nodup⟩
    exact ⟨by simp [hG, tupled], H7.mask [false, true]⟩
end Go.Proofs.Ytibdlnjnomikjaa
namespace Go.Proofs.Ytibdlnjnomikjaa
open Go.RowKit

/-! ## Rows in the order of their keys -/
theorem less_cmp : ∀ a b : List UInt8, (!(Op.bytesLess a b || a == b)) = decide (0 < Lib.compareBytes a b)
  | [], [] => rfl
  | [], _ :: _ => by simp [Op.bytesLess, Lib.compareBytes]
  | _ :: _, [] => by simp [Op.bytesLess, Lib.compareBytes]
  | x :: a, y :: b => by
    have ih := less_cmp a b
    unfold Op.bytesLess Lib.compareBytes
    by_cases h : x < y
    · simp [h]
    · by_cases h2 : y < x
      · have : ¬ x = y := fun e => by subst e; exact UInt8.lt_irrefl _ h2
        simp [h, h2, this]
      · have e : x = y := UInt8.le_antisymm (UInt8.not_lt.1 h2) (UInt8.not_lt.1 h)
        subst e
        simp only [if_neg h]
        rw [← ih]
        simp
theorem cmp_trans : ∀ a b c : List UInt8, Lib.compareBytes a b ≤ 0 → Lib.compareBytes b c ≤ 0 → Lib.compareBytes a c ≤ 0 ∧ (Lib.compareBytes a b < 0 ∨ Lib.compareBytes b c < 0 → Lib.compareBytes a c < 0)
  | [], [], c => by cases c <;> simp [Lib.compareBytes]
  | [], _ :: _, [] => by simp [Lib.compareBytes]
  | [], _ :: _, _ :: _ => by simp [Lib.compareBytes]
  | _ :: _, [], _ => by simp [Lib.compareBytes]
  | _ :: _, _ :: _, [] => by simp [Lib.compareBytes]
  | x :: a, y :: b, z :: c => by
    have ih := cmp_trans a b c
    unfold Lib.compareBytes
    intro h1 h2
    have hx := @UInt8.lt_irrefl
    by_cases h3 : x < y
    · have h3' : ¬ y < x := fun h => hx _ (UInt8.lt_trans h3 h)
      by_cases h4 : y < z
      · simp [UInt8.lt_trans h3 h4]
      · by_cases h5 : z < y
        · simp [h4, h5] at h2
        · have e : y = z := UInt8.le_antisymm (UInt8.not_lt.1 h5) (UInt8.not_lt.1 h4)
          subst e; simp [h3]
    · by_cases h3' : y < x
      · simp [h3, h3'] at h1
      · have e : x = y := UInt8.le_antisymm (UInt8.not_lt.1 h3') (UInt8.not_lt.1 h3)
        subst e
        simp only [h3, if_false] at h1
        by_cases h4 : x < z
        · simp [h4]
        · by_cases h5 : z < x
          · simp [h4, h5] at h2
          · simp only [h4, h5, h3, if_false] at h2 ⊢
            exact ih h1 h2
theorem cmp_swap : ∀ a b : List UInt8, Lib.compareBytes a b = - Lib.compareBytes b a
  | [], [] => rfl
  | [], _ :: _ => rfl
  | _ :: _, [] => rfl
  | x :: a, y :: b => by
    unfold Lib.compareBytes
    by_cases h : x < y
    · have h2 : ¬ y < x := fun h3 => UInt8.lt_irrefl _ (UInt8.lt_trans h h3)
      simp [h, h2]
    · by_cases h2 : y < x
      · simp [h, h2]
      · simp only [h, h2, if_false]; exact cmp_swap a b
/-- In the order of the keys; of equal keys the earlier first. -/
def RK (seed : ByteArray) (p q : ByteArray × Nat) : Prop := cmpS seed p.1 q.1 < 0 ∨ (cmpS seed p.1 q.1 = 0 ∧ p.2 < q.2)
theorem RK.trans {seed : ByteArray} {p q r : ByteArray × Nat} (h1 : RK seed p q) (h2 : RK seed q r) : RK seed p r := by
  unfold RK cmpS cmpB at *
  have h := cmp_trans (keyS seed p.1).data.toList (keyS seed q.1).data.toList (keyS seed r.1).data.toList (by omega) (by omega)
  rcases h1 with h1 | h1
  · exact .inl (h.2 (.inl h1))
  · rcases h2 with h2 | h2
    · exact .inl (h.2 (.inr h2))
    · by_cases h3 : Lib.compareBytes (keyS seed p.1).data.toList (keyS seed r.1).data.toList < 0
      · exact .inl h3
      · exact .inr ⟨by omega, by omega⟩
theorem RK.irr {seed : ByteArray} {p : ByteArray × Nat} : ¬ RK seed p p := fun h => by
  unfold RK cmpS cmpB at h
  have := cmp_swap (keyS seed p.1).data.toList (keyS seed p.1).data.toList
  omega
theorem RK.ords (seed : ByteArray) (l : List (ByteArray × Nat)) : Ords (RK seed) Prod.snd (fun p q => cmpS seed p.1 q.1) l := by
  refine ⟨fun x y z _ _ _ h1 h2 => h1.trans h2, fun x _ => RK.irr, fun x y _ _ ht hn => ?_, fun x y _ _ ht => ?_⟩
  · unfold RK cmpS cmpB at *
    have := cmp_swap (keyS seed x.1).data.toList (keyS seed y.1).data.toList
    by_cases h : Lib.compareBytes (keyS seed x.1).data.toList (keyS seed y.1).data.toList < 0
    · exact .inl h
    · exact .inr ⟨by omega, ht⟩
  · constructor
    · intro h; exact .inl h
    · rintro (h | h)
      · exact h
      · omega
theorem zip_tags {α : Type} (l : List α) : ∀ k, (l.zipIdx k).Pairwise fun y z => y.2 < z.2 := by
  induction l with
  | nil => intro k; exact .nil
  | cons a l ih =>
    intro k
    rw [List.zipIdx_cons]
    refine List.pairwise_cons.2 ⟨fun b hb => ?_, ih (k + 1)⟩
    have := List.le_snd_of_mem_zipIdx hb
    show k < b.2; omega
/-- What is in order and holds the same is the same. -/
theorem sort_same {seed : ByteArray} {l : List ByteArray} (hl : l.length < 40) {z : List (ByteArray × Nat)} (hz : z.Perm l.zipIdx) (hs : z.Pairwise (RK seed)) : z.map Prod.fst = sortN seed l := by
  have h1 := stable_sorted (d := (⟨#[]⟩, 0)) (c := fun p q : ByteArray × Nat => cmpS seed p.1 q.1) (R := RK seed) (tag := Prod.snd) (l := l.zipIdx) (by simpa using hl) (RK.ords seed _) (zip_tags l 0)
  have h2 := stable_perm (⟨#[]⟩, 0) (fun p q : ByteArray × Nat => cmpS seed p.1 q.1) l.zipIdx
  have h3 : z = stableS (⟨#[]⟩, 0) (fun p q : ByteArray × Nat => cmpS seed p.1 q.1) l.zipIdx := List.Perm.eq_of_pairwise (fun a b _ _ hab hba => absurd (hab.trans hba) RK.irr) hs h1 (hz.trans h2.symm)
  unfold sortN; rw [← h3]
/-- The row so far: names in order. -/
def RowK (seed : ByteArray) (l : List ByteArray) (k : Nat) (r : List Tk) : Prop := ∃ z : List (ByteArray × Nat), r = z.map (fun p => newTk p.1) ∧ z.Perm (l.zipIdx.take k) ∧ z.Pairwise (RK seed)
theorem RowK.start (seed : ByteArray) (l : List ByteArray) : RowK seed l 0 [] := ⟨[], rfl, by simp, .nil⟩
theorem RowK.len {seed : ByteArray} {l : List ByteArray} {k : Nat} {r : List Tk} (h : RowK seed l k r) : r.length ≤ k := by
  obtain ⟨z, rfl, h2, _⟩ := h
  rw [List.length_map, h2.length_eq]; simp; omega
theorem RowK.done {seed : ByteArray} {l : List ByteArray} {k : Nat} {r : List Tk} (h : RowK seed l k r) (hk : l.length ≤ k) (hl : l.length < 40) : r = (sortN seed l).map newTk := by
  obtain ⟨z, rfl, h2, h3⟩ := h
  rw [List.take_of_length_le (by simpa using hk)] at h2
  rw [← sort_same hl h2 h3, List.map_map]; rfl
theorem RowK.step {seed : ByteArray} {l : List ByteArray} {k j : Nat} {r : List Tk} {s : ByteArray} (h : RowK seed l k r) (hs : l[k]? = some s) (hj : j ≤ r.length) (hup : ∀ x ∈ r.drop j, 0 < cmpS seed x.name s) (hlo : ∀ x, j ≠ 0 → r[j - 1]? = some x → ¬ 0 < cmpS seed x.name s) : RowK seed l (k + 1) (r.take j ++ [newTk s] ++ r.drop j) := by
  obtain ⟨z, rfl, h2, h3⟩ := h
  have hk := (List.getElem?_eq_some_iff.1 hs).1
  have hz : l.zipIdx[k]? = some (s, k) := by rw [List.getElem?_zipIdx, hs]; simp
  have hlt : ∀ p ∈ z, p.2 < k := fun p hp => by
    have hm := h2.mem_iff.1 hp
    obtain ⟨j, hj⟩ := List.getElem?_of_mem hm
    rw [List.getElem?_take] at hj
    split at hj
    · rw [List.getElem?_zipIdx] at hj
      obtain ⟨a, _, rfl⟩ := Option.map_eq_some_iff.1 hj
      show 0 + j < k; omega
    · cases hj
  have hsp : z.take j ++ z.drop j = z := List.take_append_drop j z
  have h4 : (z.take j ++ z.drop j).Pairwise (RK seed) := by rw [hsp]; exact h3
  obtain ⟨h5, h6, h7⟩ := List.pairwise_append.1 h4
  have hlow : ∀ p ∈ z.take j, RK seed p (s, k) := fun p hp => by
    have hj0 : j ≠ 0 := fun e => by subst e; simp at hp
    rw [List.length_map] at hj
    obtain ⟨q, hq⟩ := ex_at (l := z) (j := j - 1) (by omega)
    have hq2 := hlo (newTk q.1) hj0 (by rw [List.getElem?_map, hq]; rfl)
    have hqs : RK seed q (s, k) := by
      have h9 := hlt q (List.mem_of_getElem? hq)
      unfold RK
      by_cases h10 : cmpS seed q.1 s < 0
      · exact .inl h10
      · exact .inr ⟨by have : ¬ 0 < cmpS seed q.1 s := hq2; show cmpS seed q.1 s = 0; omega, h9⟩
    have e : z.take j = z.take (j - 1) ++ [q] := by
      have := take_snoc hq; rw [show j - 1 + 1 = j from by omega] at this; exact this
    rw [e] at hp h5
    rcases List.mem_append.1 hp with hp | hp
    · exact RK.trans ((List.pairwise_append.1 h5).2.2 p hp q (by simp)) hqs
    · rw [List.mem_singleton] at hp; rw [hp]; exact hqs
  have hupp : ∀ p ∈ z.drop j, RK seed (s, k) p := fun p hp => by
    have := hup (newTk p.1) (by rw [← List.map_drop]; exact List.mem_map_of_mem hp)
    left
    show cmpS seed s p.1 < 0
    have h9 : 0 < cmpS seed p.1 s := this
    unfold cmpS cmpB at *
    have := cmp_swap (keyS seed p.1).data.toList (keyS seed s).data.toList
    omega
  refine ⟨z.take j ++ [(s, k)] ++ z.drop j, by simp [List.map_take, List.map_drop], ?_, ?_⟩
  · rw [take_snoc hz]
    have : (z.take j ++ [(s, k)] ++ z.drop j).Perm ((z.take j ++ z.drop j) ++ [(s, k)]) := by
      rw [List.append_assoc, List.append_assoc]
      exact List.Perm.append_left _ List.perm_append_comm
    exact this.trans (by rw [hsp]; exact h2.append_right _)
  · refine List.pairwise_append.2 ⟨List.pairwise_append.2 ⟨h5, by simp, fun a ha b hb => by rw [List.mem_singleton] at hb; rw [hb]; exact hlow a ha⟩, h6, fun a ha b hb => ?_⟩
    rcases List.mem_append.1 ha with ha | ha
    · exact h7 a ha b hb
    · rw [List.mem_singleton] at ha; rw [ha]; exact hupp b hb
section
variable {P : Program} {w : World} {t : TypeId} {xo yo : Option Operand}
end
end Go.Proofs.Ytibdlnjnomikjaa
