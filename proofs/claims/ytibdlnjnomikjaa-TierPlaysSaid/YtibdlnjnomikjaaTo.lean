import Derived.Test.YtibdlnjnomikjaaFk
import Derived.Test.YtibdlnjnomikjaaTn
set_option linter.unusedSimpArgs false
set_option linter.unusedVariables false
namespace Go.Proofs.Ytibdlnjnomikjaa
open Go.RowKit

theorem fo64_1 : foO Try.prog 64 1 = some 2 := by kernel_rfl
theorem sz59 : szO Try.prog 59 = some 1 := by kernel_rfl
theorem sz68 : szO Try.prog 68 = some 1 := by kernel_rfl
def encT (p : Pl) : Array Value := #[.agg #[.int .i64 (p.1 : Int), .int .i64 (p.2.1 : Int), .int .i64 0, .int .i64 0], .pointer (some ⟨p.2.2, 0, none⟩)]
set_option maxRecDepth 20000 in
set_option maxHeartbeats 4000000 in
set_option maxRecDepth 20000 in
set_option maxHeartbeats 4000000 in
theorem all_it {n0 b g nr C : Nat} {P : Option Addr} {rows : Rws} (hnr : nr = rows.length) (hnr2 : nr ≤ 1000) (hrl : ∀ r ∈ rows, r.l.length ≤ 1000) :
  IterW n0 Try.prog 57 #[.pointer (some ⟨b, 0, none⟩)] encT (Big [Ob b (.cells #[.pointer (some ⟨g, 0, none⟩)] 26 (0, 0)), Rw 68 1 P nr C (rosV rows), RowsI 59 1 ptL rows]) (fun pre x _ => ∃ post, flatF 0 (lsOf rows) = pre ++ x :: post) (fun pre W => pre = [] → W.cell? ⟨g, 2, none⟩ = some (.slice P nr C)) (fun xs => xs = flatF 0 (lsOf rows)) (fun _ => True) (Big []) := by
 intro l J Jx W C0 hOk hY h0 HS
 have H0 : S W [Big [Ob b (.cells #[.pointer (some ⟨g, 0, none⟩)] 26 (0, 0)), Rw 68 1 P nr C (rosV rows), RowsI 59 1 ptL rows], Big [], C0] := HS
 have hcell := hOk [] C0 W h0 (HS.at (k := 2) rfl) rfl
 refine enter_ci 33 Try.func57 rfl rfl rfl ?_
 have hL : ¬ LetsOut (bodyPost Try.prog Try.f57 fun e W' => (∃ v, e = .returned v) ∧ ((∃ xs CC, xs = flatF 0 (lsOf rows) ∧ J xs CC ∧ S W' [Big [Ob b (.cells #[.pointer (some ⟨g, 0, none⟩)] 26 (0, 0)), Rw 68 1 P nr C (rosV rows), RowsI 59 1 ptL rows], CC]) ∨ (∃ pre CC, True ∧ Jx pre CC ∧ S W' [Big [Ob b (.cells #[.pointer (some ⟨g, 0, none⟩)] 26 (0, 0)), Rw 68 1 P nr C (rosV rows), RowsI 59 1 ptL rows], CC]))) := by
  rintro ⟨_, _, ⟨_, h⟩, _⟩
  cases h
 refine g_weak [(0, .func (.yield l) #[] #[]), (1, .pointer (some ⟨b, 0, none⟩))] ⟨rfl, rfl, trivial⟩ ?_
 refine R.g_seq ?_
 refine R.g_region ?_
 refine R.l_of rfl (fun h => hL h) (s_val (v := .pointer (some ⟨g, 0, none⟩)) (wt0 rfl) rfl rfl (x_loadC rfl rfl Try.underlying26 rfl ((H0.bigAt (k := 0) rfl).cell (k := 0) rfl rfl)) ?_)
 refine R.l_of rfl (fun h => hL h) (s_val (v := .pointer (some ⟨g, 0, none⟩)) (wt0 rfl) rfl rfl (x_nilCheck rfl rfl) ?_)
 refine R.l_of rfl (fun h => hL h) (s_val (v := .pointer (some ⟨g, 2, none⟩)) (wt0 rfl) rfl rfl (x_fieldAddr rfl rfl fo64_1 rfl) ?_)
 refine R.l_of rfl (fun h => hL h) (s_val (v := .slice P nr C) (wt0 rfl) rfl rfl (x_loadC rfl rfl Try.underlying62 rfl hcell) ?_)
 refine R.l_of rfl (fun h => hL h) (s_val (v := .int .i64 ((nr : Int))) (wt0 rfl) rfl rfl (x_lenl rfl rfl Try.underlying62) ?_)
 refine R.l_of rfl (fun h => hL h) (s_val (v := .int .i64 0) (wt0 rfl) rfl rfl (x_move rfl rfl) ?_)
 refine R.g_nil ?_
 refine g_then ?_
 refine R.g_block ?_
 refine R.g_loop (ι := Nat × Item) (fun (i, C1) => [(0, .func (.yield l) #[] #[]), (10, .slice P nr C), (11, .int .i64 ((nr : Int))), (12, .int .i64 ((i : Int)))]) (fun (i, C1) wx => (i ≤ nr) ∧ (J (uptoF (lsOf rows) i 0) C1) ∧ S wx [Big [Ob b (.cells #[.pointer (some ⟨g, 0, none⟩)] 26 (0, 0)), Rw 68 1 P nr C (rosV rows), RowsI 59 1 ptL rows], Big [], C1]) (fun (i, C1) => nr - i) (0, C0) ⟨rfl, rfl, rfl, rfl, trivial⟩ ⟨Nat.zero_le _, h0, H0⟩ ?_
 rintro ⟨i, C1⟩ wq1 ⟨hi, hJi, H2⟩
 refine g_weak [(0, .func (.yield l) #[] #[]), (10, .slice P nr C), (11, .int .i64 ((nr : Int))), (12, .int .i64 ((i : Int)))] ⟨rfl, rfl, rfl, rfl, trivial⟩ ?_
 refine R.g_seq ?_
 refine R.g_region ?_
 refine R.l_of rfl (fun h => hL h) (s_val (v := .bool (decide (((i : Int) : Int) < (nr : Int)))) (wt0 rfl) rfl rfl (x_bin rfl rfl rfl b_lss) ?_)
 refine R.g_nil ?_
 refine g_then ?_
 refine R.g_seq ?_
 by_cases hb3 : ((i : Int) : Int) < (nr : Int)
 ·
  obtain ⟨r, hrow⟩ : ∃ r, rows[i]? = some r := ⟨_, List.getElem?_eq_getElem (by omega)⟩
  have hr2 := hrl r (List.mem_of_getElem? hrow)
  have hls := ls_at hrow
  refine R.g_cond_t rfl (decide_eq_true hb3) ?_
  refine R.g_skip ?_
  refine g_then ?_
  refine R.g_seq ?_
  refine R.g_block ?_
  refine R.g_seq ?_
  refine R.g_region ?_
  refine R.l_of rfl (fun h => hL h) (s_val (v := .int .i64 ((i : Int))) (wt0 rfl) rfl rfl (x_move rfl rfl) ?_)
  refine R.l_of rfl (fun h => hL h) (s_val (v := .pointer ((P).map fun q => q.add (i * 1))) (wt0 rfl) rfl rfl (x_idxR i (((H2.bigAt (k := 0) rfl).rwReads (k := 1) rfl)) rfl rfl rfl Try.underlying62 sz68 (by omega)) ?_)
  refine R.l_of rfl (fun h => hL h) (s_val (v := .slice r.p r.l.length r.c) (wt0 rfl) rfl rfl (x_loadR1 i (((H2.bigAt (k := 0) rfl).rwReads (k := 1) rfl)) (by omega) rfl rfl Try.underlying68 rfl (rosV_at hrow)) ?_)
  refine R.l_of rfl (fun h => hL h) (s_val (v := .int .i64 ((i : Int))) (wt0 rfl) rfl rfl (x_assign rfl rfl) ?_)
  refine R.l_of rfl (fun h => hL h) (s_val (v := .slice r.p r.l.length r.c) (wt0 rfl) rfl rfl (x_assign rfl rfl) ?_)
  refine R.g_nil ?_
  refine g_then ?_
  refine R.g_seq ?_
  refine R.g_region ?_
  refine R.l_of rfl (fun h => hL h) (s_val (v := .slice r.p r.l.length r.c) (wt0 rfl) rfl rfl (x_move rfl rfl) ?_)
  refine R.l_of rfl (fun h => hL h) (s_val (v := .int .i64 ((r.l.length : Int))) (wt0 rfl) rfl rfl (x_lenl rfl rfl Try.underlying68) ?_)
  refine R.l_of rfl (fun h => hL h) (s_val (v := .int .i64 0) (wt0 rfl) rfl rfl (x_move rfl rfl) ?_)
  refine R.g_nil ?_
  refine g_then ?_
  refine R.g_block ?_
  refine R.g_loop (ι := Nat × Item) (fun (k, C2) => [(0, .func (.yield l) #[] #[]), (3, .int .i64 ((i : Int))), (10, .slice P nr C), (11, .int .i64 ((nr : Int))), (12, .int .i64 ((i : Int))), (17, .slice r.p r.l.length r.c), (18, .int .i64 ((r.l.length : Int))), (19, .int .i64 ((k : Int)))]) (fun (k, C2) wx => (k ≤ r.l.length) ∧ (J (uptoF (lsOf rows) i k) C2) ∧ S wx [Big [Ob b (.cells #[.pointer (some ⟨g, 0, none⟩)] 26 (0, 0)), Rw 68 1 P nr C (rosV rows), RowsI 59 1 ptL rows], Big [], C2]) (fun (k, C2) => r.l.length - k) (0, C1) ⟨rfl, rfl, rfl, rfl, rfl, rfl, rfl, rfl, trivial⟩ ⟨Nat.zero_le _, hJi, H2⟩ ?_
  rintro ⟨k, C2⟩ wq4 ⟨hk, hJk, H5⟩
  refine g_weak [(0, .func (.yield l) #[] #[]), (3, .int .i64 ((i : Int))), (10, .slice P nr C), (11, .int .i64 ((nr : Int))), (12, .int .i64 ((i : Int))), (17, .slice r.p r.l.length r.c), (18, .int .i64 ((r.l.length : Int))), (19, .int .i64 ((k : Int)))] ⟨rfl, rfl, rfl, rfl, rfl, rfl, rfl, rfl, trivial⟩ ?_
  refine R.g_seq ?_
  refine R.g_region ?_
  refine R.l_of rfl (fun h => hL h) (s_val (v := .bool (decide (((k : Int) : Int) < (r.l.length : Int)))) (wt0 rfl) rfl rfl (x_bin rfl rfl rfl b_lss) ?_)
  refine R.g_nil ?_
  refine g_then ?_
  refine R.g_seq ?_
  by_cases hb6 : ((k : Int) : Int) < (r.l.length : Int)
  ·
   obtain ⟨x, hx⟩ : ∃ x, r.l[k]? = some x := ⟨_, List.getElem?_eq_getElem (by omega)⟩
   have hxl : ((lsOf rows).getD i [])[k]? = some x := by rw [hls]; exact hx
   refine R.g_cond_t rfl (decide_eq_true hb6) ?_
   refine R.g_skip ?_
   refine g_then ?_
   refine R.g_seq ?_
   refine R.g_block ?_
   refine R.g_seq ?_
   refine R.g_region ?_
   refine R.l_of rfl (fun h => hL h) (s_val (v := .int .i64 ((k : Int))) (wt0 rfl) rfl rfl (x_move rfl rfl) ?_)
   refine R.l_of rfl (fun h => hL h) (s_val (v := .pointer ((r.p).map fun q => q.add (k * 1))) (wt0 rfl) rfl rfl (x_idxR k ((rows_read ((H5.bigAt (k := 0) rfl).at (k := 2) rfl) hrow)) rfl rfl rfl Try.underlying68 sz59 (by omega)) ?_)
   refine R.l_of rfl (fun h => hL h) (s_val (v := .pointer (some ⟨x, 0, none⟩)) (wt0 rfl) rfl rfl (x_loadR1 k ((rows_read ((H5.bigAt (k := 0) rfl).at (k := 2) rfl) hrow)) (by omega) rfl rfl Try.underlying59 rfl (ptL_at hx)) ?_)
   refine R.l_of rfl (fun h => hL h) (s_val (v := .int .i64 ((k : Int))) (wt0 rfl) rfl rfl (x_assign rfl rfl) ?_)
   refine R.l_of rfl (fun h => hL h) (s_val (v := .pointer (some ⟨x, 0, none⟩)) (wt0 rfl) rfl rfl (x_assign rfl rfl) ?_)
   refine R.g_nil ?_
   refine g_then ?_
   refine R.g_seq ?_
   refine R.g_region ?_
   refine R.l_of rfl (fun h => hL h) (s_val (v := .func (.yield l) #[] #[]) (wt0 rfl) rfl rfl (x_move rfl rfl) ?_)
   refine R.l_of rfl (fun h => hL h) (s_val (v := .int .i64 ((i : Int))) (wt0 rfl) rfl rfl (x_move rfl rfl) ?_)
   refine R.l_of rfl (fun h => hL h) (s_val (v := .int .i64 ((k : Int))) (wt0 rfl) rfl rfl (x_move rfl rfl) ?_)
   refine R.l_of rfl (fun h => hL h) (s_val (v := .agg #[.int .i64 ((i : Int)), .int .i64 ((k : Int)), .int .i64 0, .int .i64 0]) (wt0 rfl) rfl rfl (x_build (vs := [.int .i64 ((i : Int)), .int .i64 ((k : Int))]) rfl rfl (cells := #[.int .i64 ((i : Int)), .int .i64 ((k : Int)), .int .i64 0, .int .i64 0]) (by kernel_rfl)) ?_)
   refine R.l_of rfl (fun h => hL h) (s_val (v := .pointer (some ⟨x, 0, none⟩)) (wt0 rfl) rfl rfl (x_move rfl rfl) ?_)
   refine l_yield (wt0 rfl) rfl rfl rfl rfl rfl (hY (uptoF (lsOf rows) i k) (i, k, x) wq4 _ C2 hJk (flat_split hxl (by rw [ls_len]; omega)) H5) ?_
   rintro _ wq7 (⟨rfl, C3, hJ3, hS2⟩ | ⟨rfl, C3, hJx, hS2⟩)
   ·
    refine ⟨_, rfl, ?_⟩
    have H8 : S wq7 [Big [Ob b (.cells #[.pointer (some ⟨g, 0, none⟩)] 26 (0, 0)), Rw 68 1 P nr C (rosV rows), RowsI 59 1 ptL rows], Big [], C3] := hS2
    rw [← uptoF_next hxl] at hJ3
    refine R.l_of rfl (fun h => hL h) (s_val (v := .bool false) (wt0 rfl) rfl rfl (x_not (b := true) rfl rfl) ?_)
    refine R.g_nil ?_
    refine g_then ?_
    refine g_weak [(0, .func (.yield l) #[] #[]), (3, .int .i64 ((i : Int))), (10, .slice P nr C), (11, .int .i64 ((nr : Int))), (12, .int .i64 ((i : Int))), (17, .slice r.p r.l.length r.c), (18, .int .i64 ((r.l.length : Int))), (19, .int .i64 ((k : Int))), (30, .bool false)] ⟨rfl, rfl, rfl, rfl, rfl, rfl, rfl, rfl, rfl, trivial⟩ ?_
    refine R.g_cond_f rfl rfl ?_
    refine R.g_skip ?_
    refine g_in ?_
    refine g_then ?_
    refine R.g_region ?_
    refine R.l_of rfl (fun h => hL h) (s_val (v := .int .i64 (((k + 1 : Nat) : Int))) (wt0 rfl) rfl rfl (x_bin rfl rfl rfl (b_add (by rw [w64 (by omega)]; omega))) ?_)
    refine R.l_of rfl (fun h => hL h) (s_val (v := .int .i64 (((k + 1 : Nat) : Int))) (wt0 rfl) rfl rfl (x_move rfl rfl) ?_)
    refine R.g_nil ?_
    refine g_then ?_
    refine g_round (i := (k, C2)) (k + 1, C3) ?_ ?_ ?_
    · exact ⟨rfl, rfl, rfl, rfl, rfl, rfl, rfl, rfl, trivial⟩
    · exact ⟨by omega, hJ3, H8⟩
    · (try dsimp only); omega
   ·
    refine ⟨_, rfl, ?_⟩
    have H9 : S wq7 [Big [Ob b (.cells #[.pointer (some ⟨g, 0, none⟩)] 26 (0, 0)), Rw 68 1 P nr C (rosV rows), RowsI 59 1 ptL rows], Big [], C3] := hS2
    refine R.l_of rfl (fun h => hL h) (s_val (v := .bool true) (wt0 rfl) rfl rfl (x_not (b := false) rfl rfl) ?_)
    refine R.g_nil ?_
    refine g_then ?_
    refine g_weak [(0, .func (.yield l) #[] #[]), (3, .int .i64 ((i : Int))), (10, .slice P nr C), (11, .int .i64 ((nr : Int))), (12, .int .i64 ((i : Int))), (17, .slice r.p r.l.length r.c), (18, .int .i64 ((r.l.length : Int))), (19, .int .i64 ((k : Int))), (30, .bool true)] ⟨rfl, rfl, rfl, rfl, rfl, rfl, rfl, rfl, rfl, trivial⟩ ?_
    refine R.g_cond_t rfl rfl ?_
    refine R.g_ret ?_
    refine g_in_ret ?_
    refine g_then_ret ?_
    refine g_then_ret ?_
    refine g_in_ret ?_
    refine g_in_ret ?_
    refine g_then_ret ?_
    refine g_then_ret ?_
    refine g_in_ret ?_
    refine fin_ret [] [] rfl trivial ?_
    exact ⟨⟨_, rfl⟩, .inr ⟨_, _, trivial, hJx, (H9.takes [0, 2] (by decide))⟩⟩
  ·
   refine R.g_cond_f rfl (decide_eq_false hb6) ?_
   refine R.g_exit ?_
   refine g_then_exit ?_
   refine g_then_exit ?_
   refine g_in_hit ?_
   refine g_in ?_
   refine g_then ?_
   refine R.g_region ?_
   refine R.l_of rfl (fun h => hL h) (s_val (v := .int .i64 (((i + 1 : Nat) : Int))) (wt0 rfl) rfl rfl (x_bin rfl rfl rfl (b_add (by rw [w64 (by omega)]; omega))) ?_)
   refine R.l_of rfl (fun h => hL h) (s_val (v := .int .i64 (((i + 1 : Nat) : Int))) (wt0 rfl) rfl rfl (x_move rfl rfl) ?_)
   refine R.g_nil ?_
   refine g_then ?_
   have hki : k = r.l.length := by omega
   subst hki
   rw [← hls, ← uptoF_row (by rw [ls_len]; omega)] at hJk
   refine g_round (i := (i, C1)) (i + 1, C2) ?_ ?_ ?_
   · exact ⟨rfl, rfl, rfl, rfl, trivial⟩
   · exact ⟨by omega, hJk, H5⟩
   · (try dsimp only); omega
 ·
  refine R.g_cond_f rfl (decide_eq_false hb3) ?_
  refine R.g_exit ?_
  refine g_then_exit ?_
  refine g_then_exit ?_
  refine g_in_hit ?_
  refine fin_end [] [] rfl trivial ?_
  have hin : i = (lsOf rows).length := by rw [ls_len]; omega
  subst hin
  rw [uptoF_all] at hJi
  exact ⟨⟨_, rfl⟩, .inl ⟨_, _, rfl, hJi, (H2.takes [0, 2] (by decide))⟩⟩
set_option maxRecDepth 20000 in
set_option maxHeartbeats 4000000 in
set_option maxRecDepth 20000 in
set_option maxHeartbeats 4000000 in
theorem all_s (g : Nat) (w : World) : Calls Try.prog 32 #[.pointer (some ⟨g, 0, none⟩)] w fun e w' => ∃ b, e = .returned (.func (.func 57) #[] #[.pointer (some ⟨b, 0, none⟩)]) ∧ S w' ([Ob b (.cells #[.pointer (some ⟨g, 0, none⟩)] 26 (0, 0))] ++ [Old w no]) := by
 have H0 := S.old w
 refine enter 4 Try.func32 rfl rfl rfl ?_
 refine g_weak [(0, .pointer (some ⟨g, 0, none⟩))] ⟨rfl, trivial⟩ ?_
 refine g_seq ?_
 refine g_region ?_
 refine l_of (s_box H0 (wt0 rfl) rfl rfl rfl rfl ?_)
 intro g1 wq2 H3
 refine l_of (s_val (v := .nilFunc) (wt0 rfl) rfl rfl (x_assign rfl rfl) ?_)
 refine g_nil ?_
 refine g_then ?_
 refine g_seq ?_
 refine g_region ?_
 refine l_of (s_val (v := .func (.func 57) #[] #[.pointer (some ⟨g1, 0, none⟩)]) (wt0 rfl) rfl rfl (x_makeFunc rfl rfl rfl) ?_)
 refine l_of (s_val (v := .func (.func 57) #[] #[.pointer (some ⟨g1, 0, none⟩)]) (wt0 rfl) rfl rfl (x_assign rfl rfl) ?_)
 refine g_nil ?_
 refine g_then ?_
 refine g_ret ?_
 refine fin_ret [.tmp 2] [.func (.func 57) #[] #[.pointer (some ⟨g1, 0, none⟩)]] rfl ⟨rfl, trivial⟩ ?_
 exact ⟨_, rfl, H3⟩
end Go.Proofs.Ytibdlnjnomikjaa
