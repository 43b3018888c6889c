import Derived.Test.YtibdlnjnomikjaaFk
import Derived.Test.YtibdlnjnomikjaaTu
set_option linter.unusedSimpArgs false
set_option linter.unusedVariables false
namespace Go.Proofs.Ytibdlnjnomikjaa
open Go.RowKit

theorem cl25 : callable Try.prog 25 = true := by kernel_rfl
theorem cl26 : callable Try.prog 26 = true := by kernel_rfl
theorem cl30 : callable Try.prog 30 = true := by kernel_rfl
theorem inf59 : infO Try.prog 59 = some (some (.pointer none), 1, 8) := by kernel_rfl
theorem inf68 : infO Try.prog 68 = some (some (.slice none 0 0), 1, 24) := by kernel_rfl
theorem sz37 : szO Try.prog 37 = some 1 := by kernel_rfl
theorem ze59 : zeO Try.prog 59 = some (.pointer none) := by kernel_rfl
theorem ze68 : zeO Try.prog 68 = some (.slice none 0 0) := by kernel_rfl
theorem ze9 : zeO Try.prog 9 = some (.string (⟨#[]⟩)) := by kernel_rfl
theorem sortT {seed : ByteArray} {b : Nat} (hs : seed.size ≤ 1000) (l : List ByteArray) (p : Option Addr) (nn cc : Nat) (hn : l.length = nn) (hm : nn ≤ 1000) (hl : ∀ s ∈ l, s.size ≤ 1000) (w : World) (HS : S w [Rw 9 1 p nn cc (stV l), Ob b (.cells #[.string seed] 9 (0, 0))]) :
    Calls Try.prog 26 #[.slice p nn cc, .func (.func 27) #[] #[.pointer (some ⟨b, 0, none⟩)]] w fun e w' => e = .returned (.tuple #[]) ∧ S w' ([Rw 9 1 p nn cc (stV (sortN seed l)), Ob b (.cells #[.string seed] 9 (0, 0))] ++ [Old w (fps [Rw 9 1 p nn cc (stV l), Ob b (.cells #[.string seed] 9 (0, 0))])]) := by
  have h := sortStable_s (⟨#[]⟩, 0) (fun p : ByteArray × Nat => Value.string p.1) (fun _ => rfl) (fun _ => rfl) (fun _ => rfl) l.zipIdx nn (by rw [List.length_zipIdx]; exact hn) p cc (by omega) (fun p q => cmpS seed p.1 q.1) 27 #[] #[.pointer (some ⟨b, 0, none⟩)] _ (cmps_new (b := b) hs (fun q hq => hl q.1 (by have h := List.mem_map_of_mem (f := Prod.fst) hq; rw [zip_fst] at h; exact h))) w (by rw [mV_zip]; exact HS)
  rw [mV_zip, mV_sort] at h
  exact h
set_option maxRecDepth 20000 in
set_option maxHeartbeats 4000000 in
theorem order_s {g nr C : Nat} {P : Option Addr} {cu mp : Value} {ev now til : Int} {begun whole dn stopped : Bool} {rows : Rws} {tk : Nat → Tk} {q : Int} (hnr : nr = rows.length) (hnr2 : nr ≤ 1000) (hrl : ∀ r ∈ rows, r.l.length ≤ 1000)  (w : World) (HS : S w [Ob g (.cells #[cu, .int .i64 ev, .slice P nr C, mp, .int .i64 now, .int .i64 til, .bool begun, .bool whole, .bool dn, .bool stopped] 64 (0, 0)), Rw 68 1 P nr C (rosV rows), RowsI 59 1 ptL rows, Fam 71 Tk.cells (adr rows) tk]) : Calls Try.prog 12 #[.pointer (some ⟨g, 0, none⟩), .int .i64 q] w fun e w' => ((q < 0 ∨ (nr : Int) ≤ q) ∧ e = .returned (.tuple #[.slice none 0 0, .int .i64 7]) ∧ S w' ([Ob g (.cells #[cu, .int .i64 ev, .slice P nr C, mp, .int .i64 now, .int .i64 til, .bool begun, .bool whole, .bool dn, .bool stopped] 64 (0, 0)), Rw 68 1 P nr C (rosV rows), RowsI 59 1 ptL rows, Fam 71 Tk.cells (adr rows) tk] ++ [Old w (fps [Ob g (.cells #[cu, .int .i64 ev, .slice P nr C, mp, .int .i64 now, .int .i64 til, .bool begun, .bool whole, .bool dn, .bool stopped] 64 (0, 0)), Rw 68 1 P nr C (rosV rows), RowsI 59 1 ptL rows, Fam 71 Tk.cells (adr rows) tk])])) ∨ (∃ (j : Nat) (r : Ro Nat) (p : Option Addr) (c : Nat), q = (j : Int) ∧ rows[j]? = some r ∧ e = .returned (.tuple #[.slice p r.l.length c, .int .i64 0]) ∧ S w' (Rw 9 1 p r.l.length c (stV (namesT tk r.l)) :: [Ob g (.cells #[cu, .int .i64 ev, .slice P nr C, mp, .int .i64 now, .int .i64 til, .bool begun, .bool whole, .bool dn, .bool stopped] 64 (0, 0)), Rw 68 1 P nr C (rosV rows), RowsI 59 1 ptL rows, Fam 71 Tk.cells (adr rows) tk] ++ [Old w (fps [Ob g (.cells #[cu, .int .i64 ev, .slice P nr C, mp, .int .i64 now, .int .i64 til, .bool begun, .bool whole, .bool dn, .bool stopped] 64 (0, 0)), Rw 68 1 P nr C (rosV rows), RowsI 59 1 ptL rows, Fam 71 Tk.cells (adr rows) tk])])) := by
 have H0 := HS.beginI
 refine enter 45 Try.func12 rfl rfl rfl ?_
 refine g_weak [(0, .pointer (some ⟨g, 0, none⟩)), (1, .int .i64 q)] ⟨rfl, rfl, trivial⟩ ?_
 refine w_s ?_
 refine w_r2 ?_
 refine w_e ?_
 refine g_seq ?_
 refine g_block ?_
 refine w_s ?_
 refine w_m ?_
 refine w_b (v := .bool false) (hb := (b_eqN (r := false) Try.underlying26 rfl)) ?_
 refine w_a ?_
 refine w_e ?_
 refine g_cond_f rfl rfl ?_
 refine w_s ?_
 refine w_m ?_
 refine w_b ?_
 refine w_m ?_
 by_cases hb1 : (q : Int) < 0
 ·
  refine w_n (decide_eq_true hb1) ?_
  refine w_n (decide_eq_true hb1) ?_
  refine w_n (decide_eq_true hb1) ?_
  refine w_n (decide_eq_true hb1) ?_
  refine w_n (decide_eq_true hb1) ?_
  refine w_n (decide_eq_true hb1) ?_
  refine w_n (decide_eq_true hb1) ?_
  refine w_v (v := .bool true) (x_pick_t rfl rfl (decide_eq_true hb1) rfl) ?_
  refine w_a ?_
  refine w_e ?_
  refine g_weak [(0, .pointer (some ⟨g, 0, none⟩)), (1, .int .i64 q), (12, .bool true)] ⟨rfl, rfl, rfl, trivial⟩ ?_
  refine g_cond_t rfl rfl ?_
  refine w_s ?_
  refine w_r2 ?_
  refine w_e ?_
  refine g_ret ?_
  refine g_in_ret ?_
  refine g_then_ret ?_
  refine fin_ret [.tmp 4, .tmp 5] [.slice none 0 0, .int .i64 7] rfl ⟨rfl, rfl, trivial⟩ ?_
  exact .inl ⟨by omega, rfl, H0.takes [0, 1, 2, 3, 4] (by decide)⟩
 ·
  refine w_g (decide_eq_false hb1) xm ?_
  refine w_g (decide_eq_false hb1) xm ?_
  refine w_g (decide_eq_false hb1) xn ?_
  refine w_g (decide_eq_false hb1) (xf 2) ?_
  refine w_g (decide_eq_false hb1) (xl H0 0) ?_
  refine w_g (v := .int .i64 ((nr : Int))) (decide_eq_false hb1) (x_lenl rfl rfl Try.underlying62) ?_
  refine w_g (decide_eq_false hb1) (x_bin rfl rfl rfl b_geq) ?_
  refine w_v (v := .bool (decide (((nr : Int) : Int) ≤ q))) (x_pick_f rfl rfl (decide_eq_false hb1) rfl) ?_
  refine w_a ?_
  refine w_e ?_
  refine g_weak [(0, .pointer (some ⟨g, 0, none⟩)), (1, .int .i64 q), (12, .bool (decide (((nr : Int) : Int) ≤ q)))] ⟨rfl, rfl, rfl, trivial⟩ ?_
  by_cases hb2 : ((nr : Int) : Int) ≤ q
  ·
   refine g_cond_t rfl (decide_eq_true hb2) ?_
   refine w_s ?_
   refine w_r2 ?_
   refine w_e ?_
   refine g_ret ?_
   refine g_in_ret ?_
   refine g_then_ret ?_
   refine fin_ret [.tmp 4, .tmp 5] [.slice none 0 0, .int .i64 7] rfl ⟨rfl, rfl, trivial⟩ ?_
   exact .inl ⟨by omega, rfl, H0.takes [0, 1, 2, 3, 4] (by decide)⟩
  ·
   refine g_cond_f rfl (decide_eq_false hb2) ?_
   refine g_skip ?_
   refine g_in ?_
   refine g_then ?_
   refine w_s ?_
   have H3 : S w [Rw 9 1 none 0 0 (stV []), Ob g (.cells #[cu, .int .i64 ev, .slice P nr C, mp, .int .i64 now, .int .i64 til, .bool begun, .bool whole, .bool dn, .bool stopped] 64 (0, 0)), Rw 68 1 P nr C (rosV rows), RowsI 59 1 ptL rows, Fam 71 Tk.cells (adr rows) tk, Old w (fps [Ob g (.cells #[cu, .int .i64 ev, .slice P nr C, mp, .int .i64 now, .int .i64 til, .bool begun, .bool whole, .bool dn, .bool stopped] 64 (0, 0)), Rw 68 1 P nr C (rosV rows), RowsI 59 1 ptL rows, Fam 71 Tk.cells (adr rows) tk])] := H0.nilRw 9 1
   refine w_a ?_
   refine w_e ?_
   refine g_seq ?_
   refine w_s ?_
   refine w_r3 ?_
   refine w_1 H3 1 ?_
   refine w_m ?_
   obtain ⟨j, rfl⟩ : ∃ j : Nat, q = (j : Int) := ⟨q.toNat, by omega⟩
   obtain ⟨r, hrow⟩ : ∃ r, rows[j]? = some r := ⟨_, List.getElem?_eq_getElem (by omega)⟩
   have hr2 := hrl r (List.mem_of_getElem? hrow)
   refine w_v (v := .pointer ((P).map fun q => q.add (j * 1))) (x_idxR j ((H3.rwReads (k := 2) rfl)) rfl rfl rfl Try.underlying62 sz68 (by omega)) ?_
   refine w_v (v := .slice r.p r.l.length r.c) (x_loadR1 j ((H3.rwReads (k := 2) rfl)) (by omega) rfl rfl Try.underlying68 rfl (rosV_at hrow)) ?_
   refine w_v (v := .int .i64 ((r.l.length : Int))) (x_lenl rfl rfl Try.underlying68) ?_
   refine w_m ?_
   refine w_e ?_
   refine g_block ?_
   refine g_loop (ι := Nat × Option Addr × Nat) (fun (k, p, c) => [(6, .slice p k c), (30, .slice r.p r.l.length r.c), (31, .int .i64 ((r.l.length : Int))), (32, .int .i64 ((k : Int)))]) (fun (k, p, c) wx => (k ≤ r.l.length) ∧ S wx [Rw 9 1 p k c (stV (namesT tk (r.l.take k))), Ob g (.cells #[cu, .int .i64 ev, .slice P nr C, mp, .int .i64 now, .int .i64 til, .bool begun, .bool whole, .bool dn, .bool stopped] 64 (0, 0)), Rw 68 1 P nr C (rosV rows), RowsI 59 1 ptL rows, Fam 71 Tk.cells (adr rows) tk, Old w (fps [Ob g (.cells #[cu, .int .i64 ev, .slice P nr C, mp, .int .i64 now, .int .i64 til, .bool begun, .bool whole, .bool dn, .bool stopped] 64 (0, 0)), Rw 68 1 P nr C (rosV rows), RowsI 59 1 ptL rows, Fam 71 Tk.cells (adr rows) tk])]) (fun (k, p, c) => r.l.length - k) (0, none, 0) ⟨rfl, rfl, rfl, rfl, trivial⟩ ⟨Nat.zero_le _, (H3.takes [0, 1, 2, 3, 4, 5] (by decide))⟩ ?_
   rintro ⟨k, p, c⟩ wq4 ⟨hk, H5⟩
   refine g_weak [(6, .slice p k c), (30, .slice r.p r.l.length r.c), (31, .int .i64 ((r.l.length : Int))), (32, .int .i64 ((k : Int)))] ⟨rfl, rfl, rfl, rfl, trivial⟩ ?_
   refine w_s ?_
   refine w_b ?_
   refine w_e ?_
   refine g_seq ?_
   by_cases hb6 : ((k : Int) : Int) < (r.l.length : Int)
   ·
    obtain ⟨x, hx⟩ : ∃ x, r.l[k]? = some x := ⟨_, List.getElem?_eq_getElem (by omega)⟩
    refine g_cond_t rfl (decide_eq_true hb6) ?_
    refine g_skip ?_
    refine g_then ?_
    refine g_seq ?_
    refine g_block ?_
    refine w_s ?_
    refine w_v (v := .pointer ((r.p).map fun q => q.add (k * 1))) (x_idxR k ((rows_read (H5.at (k := 3) rfl) hrow)) rfl rfl rfl Try.underlying68 sz59 (by omega)) ?_
    refine w_v (v := .pointer (some ⟨x, 0, none⟩)) (x_loadR1 k ((rows_read (H5.at (k := 3) rfl) hrow)) (by omega) rfl rfl Try.underlying59 rfl (ptL_at hx)) ?_
    refine w_a ?_
    refine w_e ?_
    refine g_region ?_
    refine w_r4 ?_
    refine w_v (v := .string ((tk x).name)) (x_loadC rfl rfl Try.underlying9 rfl (H5.famCell (k := 4) rfl (mem_adr_row (List.mem_of_getElem? hrow) (List.mem_of_getElem? hx)) rfl)) ?_
    refine l_of (s_buildSlice H5 (wt0 rfl) rfl rfl rfl (vs := [.string ((tk x).name)]) rfl Try.underlying37 sz9 ze9 rfl rfl (cells := #[.string ((tk x).name)]) (by kernel_rfl) ?_)
    intro g7 wq8 H9
    refine l_of (s_appendR (n := k) (m := 1) (sc := c) (xs := (stV (namesT tk (r.l.take k)))) (news := [.string ((tk x).name)]) (p := p) (ad := ⟨g7, 0, none⟩) H9 1 (wt0 rfl) rfl rfl rfl rfl rfl rfl Try.underlying37 inf9 rfl (by decide) (by decide) rfl (by decide) (news_ob H9 (j0 := 0) rfl) rfl (by omega) ?_)
    intro p10 c11 wq12 (H13 : S wq12 [Ob g7 (.cells #[.string ((tk x).name)] 9 (0, 0)), Rw 9 1 p10 (k + 1) c11 ((stV (namesT tk (r.l.take k))) ++ [.string ((tk x).name)]), Ob g (.cells #[cu, .int .i64 ev, .slice P nr C, mp, .int .i64 now, .int .i64 til, .bool begun, .bool whole, .bool dn, .bool stopped] 64 (0, 0)), Rw 68 1 P nr C (rosV rows), RowsI 59 1 ptL rows, Fam 71 Tk.cells (adr rows) tk, Old w (fps [Ob g (.cells #[cu, .int .i64 ev, .slice P nr C, mp, .int .i64 now, .int .i64 til, .bool begun, .bool whole, .bool dn, .bool stopped] 64 (0, 0)), Rw 68 1 P nr C (rosV rows), RowsI 59 1 ptL rows, Fam 71 Tk.cells (adr rows) tk])])
    refine w_a ?_
    refine g_nil ?_
    refine g_in ?_
    refine g_then ?_
    refine g_region ?_
    refine w_b (v := .int .i64 ((k : Int) + 1)) (hb := (b_add (w64 (by omega)))) ?_
    refine w_m ?_
    refine w_e ?_
    refine g_round (i := (k, p, c)) (k + 1, p10, c11) ?_ ?_ ?_
    · exact ⟨rfl, rfl, rfl, rfl, trivial⟩
    · exact ⟨by omega, (by rw [show stV (namesT tk (r.l.take (k + 1))) = stV (namesT tk (r.l.take k)) ++ [Value.string (tk x).name] from by rw [take_snoc hx]; simp [namesT, stV]]; exact H13.takes [1, 2, 3, 4, 5, 6] (by decide))⟩
    · (try dsimp only); omega
   ·
    refine g_cond_f rfl (decide_eq_false hb6) ?_
    refine g_exit ?_
    refine g_then_exit ?_
    refine g_then_exit ?_
    refine g_in_hit ?_
    refine g_then ?_
    refine w_s ?_
    refine w_r3 ?_
    refine w_e ?_
    refine g_ret ?_
    refine fin_ret [.tmp 4, .tmp 5] [.slice p k c, .int .i64 0] rfl ⟨rfl, rfl, trivial⟩ ?_
    have hkl : k = r.l.length := by omega
    subst hkl
    rw [List.take_length] at H5
    exact .inr ⟨j, r, p, c, rfl, hrow, rfl, H5.takes [0, 1, 2, 3, 4, 5] (by decide)⟩
set_option maxRecDepth 20000 in
set_option maxHeartbeats 4000000 in
theorem new_s (seed : ByteArray) (hsd : seed.size ≤ 1000) (ls : List (Ro ByteArray)) (p : Option Addr) (n c : Nat) (hn : n = ls.length) (hn2 : n ≤ 1000) (hln : ∀ r ∈ ls, r.l.length ≤ 1000 ∧ ∀ s ∈ r.l, s.size ≤ 1000) (whole : Bool) (w : World) (hr : Reads w p n c 1 (rosV ls)) (hrs : ∀ r ∈ ls, Reads w r.p r.l.length r.c 1 (stV r.l)) : Calls Try.prog 9 #[.string seed, .slice p n c, .bool whole] w fun e w' => (¬ (seed.size ≤ 100 ∧ goodL (tlsOf ls)) ∧ e = .returned (.tuple #[.pointer none, .int .i64 1]) ∧ S w' [Old w no]) ∨ (∃ (g mg nr C : Nat) (P : Option Addr) (rows : Rws) (tk : Nat → Tk) (M : ByteArray → Option Nat), seed.size ≤ 100 ∧ goodL (tlsOf ls) ∧ NewI seed ls ls.length rows [] 0 tk M ∧ nr = rows.length ∧ e = .returned (.tuple #[.pointer (some ⟨g, 0, none⟩), .int .i64 0]) ∧ S w' ([Ob g (.cells #[.pointer none, .int .i64 0, .slice P nr C, .map (some mg), .int .i64 0, .int .i64 0, .bool false, .bool whole, .bool false, .bool false] 64 (0, 0)), Rw 68 1 P nr C (rosV rows), RowsI 59 1 ptL rows, Fam 71 Tk.cells (adr rows) tk, Mp Value.string (fun x : Nat => Value.pointer (some ⟨x, 0, none⟩)) okT mg M] ++ [Old w no])) := by
 have H0 := S.old w
 refine enter 98 Try.func9 rfl rfl rfl ?_
 refine g_weak [(0, .string seed), (1, .slice p n c), (2, .bool whole)] ⟨rfl, rfl, rfl, trivial⟩ ?_
 refine w_s ?_
 refine l_of (s_box H0 (wt0 rfl) rfl rfl rfl rfl ?_)
 intro g1 wq2 H3
 refine w_r2 ?_
 refine w_e ?_
 refine w_s ?_
 refine l_of (s_makeMap (α := Nat) Value.string (fun x : Nat => Value.pointer (some ⟨x, 0, none⟩)) okT H3 (wt0 rfl) rfl rfl rfl ?_)
 intro mg4 wq5 H6
 refine w_m ?_
 refine w_v (v := .agg #[.pointer none, .int .i64 0, .slice none 0 0, .map (some mg4), .int .i64 0, .int .i64 0, .bool false, .bool whole, .bool false, .bool false]) (x_build (vs := [.map (some mg4), .bool whole]) rfl rfl (cells := #[.pointer none, .int .i64 0, .slice none 0 0, .map (some mg4), .int .i64 0, .int .i64 0, .bool false, .bool whole, .bool false, .bool false]) (by kernel_rfl)) ?_
 refine l_of (s_box H6 (wt0 rfl) rfl rfl rfl rfl ?_)
 intro g7 wq8 H9
 refine w_a ?_
 refine w_e ?_
 refine g_seq ?_
 refine w_s ?_
 refine w_1 H9 2 ?_
 refine w_v (v := .int .i64 ((seed.size : Int))) (x_lens rfl rfl Try.underlying9) ?_
 refine w_b ?_
 refine w_m ?_
 by_cases hb10 : (100 : Int) < (seed.size : Int)
 ·
  refine w_n (decide_eq_true hb10) ?_
  refine w_n (decide_eq_true hb10) ?_
  refine w_n (decide_eq_true hb10) ?_
  refine w_v (v := .bool true) (x_pick_t rfl rfl (decide_eq_true hb10) rfl) ?_
  refine w_m ?_
  refine w_n rfl ?_
  refine w_n rfl ?_
  refine w_n rfl ?_
  refine w_v (v := .bool true) (x_pick_t rfl rfl rfl rfl) ?_
  refine w_e ?_
  refine g_weak [(1, .slice p n c), (3, .pointer (some ⟨g1, 0, none⟩)), (8, .pointer (some ⟨g7, 0, none⟩)), (30, .bool true)] ⟨rfl, rfl, rfl, rfl, trivial⟩ ?_
  refine g_cond_t rfl rfl ?_
  refine w_s ?_
  refine w_r2 ?_
  refine w_e ?_
  refine g_ret ?_
  refine g_then_ret ?_
  refine fin_ret [.tmp 6, .tmp 7] [.pointer none, .int .i64 1] rfl ⟨rfl, rfl, trivial⟩ ?_
  exact .inl ⟨fun hg => by have h1 := hg.2.1; have h2 := hg.2.2.1; unfold tlsOf at h1 h2; rw [List.length_map] at h1 h2; have h3 := hg.1; omega, rfl, H9.mask [false, false, false, true]⟩
 ·
  refine w_g (decide_eq_false hb10) xm ?_
  refine w_g (v := .int .i64 ((n : Int))) (decide_eq_false hb10) (x_lenl rfl rfl Try.underlying22) ?_
  refine w_g (decide_eq_false hb10) (x_bin rfl rfl rfl b_lss) ?_
  refine w_v (v := .bool (decide (((n : Int) : Int) < 1))) (x_pick_f rfl rfl (decide_eq_false hb10) rfl) ?_
  refine w_m ?_
  by_cases hb11 : ((n : Int) : Int) < 1
  ·
   refine w_n (decide_eq_true hb11) ?_
   refine w_n (decide_eq_true hb11) ?_
   refine w_n (decide_eq_true hb11) ?_
   refine w_v (v := .bool true) (x_pick_t rfl rfl (decide_eq_true hb11) rfl) ?_
   refine w_e ?_
   refine g_weak [(1, .slice p n c), (3, .pointer (some ⟨g1, 0, none⟩)), (8, .pointer (some ⟨g7, 0, none⟩)), (30, .bool true)] ⟨rfl, rfl, rfl, rfl, trivial⟩ ?_
   refine g_cond_t rfl rfl ?_
   refine w_s ?_
   refine w_r2 ?_
   refine w_e ?_
   refine g_ret ?_
   refine g_then_ret ?_
   refine fin_ret [.tmp 6, .tmp 7] [.pointer none, .int .i64 1] rfl ⟨rfl, rfl, trivial⟩ ?_
   exact .inl ⟨fun hg => by have h1 := hg.2.1; have h2 := hg.2.2.1; unfold tlsOf at h1 h2; rw [List.length_map] at h1 h2; have h3 := hg.1; omega, rfl, H9.mask [false, false, false, true]⟩
  ·
   refine w_g (decide_eq_false hb11) xm ?_
   refine w_g (v := .int .i64 ((n : Int))) (decide_eq_false hb11) (x_lenl rfl rfl Try.underlying22) ?_
   refine w_g (decide_eq_false hb11) (x_bin rfl rfl rfl b_gtr) ?_
   refine w_v (v := .bool (decide ((20 : Int) < (n : Int)))) (x_pick_f rfl rfl (decide_eq_false hb11) rfl) ?_
   refine w_e ?_
   refine g_weak [(1, .slice p n c), (3, .pointer (some ⟨g1, 0, none⟩)), (8, .pointer (some ⟨g7, 0, none⟩)), (30, .bool (decide ((20 : Int) < (n : Int))))] ⟨rfl, rfl, rfl, rfl, trivial⟩ ?_
   by_cases hb12 : (20 : Int) < (n : Int)
   ·
    refine g_cond_t rfl (decide_eq_true hb12) ?_
    refine w_s ?_
    refine w_r2 ?_
    refine w_e ?_
    refine g_ret ?_
    refine g_then_ret ?_
    refine fin_ret [.tmp 6, .tmp 7] [.pointer none, .int .i64 1] rfl ⟨rfl, rfl, trivial⟩ ?_
    exact .inl ⟨fun hg => by have h1 := hg.2.1; have h2 := hg.2.2.1; unfold tlsOf at h1 h2; rw [List.length_map] at h1 h2; have h3 := hg.1; omega, rfl, H9.mask [false, false, false, true]⟩
   ·
    refine g_cond_f rfl (decide_eq_false hb12) ?_
    refine g_skip ?_
    refine g_then ?_
    refine g_seq ?_
    refine w_s ?_
    refine w_m ?_
    refine w_v (v := .int .i64 ((n : Int))) (x_lenl rfl rfl Try.underlying22) ?_
    have H13 := H9.famNil 71 Tk.cells (fun _ => ⟨⟨#[]⟩, 0, 0, false, false⟩)
    have H14 := S.rowsNil (e := 59) (size := 1) (enc := ptL) H13
    have H15 := S.nilRw H14 68 1
    have H16 : S wq8 [Rw 68 1 none 0 0 (rosV ([] : Rws)), RowsI 59 1 ptL [], Fam 71 Tk.cells (adr [] ++ []) (fun _ => ⟨⟨#[]⟩, 0, 0, false, false⟩), Ob g7 (.cells #[.pointer none, .int .i64 0, .slice none 0 0, .map (some mg4), .int .i64 0, .int .i64 0, .bool false, .bool whole, .bool false, .bool false] 64 (0, 0)), Mp Value.string (fun x : Nat => Value.pointer (some ⟨x, 0, none⟩)) okT mg4 (fun _ => none), Ob g1 (.cells #[.string seed] 9 (0, 0)), Old w no] := H15
    refine w_m ?_
    refine w_e ?_
    refine g_block ?_
    refine g_loop (ι := Nat × Rws × (Nat → Tk) × Option Addr × Nat × (ByteArray → Option Nat)) (fun (i, rows, tk, P, C, M) => [(3, .pointer (some ⟨g1, 0, none⟩)), (8, .pointer (some ⟨g7, 0, none⟩)), (31, .slice p n c), (32, .int .i64 ((n : Int))), (33, .int .i64 ((i : Int)))]) (fun (i, rows, tk, P, C, M) wx => (i ≤ n) ∧ (NewI seed ls i rows [] 0 tk M) ∧ S wx [Ob g7 (.cells #[.pointer none, .int .i64 0, .slice P i C, .map (some mg4), .int .i64 0, .int .i64 0, .bool false, .bool whole, .bool false, .bool false] 64 (0, 0)), Rw 68 1 P i C (rosV rows), RowsI 59 1 ptL rows, Fam 71 Tk.cells (adr rows ++ []) tk, Mp Value.string (fun x : Nat => Value.pointer (some ⟨x, 0, none⟩)) okT mg4 M, Ob g1 (.cells #[.string seed] 9 (0, 0)), Old w no]) (fun (i, rows, tk, P, C, M) => n - i) (0, [], (fun _ => ⟨⟨#[]⟩, 0, 0, false, false⟩), none, 0, (fun _ => none)) ⟨rfl, rfl, rfl, rfl, rfl, trivial⟩ ⟨Nat.zero_le _, NewI.start _ _ _, (H16.takes [3, 0, 1, 2, 4, 5, 6] (by decide))⟩ ?_
    rintro ⟨i, rows, tk, P, C, M⟩ wq17 ⟨hi, hN, H18⟩
    refine g_weak [(3, .pointer (some ⟨g1, 0, none⟩)), (8, .pointer (some ⟨g7, 0, none⟩)), (31, .slice p n c), (32, .int .i64 ((n : Int))), (33, .int .i64 ((i : Int)))] ⟨rfl, rfl, rfl, rfl, rfl, trivial⟩ ?_
    refine w_s ?_
    refine w_b ?_
    refine w_e ?_
    refine g_seq ?_
    by_cases hb19 : ((i : Int) : Int) < (n : Int)
    ·
     obtain ⟨r, hrow⟩ : ∃ r, ls[i]? = some r := ⟨_, List.getElem?_eq_getElem (by omega)⟩
     have hr2 := (hln r (List.mem_of_getElem? hrow)).1
     have hrz := (hln r (List.mem_of_getElem? hrow)).2
     have hra := rowAt_at hrow
     refine g_cond_t rfl (decide_eq_true hb19) ?_
     refine g_skip ?_
     refine g_then ?_
     refine g_seq ?_
     refine g_block ?_
     refine w_s ?_
     refine w_v (v := .pointer ((p).map fun q => q.add (i * 1))) (x_idxR i (H18.oldReads (k := 6) rfl hr) rfl rfl rfl Try.underlying22 sz37 (by omega)) ?_
     refine w_v (v := .slice r.p r.l.length r.c) (x_loadR1 i (H18.oldReads (k := 6) rfl hr) (by omega) rfl rfl Try.underlying37 rfl (rosV_at hrow)) ?_
     refine w_a ?_
     refine w_e ?_
     refine w_s ?_
     refine w_m ?_
     refine l_of (s_call (wt0 rfl) (x_call' rfl rfl cl25) (cloneT r.l r.p r.l.length r.c rfl (by omega) _ (H18.oldReads (k := 6) rfl (hrs r (List.mem_of_getElem? hrow)))) ?_)
     rintro _ wq22 ⟨p20, c21, rfl, H23⟩
     replace H23 : S wq22 [Rw 9 1 p20 r.l.length c21 (stV r.l), Ob g7 (.cells #[.pointer none, .int .i64 0, .slice P i C, .map (some mg4), .int .i64 0, .int .i64 0, .bool false, .bool whole, .bool false, .bool false] 64 (0, 0)), Rw 68 1 P i C (rosV rows), RowsI 59 1 ptL rows, Fam 71 Tk.cells (adr rows ++ []) tk, Mp Value.string (fun x : Nat => Value.pointer (some ⟨x, 0, none⟩)) okT mg4 M, Ob g1 (.cells #[.string seed] 9 (0, 0)), Old w no] := H18.absorb (new := [Rw 9 1 p20 r.l.length c21 (stV r.l)]) H23
     refine b_ret rfl rfl ?_
     refine w_a ?_
     refine w_e ?_
     refine w_s ?_
     refine w_m ?_
     refine w_v (v := .func (.func 27) #[] #[.pointer (some ⟨g1, 0, none⟩)]) (x_makeFunc rfl rfl rfl) ?_
     refine l_of (s_call (wt0 rfl) (x_call' rfl rfl cl26) (sortT (by omega) r.l p20 r.l.length c21 rfl (by omega) hrz _ (H23.takes [0, 6] (by decide))) ?_)
     rintro _ wq24 ⟨rfl, H25⟩
     replace H25 : S wq24 [Rw 9 1 p20 r.l.length c21 (stV (sortN seed r.l)), Ob g1 (.cells #[.string seed] 9 (0, 0)), Ob g7 (.cells #[.pointer none, .int .i64 0, .slice P i C, .map (some mg4), .int .i64 0, .int .i64 0, .bool false, .bool whole, .bool false, .bool false] 64 (0, 0)), Rw 68 1 P i C (rosV rows), RowsI 59 1 ptL rows, Fam 71 Tk.cells (adr rows ++ []) tk, Mp Value.string (fun x : Nat => Value.pointer (some ⟨x, 0, none⟩)) okT mg4 M, Old w no] := by have h := H23.absorbI [0, 6] H25; exact h
     refine b_ret rfl rfl ?_
     refine w_e ?_
     refine w_s ?_
     have H26 : S wq24 [Rw 59 1 none 0 0 (([] : List Nat).flatMap ptL), Rw 9 1 p20 r.l.length c21 (stV (sortN seed r.l)), Ob g1 (.cells #[.string seed] 9 (0, 0)), Ob g7 (.cells #[.pointer none, .int .i64 0, .slice P i C, .map (some mg4), .int .i64 0, .int .i64 0, .bool false, .bool whole, .bool false, .bool false] 64 (0, 0)), Rw 68 1 P i C (rosV rows), RowsI 59 1 ptL rows, Fam 71 Tk.cells (adr rows ++ []) tk, Mp Value.string (fun x : Nat => Value.pointer (some ⟨x, 0, none⟩)) okT mg4 M, Old w no] := H25.nilRw 59 1
     refine w_a ?_
     refine w_e ?_
     refine g_seq ?_
     refine w_s ?_
     refine w_m ?_
     refine w_v (v := .int .i64 ((r.l.length : Int))) (x_lenl rfl rfl Try.underlying37) ?_
     refine w_m ?_
     refine w_e ?_
     refine g_block ?_
     refine g_loop (ι := Nat × List Nat × (Nat → Tk) × Option Addr × Nat × (ByteArray → Option Nat)) (fun (k, l1, tk1, p1, c1, M1) => [(3, .pointer (some ⟨g1, 0, none⟩)), (8, .pointer (some ⟨g7, 0, none⟩)), (11, .slice p1 k c1), (31, .slice p n c), (32, .int .i64 ((n : Int))), (33, .int .i64 ((i : Int))), (42, .slice p20 r.l.length c21), (43, .int .i64 ((r.l.length : Int))), (44, .int .i64 ((k : Int)))]) (fun (k, l1, tk1, p1, c1, M1) wx => (k ≤ r.l.length) ∧ (NewI seed ls i rows l1 k tk1 M1) ∧ S wx [Rw 59 1 p1 k c1 (l1.flatMap ptL), Rw 9 1 p20 r.l.length c21 (stV (sortN seed r.l)), Ob g7 (.cells #[.pointer none, .int .i64 0, .slice P i C, .map (some mg4), .int .i64 0, .int .i64 0, .bool false, .bool whole, .bool false, .bool false] 64 (0, 0)), Rw 68 1 P i C (rosV rows), RowsI 59 1 ptL rows, Fam 71 Tk.cells (adr rows ++ l1) tk1, Mp Value.string (fun x : Nat => Value.pointer (some ⟨x, 0, none⟩)) okT mg4 M1, Ob g1 (.cells #[.string seed] 9 (0, 0)), Old w no]) (fun (k, l1, tk1, p1, c1, M1) => r.l.length - k) (0, [], tk, none, 0, M) ⟨rfl, rfl, rfl, rfl, rfl, rfl, rfl, rfl, rfl, trivial⟩ ⟨Nat.zero_le _, hN, (H26.takes [0, 1, 3, 4, 5, 6, 7, 2, 8] (by decide))⟩ ?_
     rintro ⟨k, l1, tk1, p1, c1, M1⟩ wq27 ⟨hk, hK, H28⟩
     refine g_weak [(3, .pointer (some ⟨g1, 0, none⟩)), (8, .pointer (some ⟨g7, 0, none⟩)), (11, .slice p1 k c1), (31, .slice p n c), (32, .int .i64 ((n : Int))), (33, .int .i64 ((i : Int))), (42, .slice p20 r.l.length c21), (43, .int .i64 ((r.l.length : Int))), (44, .int .i64 ((k : Int)))] ⟨rfl, rfl, rfl, rfl, rfl, rfl, rfl, rfl, rfl, trivial⟩ ?_
     refine w_s ?_
     refine w_b ?_
     refine w_e ?_
     refine g_seq ?_
     by_cases hb29 : ((k : Int) : Int) < (r.l.length : Int)
     ·
      obtain ⟨s, hs⟩ : ∃ s, (sortN seed r.l)[k]? = some s := ⟨_, List.getElem?_eq_getElem (by rw [sortN_len]; omega)⟩
      have hsz : s.size ≤ 1000 := hrz s ((sortN_perm seed r.l).mem_iff.1 (List.mem_of_getElem? hs))
      refine g_cond_t rfl (decide_eq_true hb29) ?_
      refine g_skip ?_
      refine g_then ?_
      refine g_seq ?_
      refine g_block ?_
      refine w_s ?_
      refine w_v (v := .pointer ((p20).map fun q => q.add (k * 1))) (x_idxR k (H28.rwReads (k := 1) rfl) rfl rfl rfl Try.underlying37 sz9 (by omega)) ?_
      refine w_v (v := .string s) (x_loadR1 k (H28.rwReads (k := 1) rfl) (by omega) rfl rfl Try.underlying9 rfl (stV_at hs)) ?_
      refine w_a ?_
      refine w_e ?_
      refine g_seq ?_
      refine w_s ?_
      refine w_m ?_
      refine l_of (s_call0 H28 (wt0 rfl) (x_call' rfl rfl cl30) (text_s _ _) rfl rfl ?_)
      intro wq30 H31
      refine w_v (v := .bool (!((textS s)))) (x_not (b := (textS s)) rfl rfl) ?_
      refine w_m ?_
      rcases Bool.eq_false_or_eq_true ((textS s)) with hb32 | hb32
      ·
       refine w_g (neg_of hb32) xm ?_
       refine w_g (neg_of hb32) xn ?_
       refine w_g (neg_of hb32) (xf 3) ?_
       refine w_g (neg_of hb32) (xl H31 2) ?_
       refine w_g (neg_of hb32) xm ?_
       have hts : textS s = true := by assumption
       have hok : okT s := Nat.le_trans hsz (by decide)
       rcases hM : M1 s with _ | xo
       ·
        refine w_g (v := .pointer none) (neg_of hb32) (ex_cast (x_lookup1 (x := s) (strTy Try.underlying58 Try.underlying9) H31 6 rfl rfl rfl rfl hok ze59) (by rw [hM]; rfl)) ?_
        refine w_g (v := .bool false) (neg_of hb32) (x_bin rfl rfl rfl (b_neN (r := true) Try.underlying59 rfl)) ?_
        refine w_v (v := .bool false) (x_pick_f rfl rfl (neg_of hb32) rfl) ?_
        refine w_e ?_
        refine g_weak [(3, .pointer (some ⟨g1, 0, none⟩)), (8, .pointer (some ⟨g7, 0, none⟩)), (11, .slice p1 k c1), (13, .string s), (31, .slice p n c), (32, .int .i64 ((n : Int))), (33, .int .i64 ((i : Int))), (42, .slice p20 r.l.length c21), (43, .int .i64 ((r.l.length : Int))), (44, .int .i64 ((k : Int))), (59, .bool false)] ⟨rfl, rfl, rfl, rfl, rfl, rfl, rfl, rfl, rfl, rfl, rfl, trivial⟩ ?_
        refine g_cond_f rfl rfl ?_
        refine g_skip ?_
        refine g_then ?_
        refine w_s ?_
        refine w_r3 ?_
        refine w_1 H31 2 ?_
        refine w_r2 ?_
        refine w_v (v := .agg #[.string s, .int .i64 0, .int .i64 0, .bool false, .bool false]) (x_build (vs := [.string s]) rfl rfl (cells := #[.string s, .int .i64 0, .int .i64 0, .bool false, .bool false]) (by kernel_rfl)) ?_
        refine l_of (s_box H31 (wt0 rfl) rfl rfl rfl rfl ?_)
        intro g33 wq34 H35
        have hgx : g33 ∉ adr rows ++ l1 := H35.famNew (i := 0) (j := 6) rfl rfl (by decide)
        refine l_of (s_mapUpdate (x := s) (a := g33) (strTy Try.underlying58 Try.underlying9) H35 7 (wt0 rfl) rfl rfl rfl rfl rfl rfl hok ?_)
        intro wq36 H37
        refine w_e ?_
        refine g_region ?_
        refine w_r4 ?_
        refine w_1 H37 3 ?_
        refine w_m ?_
        refine w_v (v := .pointer (some ⟨g33, 0, none⟩)) (ex_cast (x_lookup1 (x := s) (strTy Try.underlying58 Try.underlying9) H37 7 rfl rfl rfl rfl hok ze59) (by rw [show upM M1 s g33 s = some g33 from if_pos rfl]; rfl)) ?_
        refine l_of (s_buildSlice H37 (wt0 rfl) rfl rfl rfl (vs := [.pointer (some ⟨g33, 0, none⟩)]) rfl Try.underlying68 sz59 ze59 rfl rfl (cells := #[.pointer (some ⟨g33, 0, none⟩)]) (by kernel_rfl) ?_)
        intro g38 wq39 H40
        refine l_of (s_appendR (n := k) (m := 1) (sc := c1) (xs := (l1.flatMap ptL)) (news := [.pointer (some ⟨g33, 0, none⟩)]) (p := p1) (ad := ⟨g38, 0, none⟩) H40 2 (wt0 rfl) rfl rfl rfl rfl rfl rfl Try.underlying68 inf59 rfl (by decide) (by decide) rfl (by decide) (news_ob H40 (j0 := 0) rfl) rfl (by omega) ?_)
        intro p41 c42 wq43 (H44 : S wq43 [Ob g38 (.cells #[.pointer (some ⟨g33, 0, none⟩)] 59 (0, 0)), Ob g33 (.cells #[.string s, .int .i64 0, .int .i64 0, .bool false, .bool false] 71 (0, 0)), Rw 59 1 p41 (k + 1) c42 ((l1.flatMap ptL) ++ [.pointer (some ⟨g33, 0, none⟩)]), Rw 9 1 p20 r.l.length c21 (stV (sortN seed r.l)), Ob g7 (.cells #[.pointer none, .int .i64 0, .slice P i C, .map (some mg4), .int .i64 0, .int .i64 0, .bool false, .bool whole, .bool false, .bool false] 64 (0, 0)), Rw 68 1 P i C (rosV rows), RowsI 59 1 ptL rows, Fam 71 Tk.cells (adr rows ++ l1) tk1, Mp Value.string (fun x : Nat => Value.pointer (some ⟨x, 0, none⟩)) okT mg4 (upM M1 s g33), Ob g1 (.cells #[.string seed] 9 (0, 0)), Old w no])
        refine w_a ?_
        refine g_nil ?_
        refine g_in ?_
        refine g_then ?_
        refine g_weak [(3, .pointer (some ⟨g1, 0, none⟩)), (8, .pointer (some ⟨g7, 0, none⟩)), (11, .slice p41 (k + 1) c42), (31, .slice p n c), (32, .int .i64 ((n : Int))), (33, .int .i64 ((i : Int))), (42, .slice p20 r.l.length c21), (43, .int .i64 ((r.l.length : Int))), (44, .int .i64 ((k : Int)))] ⟨rfl, rfl, rfl, rfl, rfl, rfl, rfl, rfl, rfl, trivial⟩ ?_
        refine g_region ?_
        refine w_b (v := .int .i64 (((k + 1 : Nat) : Int))) (hb := (b_add (by rw [w64 (by omega)]; omega))) ?_
        refine w_m ?_
        refine w_e ?_
        have H45 := S.famPerm (S.famCons (enc := Tk.cells) (a := ⟨s, 0, 0, false, false⟩) (H44.takes [1, 7, 2, 3, 4, 5, 6, 8, 9, 10] (by decide))) (show (g33 :: (adr rows ++ l1)).Perm (adr rows ++ (l1 ++ [g33])) from by rw [← List.append_assoc]; exact (List.perm_append_singleton _ _).symm)
        have H46 := H45.takes [1, 2, 3, 4, 5, 0, 6, 7, 8] (by decide)
        refine g_round (i := (k, l1, tk1, p1, c1, M1)) ((k + 1), (l1 ++ [g33]), (upd tk1 g33 ⟨s, 0, 0, false, false⟩), p41, c42, (upM M1 s g33)) ?_ ?_ ?_
        · exact ⟨rfl, rfl, rfl, rfl, rfl, rfl, rfl, rfl, rfl, trivial⟩
        · exact ⟨by omega, (hK.step hgx (by rw [hra]; exact hs) hts hM), (by rw [show (l1 ++ [g33]).flatMap ptL = l1.flatMap ptL ++ [.pointer (some ⟨g33, 0, none⟩)] from by rw [List.flatMap_append]; rfl]; exact H46)⟩
        · (try dsimp only); omega
       ·
        refine w_g (v := .pointer (some ⟨xo, 0, none⟩)) (neg_of hb32) (ex_cast (x_lookup1 (x := s) (strTy Try.underlying58 Try.underlying9) H31 6 rfl rfl rfl rfl hok ze59) (by rw [hM]; rfl)) ?_
        refine w_g (v := .bool true) (neg_of hb32) (x_bin rfl rfl rfl (b_neN (r := false) Try.underlying59 rfl)) ?_
        refine w_v (v := .bool true) (x_pick_f rfl rfl (neg_of hb32) rfl) ?_
        refine w_e ?_
        refine g_weak [(3, .pointer (some ⟨g1, 0, none⟩)), (8, .pointer (some ⟨g7, 0, none⟩)), (11, .slice p1 k c1), (13, .string s), (31, .slice p n c), (32, .int .i64 ((n : Int))), (33, .int .i64 ((i : Int))), (42, .slice p20 r.l.length c21), (43, .int .i64 ((r.l.length : Int))), (44, .int .i64 ((k : Int))), (59, .bool true)] ⟨rfl, rfl, rfl, rfl, rfl, rfl, rfl, rfl, rfl, rfl, rfl, trivial⟩ ?_
        refine g_cond_t rfl rfl ?_
        refine w_s ?_
        refine w_r2 ?_
        refine w_e ?_
        refine g_ret ?_
        refine g_then_ret ?_
        refine g_in_ret ?_
        refine g_then_ret ?_
        refine g_then_ret ?_
        refine g_in_ret ?_
        refine g_then_ret ?_
        refine g_in_ret ?_
        refine g_then_ret ?_
        refine g_then_ret ?_
        refine g_in_ret ?_
        refine g_then_ret ?_
        refine fin_ret [.tmp 6, .tmp 7] [.pointer none, .int .i64 1] rfl ⟨rfl, rfl, trivial⟩ ?_
        exact .inl ⟨fun hg => hK.twice hrow hs hM hg.2, rfl, H31.mask [false, false, false, false, false, false, false, false, true]⟩
      ·
       refine w_n (neg_of hb32) ?_
       refine w_n (neg_of hb32) ?_
       refine w_n (neg_of hb32) ?_
       refine w_n (neg_of hb32) ?_
       refine w_n (neg_of hb32) ?_
       refine w_n (neg_of hb32) ?_
       refine w_n (neg_of hb32) ?_
       refine w_v (v := .bool true) (x_pick_t rfl rfl (neg_of hb32) rfl) ?_
       refine w_e ?_
       refine g_weak [(3, .pointer (some ⟨g1, 0, none⟩)), (8, .pointer (some ⟨g7, 0, none⟩)), (11, .slice p1 k c1), (13, .string s), (31, .slice p n c), (32, .int .i64 ((n : Int))), (33, .int .i64 ((i : Int))), (42, .slice p20 r.l.length c21), (43, .int .i64 ((r.l.length : Int))), (44, .int .i64 ((k : Int))), (59, .bool true)] ⟨rfl, rfl, rfl, rfl, rfl, rfl, rfl, rfl, rfl, rfl, rfl, trivial⟩ ?_
       refine g_cond_t rfl rfl ?_
       refine w_s ?_
       refine w_r2 ?_
       refine w_e ?_
       refine g_ret ?_
       refine g_then_ret ?_
       refine g_in_ret ?_
       refine g_then_ret ?_
       refine g_then_ret ?_
       refine g_in_ret ?_
       refine g_then_ret ?_
       refine g_in_ret ?_
       refine g_then_ret ?_
       refine g_then_ret ?_
       refine g_in_ret ?_
       refine g_then_ret ?_
       refine fin_ret [.tmp 6, .tmp 7] [.pointer none, .int .i64 1] rfl ⟨rfl, rfl, trivial⟩ ?_
       exact .inl ⟨fun hg => hK.noText hrow hs hb32 hg.2, rfl, H31.mask [false, false, false, false, false, false, false, false, true]⟩
     ·
      refine g_cond_f rfl (decide_eq_false hb29) ?_
      refine g_exit ?_
      refine g_then_exit ?_
      refine g_then_exit ?_
      refine g_in_hit ?_
      refine g_then ?_
      refine g_seq ?_
      refine w_s ?_
      refine w_m ?_
      refine w_v (v := .int .i64 ((k : Int))) (x_lenl rfl rfl Try.underlying68) ?_
      refine w_b ?_
      refine w_m ?_
      by_cases hb47 : ((k : Int) : Int) < 1
      ·
       refine w_n (decide_eq_true hb47) ?_
       refine w_n (decide_eq_true hb47) ?_
       refine w_n (decide_eq_true hb47) ?_
       refine w_v (v := .bool true) (x_pick_t rfl rfl (decide_eq_true hb47) rfl) ?_
       refine w_e ?_
       refine g_cond_t rfl rfl ?_
       refine w_s ?_
       refine w_r2 ?_
       refine w_e ?_
       refine g_weak [(6, .pointer none), (7, .int .i64 1)] ⟨rfl, rfl, trivial⟩ ?_
       refine g_ret ?_
       refine g_then_ret ?_
       refine g_in_ret ?_
       refine g_then_ret ?_
       refine g_then_ret ?_
       refine g_in_ret ?_
       refine g_then_ret ?_
       refine fin_ret [.tmp 6, .tmp 7] [.pointer none, .int .i64 1] rfl ⟨rfl, rfl, trivial⟩ ?_
       exact .inl ⟨fun hg => hK.shortRow hrow (by omega) (by omega) hg.2, rfl, H28.mask [false, false, false, false, false, false, false, false, true]⟩
      ·
       refine w_g (decide_eq_false hb47) xm ?_
       refine w_g (v := .int .i64 ((k : Int))) (decide_eq_false hb47) (x_lenl rfl rfl Try.underlying68) ?_
       refine w_g (decide_eq_false hb47) (x_bin rfl rfl rfl b_gtr) ?_
       refine w_v (v := .bool (decide ((20 : Int) < (k : Int)))) (x_pick_f rfl rfl (decide_eq_false hb47) rfl) ?_
       refine w_e ?_
       by_cases hb48 : (20 : Int) < (k : Int)
       ·
        refine g_cond_t rfl (decide_eq_true hb48) ?_
        refine w_s ?_
        refine w_r2 ?_
        refine w_e ?_
        refine g_weak [(6, .pointer none), (7, .int .i64 1)] ⟨rfl, rfl, trivial⟩ ?_
        refine g_ret ?_
        refine g_then_ret ?_
        refine g_in_ret ?_
        refine g_then_ret ?_
        refine g_then_ret ?_
        refine g_in_ret ?_
        refine g_then_ret ?_
        refine fin_ret [.tmp 6, .tmp 7] [.pointer none, .int .i64 1] rfl ⟨rfl, rfl, trivial⟩ ?_
        exact .inl ⟨fun hg => hK.shortRow hrow (by omega) (by omega) hg.2, rfl, H28.mask [false, false, false, false, false, false, false, false, true]⟩
       ·
        refine g_cond_f rfl (decide_eq_false hb48) ?_
        refine g_skip ?_
        refine g_then ?_
        refine g_weak [(3, .pointer (some ⟨g1, 0, none⟩)), (8, .pointer (some ⟨g7, 0, none⟩)), (11, .slice p1 k c1), (31, .slice p n c), (32, .int .i64 ((n : Int))), (33, .int .i64 ((i : Int)))] ⟨rfl, rfl, rfl, rfl, rfl, rfl, trivial⟩ ?_
        refine g_region ?_
        refine w_r4 ?_
        refine w_1 H28 2 ?_
        refine w_m ?_
        refine l_of (s_buildSlice H28 (wt0 rfl) rfl rfl rfl (vs := [.slice p1 k c1]) rfl Try.underlying62 sz68 ze68 rfl rfl (cells := #[.slice p1 k c1]) (by kernel_rfl) ?_)
        intro g49 wq50 H51
        refine l_of (s_appendR (n := i) (m := 1) (sc := C) (xs := (rosV rows)) (news := [.slice p1 k c1]) (p := P) (ad := ⟨g49, 0, none⟩) H51 4 (wt0 rfl) rfl rfl rfl rfl rfl rfl Try.underlying62 inf68 rfl (by decide) (by decide) rfl (by decide) (news_ob H51 (j0 := 0) rfl) rfl (by omega) ?_)
        intro p52 c53 wq54 (H55 : S wq54 [Ob g49 (.cells #[.slice p1 k c1] 68 (0, 0)), Rw 59 1 p1 k c1 (l1.flatMap ptL), Rw 9 1 p20 r.l.length c21 (stV (sortN seed r.l)), Ob g7 (.cells #[.pointer none, .int .i64 0, .slice P i C, .map (some mg4), .int .i64 0, .int .i64 0, .bool false, .bool whole, .bool false, .bool false] 64 (0, 0)), Rw 68 1 p52 (i + 1) c53 ((rosV rows) ++ [.slice p1 k c1]), RowsI 59 1 ptL rows, Fam 71 Tk.cells (adr rows ++ l1) tk1, Mp Value.string (fun x : Nat => Value.pointer (some ⟨x, 0, none⟩)) okT mg4 M1, Ob g1 (.cells #[.string seed] 9 (0, 0)), Old w no])
        refine w_r2 ?_
        refine l_of (w_st #[.pointer none, .int .i64 0, .slice p52 (i + 1) c53, .map (some mg4), .int .i64 0, .int .i64 0, .bool false, .bool whole, .bool false, .bool false] H55 3 ?_)
        intro wq56 H57
        refine g_nil ?_
        refine g_in ?_
        refine g_then ?_
        refine g_region ?_
        have hkl : k = r.l.length := by omega
        have hl1 := hK.len (by rw [hra]; omega)
        have hN3 := hK.rowEnd (p := p1) (c := c1) hrow hkl (by omega) (by omega)
        have H58 := H57.takes [5, 1, 3, 4, 6, 7, 8, 9] (by decide)
        have H59 := S.rowsSnoc (e := 59) (size := 1) (enc := ptL) (rs := rows) (r := ⟨p1, c1, l1⟩) (by unfold roI; rw [hl1]; exact H58)
        have H60 := H59.takes [1, 2, 0, 3, 4, 5, 6] (by decide)
        refine w_b (v := .int .i64 (((i + 1 : Nat) : Int))) (hb := (b_add (by rw [w64 (by omega)]; omega))) ?_
        refine w_m ?_
        refine w_e ?_
        refine g_round (i := (i, rows, tk, P, C, M)) ((i + 1), (rows ++ [⟨p1, c1, l1⟩]), tk1, p52, c53, M1) ?_ ?_ ?_
        · exact ⟨rfl, rfl, rfl, rfl, rfl, trivial⟩
        · exact ⟨by omega, hN3, (by rw [rosV_snoc, adr_snoc, List.append_nil, show roV (⟨p1, c1, l1⟩ : Ro Nat) = .slice p1 k c1 from by rw [← hl1]; rfl]; exact H60)⟩
        · (try dsimp only); omega
    ·
     refine g_cond_f rfl (decide_eq_false hb19) ?_
     refine g_exit ?_
     refine g_then_exit ?_
     refine g_then_exit ?_
     refine g_in_hit ?_
     refine g_then ?_
     refine w_s ?_
     refine w_r3 ?_
     refine w_e ?_
     refine g_ret ?_
     refine fin_ret [.tmp 6, .tmp 7] [.pointer (some ⟨g7, 0, none⟩), .int .i64 0] rfl ⟨rfl, rfl, trivial⟩ ?_
     have hin : i = ls.length := by omega
     subst hin
     have hrn := hN.rowsLen (Nat.le_refl _)
     rw [List.append_nil] at H18
     exact .inr ⟨_, _, _, _, _, _, _, _, by omega, hN.good (by omega) (by omega), hN, hrn.symm, rfl, H18.takes [0, 1, 2, 3, 4, 6] (by decide)⟩
end Go.Proofs.Ytibdlnjnomikjaa
