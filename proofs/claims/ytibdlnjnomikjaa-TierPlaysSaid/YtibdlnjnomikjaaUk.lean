import Derived.Test.YtibdlnjnomikjaaFk
import Derived.Test.YtibdlnjnomikjaaUj
set_option linter.unusedSimpArgs false
set_option linter.unusedVariables false
namespace Go.Proofs.Ytibdlnjnomikjaa
open Go.RowKit

theorem cl38 : callable Try.prog 38 = true := by kernel_rfl
theorem cl39 : callable Try.prog 39 = true := by kernel_rfl
theorem b_gts {P : Program} {w : World} {t : TypeId} {xo yo : Operand} {x y : ByteArray} : Bin P .gtr t xo yo (.string x) (.string y) w (.bool (decide (0 < cmpB x y))) := by
  unfold Bin; rw [Sem.run_bind, guard_str, show decide (0 < cmpB x y) = (!(Op.bytesLess x.toList y.toList || x.toList == y.toList)) from by
    rw [ByteArray.toList_eq, ByteArray.toList_eq]; exact (less_cmp _ _).symm]
  simp [binOp, Op.stringOp]
theorem up_step {P : Tk → Prop} {l : List Tk} {j : Nat} {y : Tk} (h : l[j - 1]? = some y) (hj : 0 < j) (hy : P y) (hu : ∀ x ∈ l.drop j, P x) : ∀ x ∈ l.drop (j - 1), P x := fun x hx => by
  obtain ⟨h1, h2⟩ := List.getElem?_eq_some_iff.1 h
  rw [List.drop_eq_getElem_cons h1, show j - 1 + 1 = j from by omega, h2] at hx
  rcases List.mem_cons.1 hx with rfl | hx
  · exact hy
  · exact hu x hx
theorem RowK.size {seed : ByteArray} {l : List ByteArray} {k : Nat} {r : List Tk} (h : RowK seed l k r) (hl : ∀ s ∈ l, s.size ≤ 1000) {x : Tk} (hx : x ∈ r) : x.name.size ≤ 1000 := by
  obtain ⟨z, rfl, h2, _⟩ := h
  obtain ⟨p, hp, rfl⟩ := List.mem_map.1 hx
  have hm := List.mem_of_mem_take (h2.mem_iff.1 hp)
  exact hl p.1 (List.fst_mem_of_mem_zipIdx hm)
set_option maxRecDepth 20000 in
set_option maxHeartbeats 4000000 in
theorem new_ref (seed : ByteArray) (hsd : seed.size ≤ 1000) (ls : List (Ro ByteArray)) (p : Option Addr) (c : Nat) (hnl : ls.length ≤ 1000) (hln : ∀ r ∈ ls, r.l.length ≤ 1000 ∧ ∀ s ∈ r.l, s.size ≤ 1000) (whole : Bool)  (w : World) (hr : Reads w p ls.length c 1 (fl rowL ls)) (hls : ∀ r ∈ ls, Reads w r.p r.l.length r.c 1 (fl strL r.l)) : Calls Try.prog 19 #[.string seed, .slice p ls.length c, .bool whole] w fun e w' => (¬ (seed.size ≤ 100 ∧ goodL (tlsOf ls)) ∧ e = .returned (.tuple #[.pointer none, .int .i64 1]) ∧ S w' [Old w no]) ∨ (∃ (g : Nat) (P : Option Addr) (C : Nat) (rs : List (Ro Tk)), seed.size ≤ 100 ∧ goodL (tlsOf ls) ∧ (rs.map fun r => r.l) = ls.map (fun r => (sortN seed r.l).map newTk) ∧ e = .returned (.tuple #[.pointer (some ⟨g, 0, none⟩), .int .i64 0]) ∧ S w' ([Ob g (.cells #[.slice P rs.length C, .int .i64 0, .bool false, .string (⟨#[]⟩), .int .i64 0, .bool false, .bool whole, .bool false, .bool false, .int .i64 0] 84 (0, 0)), Rw 85 1 P rs.length C (fl rowL rs), RowsI 87 5 tkL rs] ++ [Old w no])) := by
 have H0 := S.old w
 refine enter 93 Try.func19 rfl rfl rfl ?_
 refine g_weak [(0, .string seed), (1, .slice p ls.length c), (2, .bool whole)] ⟨rfl, rfl, rfl, trivial⟩ ?_
 refine w_s ?_
 refine w_r2 ?_
 refine w_e ?_
 refine g_seq ?_
 refine w_s ?_
 refine w_m ?_
 refine w_v (v := .int .i64 ((seed.size : Int))) (x_lens rfl rfl Try.underlying9) ?_
 refine w_b ?_
 refine w_m ?_
 by_cases hb1 : (100 : Int) < (seed.size : Int)
 ·
  refine w_n (decide_eq_true hb1) ?_
  refine w_n (decide_eq_true hb1) ?_
  refine w_n (decide_eq_true hb1) ?_
  refine w_v (v := .bool true) (x_pick_t rfl rfl (decide_eq_true hb1) rfl) ?_
  refine w_e ?_
  refine g_cond_t rfl rfl ?_
  refine w_s ?_
  refine w_r2 ?_
  refine w_e ?_
  refine g_ret ?_
  refine g_then_ret ?_
  refine fin_ret [.tmp 6, .tmp 7] [.pointer none, .int .i64 1] rfl ⟨rfl, rfl, trivial⟩ ?_
  exact .inl ⟨fun h9 => by have := h9.1; omega, rfl, H0.takes [0] (by decide)⟩
 ·
  refine w_g (decide_eq_false hb1) xm ?_
  refine l_of (s_call0 H0 (wt1 rfl rfl rfl rfl (decide_eq_false hb1)) (x_call' rfl rfl cl38) (right_ref ls p c hnl hln _ (H0.oldReads (k := 0) rfl hr) (fun r hr9 => H0.oldReads (k := 0) rfl (hls r hr9))) rfl rfl ?_)
  intro wq2 H3
  refine w_g (v := .bool (!((decide (goodL (tlsOf ls)))))) (decide_eq_false hb1) (x_not (b := (decide (goodL (tlsOf ls)))) rfl rfl) ?_
  refine w_v (v := .bool (!((decide (goodL (tlsOf ls)))))) (x_pick_f rfl rfl (decide_eq_false hb1) rfl) ?_
  refine w_e ?_
  rcases Bool.eq_false_or_eq_true ((decide (goodL (tlsOf ls)))) with hb4 | hb4
  ·
   have hG : goodL (tlsOf ls) := of_decide_eq_true hb4
   have hG20 : ls.length ≤ 20 := by have := hG.2.1; unfold tlsOf at this; rwa [List.length_map] at this
   refine g_cond_f rfl (neg_of hb4) ?_
   refine g_skip ?_
   refine g_then ?_
   refine w_s ?_
   refine w_m ?_
   refine w_v (v := .agg #[.slice none 0 0, .int .i64 0, .bool false, .string (⟨#[]⟩), .int .i64 0, .bool false, .bool whole, .bool false, .bool false, .int .i64 0]) (x_build (vs := [.bool whole]) rfl rfl (cells := #[.slice none 0 0, .int .i64 0, .bool false, .string (⟨#[]⟩), .int .i64 0, .bool false, .bool whole, .bool false, .bool false, .int .i64 0]) (by kernel_rfl)) ?_
   refine l_of (s_box H3 (wt0 rfl) rfl rfl rfl rfl ?_)
   intro g5 wq6 H7
   refine w_a ?_
   refine w_e ?_
   refine g_weak [(0, .string seed), (1, .slice p ls.length c), (8, .pointer (some ⟨g5, 0, none⟩))] ⟨rfl, rfl, rfl, trivial⟩ ?_
   refine g_seq ?_
   refine w_s ?_
   refine w_m ?_
   refine w_v (v := .int .i64 ((ls.length : Int))) (x_lenl rfl rfl Try.underlying22) ?_
   refine w_m ?_
   refine w_e ?_
   refine g_block ?_
   refine g_loop (ι := Nat × Option Addr × Nat × List (Ro Tk)) (fun (i, P, C, rs) => [(0, .string seed), (8, .pointer (some ⟨g5, 0, none⟩)), (28, .slice p ls.length c), (29, .int .i64 ((ls.length : Int))), (30, .int .i64 ((i : Int)))]) (fun (i, P, C, rs) wx => (i ≤ ls.length) ∧ ((rs.map fun r => r.l) = (ls.take i).map (fun r => (sortN seed r.l).map newTk)) ∧ (rs.length = i) ∧ S wx [Ob g5 (.cells #[.slice P rs.length C, .int .i64 0, .bool false, .string (⟨#[]⟩), .int .i64 0, .bool false, .bool whole, .bool false, .bool false, .int .i64 0] 84 (0, 0)), Rw 85 1 P rs.length C (fl rowL rs), RowsI 87 5 tkL rs, Old w no]) (fun (i, P, C, rs) => ls.length - i) (0, none, 0, []) ⟨rfl, rfl, rfl, rfl, rfl, trivial⟩ ⟨Nat.zero_le _, rfl, rfl, ((S.rowsNil (e := 87) (size := 5) (enc := tkL) (S.nilFl H7 85 1 (rowL (α := Tk)))).takes [2, 1, 0, 3] (by decide))⟩ ?_
   rintro ⟨i, P, C, rs⟩ wq8 ⟨hi, hI, hrl, H9⟩
   refine g_weak [(0, .string seed), (8, .pointer (some ⟨g5, 0, none⟩)), (28, .slice p ls.length c), (29, .int .i64 ((ls.length : Int))), (30, .int .i64 ((i : Int)))] ⟨rfl, rfl, rfl, rfl, rfl, trivial⟩ ?_
   refine w_s ?_
   refine w_b ?_
   refine w_e ?_
   refine g_seq ?_
   by_cases hb10 : ((i : Int) : Int) < (ls.length : Int)
   ·
    refine g_cond_t rfl (decide_eq_true hb10) ?_
    refine g_skip ?_
    refine g_then ?_
    refine g_seq ?_
    refine g_block ?_
    refine w_s ?_
    refine w_v (v := .pointer ((p).map fun q => q.add (i * 1))) (x_idxR i (H9.oldReads (k := 3) rfl hr) rfl rfl rfl Try.underlying22 sz37 (by omega)) ?_
    have hlq := (H9.oldReads (k := 3) rfl hr).lenL rowE
    obtain ⟨x11, hx11⟩ := ex_at (l := ls) (j := i) (by omega)
    clear hlq
    have hlnx11 := (hln x11 (List.mem_of_getElem? hx11))
    have hgdx11 := hG.2.2.1 x11.l (List.mem_map.2 ⟨x11, List.mem_of_getElem? hx11, rfl⟩)
    refine w_v (v := .slice x11.p x11.l.length x11.c) (x_loadR1 i (H9.oldReads (k := 3) rfl hr) (by omega) rfl rfl Try.underlying37 rfl (rowE.flAt1 hx11 rfl)) ?_
    refine w_a ?_
    refine w_e ?_
    refine w_s ?_
    have H12 := H9.nilFl 87 5 tkL
    refine w_a ?_
    refine w_e ?_
    refine g_seq ?_
    refine w_s ?_
    refine w_m ?_
    refine w_v (v := .int .i64 ((x11.l.length : Int))) (x_lenl rfl rfl Try.underlying37) ?_
    refine w_m ?_
    refine w_e ?_
    refine g_block ?_
    refine g_loop (ι := Nat × Option Addr × Nat × List Tk) (fun (k, pr, cr, row) => [(0, .string seed), (8, .pointer (some ⟨g5, 0, none⟩)), (11, .slice pr row.length cr), (28, .slice p ls.length c), (29, .int .i64 ((ls.length : Int))), (30, .int .i64 ((i : Int))), (34, .slice x11.p x11.l.length x11.c), (35, .int .i64 ((x11.l.length : Int))), (36, .int .i64 ((k : Int)))]) (fun (k, pr, cr, row) wx => (k ≤ x11.l.length) ∧ (RowK seed x11.l k row) ∧ S wx [Rw 87 5 pr row.length cr (fl tkL row), Ob g5 (.cells #[.slice P rs.length C, .int .i64 0, .bool false, .string (⟨#[]⟩), .int .i64 0, .bool false, .bool whole, .bool false, .bool false, .int .i64 0] 84 (0, 0)), Rw 85 1 P rs.length C (fl rowL rs), RowsI 87 5 tkL rs, Old w no]) (fun (k, pr, cr, row) => x11.l.length - k) (0, none, 0, []) ⟨rfl, rfl, rfl, rfl, rfl, rfl, rfl, rfl, rfl, trivial⟩ ⟨Nat.zero_le _, (RowK.start _ _), (H12.takes [0, 1, 2, 3, 4] (by decide))⟩ ?_
    rintro ⟨k, pr, cr, row⟩ wq13 ⟨hk, hK, H14⟩
    refine g_weak [(0, .string seed), (8, .pointer (some ⟨g5, 0, none⟩)), (11, .slice pr row.length cr), (28, .slice p ls.length c), (29, .int .i64 ((ls.length : Int))), (30, .int .i64 ((i : Int))), (34, .slice x11.p x11.l.length x11.c), (35, .int .i64 ((x11.l.length : Int))), (36, .int .i64 ((k : Int)))] ⟨rfl, rfl, rfl, rfl, rfl, rfl, rfl, rfl, rfl, trivial⟩ ?_
    have hrk := hK.len
    have h32 : (⟨#[32]⟩ : ByteArray).size = 1 := rfl
    refine w_s ?_
    refine w_b ?_
    refine w_e ?_
    refine g_seq ?_
    by_cases hb15 : ((k : Int) : Int) < (x11.l.length : Int)
    ·
     refine g_cond_t rfl (decide_eq_true hb15) ?_
     refine g_skip ?_
     refine g_then ?_
     refine g_seq ?_
     refine g_block ?_
     refine w_s ?_
     refine w_v (v := .pointer ((x11.p).map fun q => q.add (k * 1))) (x_idxR k (H14.oldReads (k := 4) rfl (hls x11 (List.mem_of_getElem? hx11))) rfl rfl rfl Try.underlying37 sz9 (by omega)) ?_
     have hlq := (H14.oldReads (k := 4) rfl (hls x11 (List.mem_of_getElem? hx11))).lenL strE
     obtain ⟨x16, hx16⟩ := ex_at (l := x11.l) (j := k) (by omega)
     clear hlq
     have hszx16 := hlnx11.2 x16 (List.mem_of_getElem? hx16)
     refine w_v (v := .string x16) (x_loadR1 k (H14.oldReads (k := 4) rfl (hls x11 (List.mem_of_getElem? hx11))) (by omega) rfl rfl Try.underlying9 rfl (strE.flAt1 hx16 rfl)) ?_
     refine w_a ?_
     refine w_e ?_
     refine w_s ?_
     refine w_m ?_
     have hsz17 : (seed ++ (⟨#[32]⟩ : ByteArray)).size = seed.size + (⟨#[32]⟩ : ByteArray).size := ByteArray.size_append
     refine w_b (v := .string (seed ++ (⟨#[32]⟩ : ByteArray))) (hb := (b_cat (by omega))) ?_
     refine w_m ?_
     have hsz18 : ((seed ++ (⟨#[32]⟩ : ByteArray)) ++ x16).size = (seed ++ (⟨#[32]⟩ : ByteArray)).size + x16.size := ByteArray.size_append
     refine w_b (v := .string ((seed ++ (⟨#[32]⟩ : ByteArray)) ++ x16)) (hb := (b_cat (by omega))) ?_
     refine l_of (s_call0 H14 (wt0 rfl) (x_call' rfl rfl cl39) (old_r ((seed ++ (⟨#[32]⟩ : ByteArray)) ++ x16) (by omega) _) rfl rfl ?_)
     intro wq19 H20
     refine w_a ?_
     refine w_e ?_
     refine w_s ?_
     refine w_m ?_
     refine w_v (v := .int .i64 ((row.length : Int))) (x_lenl rfl rfl Try.underlying85) ?_
     refine w_a ?_
     refine w_e ?_
     refine g_seq ?_
     refine g_block ?_
     refine g_loop (ι := Nat) (fun j => [(0, .string seed), (8, .pointer (some ⟨g5, 0, none⟩)), (11, .slice pr row.length cr), (13, .string x16), (14, .string ((oldS ((seed ++ (⟨#[32]⟩ : ByteArray)) ++ x16)))), (15, .int .i64 ((j : Int))), (28, .slice p ls.length c), (29, .int .i64 ((ls.length : Int))), (30, .int .i64 ((i : Int))), (34, .slice x11.p x11.l.length x11.c), (35, .int .i64 ((x11.l.length : Int))), (36, .int .i64 ((k : Int)))]) (fun j wx => (j ≤ row.length) ∧ (∀ x ∈ row.drop j, 0 < cmpS seed x.name x16) ∧ S wx [Rw 87 5 pr row.length cr (fl tkL row), Ob g5 (.cells #[.slice P rs.length C, .int .i64 0, .bool false, .string (⟨#[]⟩), .int .i64 0, .bool false, .bool whole, .bool false, .bool false, .int .i64 0] 84 (0, 0)), Rw 85 1 P rs.length C (fl rowL rs), RowsI 87 5 tkL rs, Old w no]) (fun j => j) (row.length) ⟨rfl, rfl, rfl, rfl, rfl, rfl, rfl, rfl, rfl, rfl, rfl, rfl, trivial⟩ ⟨Nat.le_refl _, (fun x hx => by rw [List.drop_length] at hx; cases hx), (H20.takes [0, 1, 2, 3, 4] (by decide))⟩ ?_
     rintro j wq21 ⟨hjr, hup, H22⟩
     refine g_weak [(0, .string seed), (8, .pointer (some ⟨g5, 0, none⟩)), (11, .slice pr row.length cr), (13, .string x16), (14, .string ((oldS ((seed ++ (⟨#[32]⟩ : ByteArray)) ++ x16)))), (15, .int .i64 ((j : Int))), (28, .slice p ls.length c), (29, .int .i64 ((ls.length : Int))), (30, .int .i64 ((i : Int))), (34, .slice x11.p x11.l.length x11.c), (35, .int .i64 ((x11.l.length : Int))), (36, .int .i64 ((k : Int)))] ⟨rfl, rfl, rfl, rfl, rfl, rfl, rfl, rfl, rfl, rfl, rfl, rfl, trivial⟩ ?_
     refine g_seq ?_
     refine w_s ?_
     refine w_m ?_
     refine w_b ?_
     refine w_m ?_
     by_cases hb23 : (0 : Int) < (j : Int)
     ·
      refine w_g (decide_eq_true hb23) xm ?_
      have hsz24 : (seed ++ (⟨#[32]⟩ : ByteArray)).size = seed.size + (⟨#[32]⟩ : ByteArray).size := ByteArray.size_append
      refine w_g (v := .string (seed ++ (⟨#[32]⟩ : ByteArray))) (decide_eq_true hb23) (x_bin rfl rfl rfl (b_cat (by omega))) ?_
      refine w_g (decide_eq_true hb23) xm ?_
      refine w_g (decide_eq_true hb23) xm ?_
      refine w_g (v := .int .i64 (((j - 1 : Nat) : Int))) (decide_eq_true hb23) (x_bin rfl rfl rfl (b_sub (by rw [w64 (by omega)]; omega))) ?_
      refine w_g (v := .pointer ((pr).map fun q => q.add ((j - 1) * 5))) (decide_eq_true hb23) (x_idxR (j - 1) (H22.rwReads (k := 0) rfl) rfl rfl rfl Try.underlying85 sz87 (by omega)) ?_
      refine w_g (v := .pointer ((pr).map fun q => q.add ((j - 1) * 5 + 0))) (decide_eq_true hb23) (ex_cast (x_fieldAddrG (m := (j - 1) * 5) ((H22.rwReads (k := 0) rfl).some (by omega)) rfl rfl fo87_0) rfl) ?_
      have hlq := (H22.rwReads (k := 0) rfl).lenL tkE
      obtain ⟨x25, hx25⟩ := ex_at (l := row) (j := (j - 1)) (by omega)
      clear hlq
      have hszy := hK.size (fun s hs => hlnx11.2 s hs) (List.mem_of_getElem? hx25)
      refine w_g (v := .string (x25.name)) (decide_eq_true hb23) (x_loadF1 (i := 0) (j := (j - 1)) tkE (H22.rwReads (k := 0) rfl) hx25 rfl rfl Try.underlying9 rfl rfl) ?_
      have hsz26 : ((seed ++ (⟨#[32]⟩ : ByteArray)) ++ x25.name).size = (seed ++ (⟨#[32]⟩ : ByteArray)).size + x25.name.size := ByteArray.size_append
      refine w_g (v := .string ((seed ++ (⟨#[32]⟩ : ByteArray)) ++ x25.name)) (decide_eq_true hb23) (x_bin rfl rfl rfl (b_cat (by omega))) ?_
      refine l_of (s_call0 H22 (wt1 rfl rfl rfl rfl (decide_eq_true hb23)) (x_call' rfl rfl cl39) (old_r ((seed ++ (⟨#[32]⟩ : ByteArray)) ++ x25.name) (by omega) _) rfl rfl ?_)
      intro wq27 H28
      refine w_g (decide_eq_true hb23) xm ?_
      refine w_g (v := .bool (decide (0 < cmpB (oldS ((seed ++ (⟨#[32]⟩ : ByteArray)) ++ x25.name)) (oldS ((seed ++ (⟨#[32]⟩ : ByteArray)) ++ x16))))) (decide_eq_true hb23) (x_bin rfl rfl rfl b_gts) ?_
      refine w_v (v := .bool (decide (0 < cmpB (oldS ((seed ++ (⟨#[32]⟩ : ByteArray)) ++ x25.name)) (oldS ((seed ++ (⟨#[32]⟩ : ByteArray)) ++ x16))))) (x_pick_t rfl rfl (decide_eq_true hb23) rfl) ?_
      refine w_e ?_
      refine g_weak [(0, .string seed), (8, .pointer (some ⟨g5, 0, none⟩)), (11, .slice pr row.length cr), (13, .string x16), (14, .string ((oldS ((seed ++ (⟨#[32]⟩ : ByteArray)) ++ x16)))), (15, .int .i64 ((j : Int))), (28, .slice p ls.length c), (29, .int .i64 ((ls.length : Int))), (30, .int .i64 ((i : Int))), (34, .slice x11.p x11.l.length x11.c), (35, .int .i64 ((x11.l.length : Int))), (36, .int .i64 ((k : Int))), (62, .bool (decide (0 < cmpB (oldS ((seed ++ (⟨#[32]⟩ : ByteArray)) ++ x25.name)) (oldS ((seed ++ (⟨#[32]⟩ : ByteArray)) ++ x16)))))] ⟨rfl, rfl, rfl, rfl, rfl, rfl, rfl, rfl, rfl, rfl, rfl, rfl, rfl, trivial⟩ ?_
      by_cases hb29 : 0 < cmpB (oldS ((seed ++ (⟨#[32]⟩ : ByteArray)) ++ x25.name)) (oldS ((seed ++ (⟨#[32]⟩ : ByteArray)) ++ x16))
      ·
       refine g_cond_t rfl (decide_eq_true hb29) ?_
       refine g_skip ?_
       refine g_then ?_
       refine g_block ?_
       refine g_region ?_
       refine w_m ?_
       refine w_b (v := .int .i64 (((j - 1 : Nat) : Int))) (hb := (b_sub (by rw [w64 (by omega)]; omega))) ?_
       refine w_a ?_
       refine g_nil ?_
       refine g_in ?_
       refine g_then ?_
       refine g_round (i := (j)) ((j - 1)) ?_ ?_ ?_
       · exact ⟨rfl, rfl, rfl, rfl, rfl, rfl, rfl, rfl, rfl, rfl, rfl, rfl, trivial⟩
       · exact ⟨by omega, (up_step (P := fun x => 0 < cmpS seed x.name x16) hx25 (by omega) hb29 hup), (H28.takes [0, 1, 2, 3, 4] (by decide))⟩
       · (try dsimp only); omega
      ·
       refine g_cond_f rfl (decide_eq_false hb29) ?_
       refine g_exit ?_
       refine g_then_exit ?_
       refine g_then_exit ?_
       refine g_in_hit ?_
       refine g_then ?_
       refine w_s ?_
       have H30 := H28.nilFl 87 5 tkL
       refine w_a ?_
       refine w_e ?_
       refine w_s ?_
       refine w_r3 ?_
       have hnc := (H30.rwReads (k := 1) rfl).2.1
       refine w_v (v := .slice pr j cr) (ex_cast (x_sliceH j rfl rfl rfl Try.underlying85 sz87 (by omega)) (by rw [cutP0])) ?_
       have hln35a := (H30.rwReads (k := 0) rfl).lenL tkE
       have hln35b := ((H30.rwReads (k := 1) rfl).takeL tkE j (by omega)).lenL tkE
       have hln35 : (row.take j).length = 0 + j := by omega
       refine l_of (s_appLn (l := []) (l2 := (row.take j)) tkE H30 0 (wt0 rfl) rfl rfl rfl rfl rfl rfl Try.underlying85 inf87 rfl (by decide) ((H30.rwReads (k := 1) rfl).takeL tkE j (by omega)) (by omega) ?_)
       intro p31 c32 wq33 H34
       rw [List.nil_append] at H34 ⊢
       replace H34 : S wq33 [Rw 87 5 p31 ((row.take j).length) c32 (fl tkL (row.take j)), Rw 87 5 pr row.length cr (fl tkL row), Ob g5 (.cells #[.slice P rs.length C, .int .i64 0, .bool false, .string (⟨#[]⟩), .int .i64 0, .bool false, .bool whole, .bool false, .bool false, .int .i64 0] 84 (0, 0)), Rw 85 1 P rs.length C (fl rowL rs), RowsI 87 5 tkL rs, Old w no] := H34
       refine w_a ?_
       refine w_e ?_
       refine w_s ?_
       refine w_r2 ?_
       refine w_v (v := .agg #[.string x16, .int .i64 0, .int .i64 0, .bool false, .bool false]) (x_build (vs := [.string x16]) rfl rfl (cells := #[.string x16, .int .i64 0, .int .i64 0, .bool false, .bool false]) (by kernel_rfl)) ?_
       refine l_of (s_buildSlice H34 (wt0 rfl) rfl rfl rfl (vs := [.agg #[.string x16, .int .i64 0, .int .i64 0, .bool false, .bool false]]) rfl Try.underlying85 sz87 ze87 rfl rfl (cells := #[.string x16, .int .i64 0, .int .i64 0, .bool false, .bool false]) (by kernel_rfl) ?_)
       intro g36 wq37 H38
       have hln43a := (H38.rwReads (k := 1) rfl).lenL tkE
       have hln43 : ((row.take j) ++ [(⟨x16, 0, 0, false, false⟩ : Tk)]).length = ((row.take j).length) + 1 := by simp only [List.length_append, List.length_cons, List.length_nil] <;> omega
       refine l_of (s_appBn (m := 1) (l := (row.take j)) (l2 := [(⟨x16, 0, 0, false, false⟩ : Tk)]) tkE H38 1 (j0 := 0) rfl rfl ⟨rfl, Nat.le_refl _⟩ (wt0 rfl) rfl rfl rfl rfl rfl rfl Try.underlying85 inf87 rfl (by decide) (by omega) ?_)
       intro p39 c40 wq41 H42
       refine w_a ?_
       refine w_e ?_
       refine g_weak [(0, .string seed), (8, .pointer (some ⟨g5, 0, none⟩)), (11, .slice pr row.length cr), (15, .int .i64 ((j : Int))), (16, .slice p39 (((row.take j) ++ [(⟨x16, 0, 0, false, false⟩ : Tk)]).length) c40), (28, .slice p ls.length c), (29, .int .i64 ((ls.length : Int))), (30, .int .i64 ((i : Int))), (34, .slice x11.p x11.l.length x11.c), (35, .int .i64 ((x11.l.length : Int))), (36, .int .i64 ((k : Int)))] ⟨rfl, rfl, rfl, rfl, rfl, rfl, rfl, rfl, rfl, rfl, rfl, trivial⟩ ?_
       refine g_region ?_
       refine w_r3 ?_
       have hnc := (H42.rwReads (k := 2) rfl).2.1
       have hnl := (H42.rwReads (k := 2) rfl).lenL tkE
       have hdl : (row.drop j).length = row.length - j := by rw [List.length_drop, ← hnl]
       refine w_v (v := .slice (cutP pr j cr 5) ((row.drop j).length) (cr - j)) (ex_cast (x_cut j rfl rfl rfl Try.underlying85 sz87 (by omega)) (by rw [List.length_drop, ← hnl])) ?_
       have hln48a := (H42.rwReads (k := 1) rfl).lenL tkE
       have hln48b := ((H42.rwReads (k := 2) rfl).cutLn tkE j (by omega)).lenL tkE
       have hln48 : (((row.take j) ++ [(⟨x16, 0, 0, false, false⟩ : Tk)]) ++ (row.drop j)).length = (((row.take j) ++ [(⟨x16, 0, 0, false, false⟩ : Tk)]).length) + ((row.drop j).length) := by simp only [List.length_append, List.length_cons, List.length_nil] <;> omega
       refine l_of (s_appLn (l := ((row.take j) ++ [(⟨x16, 0, 0, false, false⟩ : Tk)])) (l2 := (row.drop j)) tkE H42 1 (wt0 rfl) rfl rfl rfl rfl rfl rfl Try.underlying85 inf87 rfl (by decide) ((H42.rwReads (k := 2) rfl).cutLn tkE j (by omega)) (by omega) ?_)
       intro p44 c45 wq46 H47
       refine w_a ?_
       refine g_nil ?_
       refine g_in ?_
       refine g_then ?_
       refine g_region ?_
       refine w_b (v := .int .i64 (((k + 1 : Nat) : Int))) (hb := (b_add (by rw [w64 (by omega)]; omega))) ?_
       refine w_m ?_
       refine w_e ?_
       refine g_round (i := (k, pr, cr, row)) ((k + 1), p44, c45, (((row.take j) ++ [(⟨x16, 0, 0, false, false⟩ : Tk)]) ++ (row.drop j))) ?_ ?_ ?_
       · exact ⟨rfl, rfl, rfl, rfl, rfl, rfl, rfl, rfl, rfl, trivial⟩
       · exact ⟨by omega, (hK.step hx16 hjr hup (fun x _ hx9 => by rw [hx25] at hx9; cases hx9; exact hb29)), (H47.takes [1, 3, 4, 5, 6] (by decide))⟩
       · (try dsimp only); omega
     ·
      refine w_n (decide_eq_false hb23) ?_
      refine w_n (decide_eq_false hb23) ?_
      refine w_n (decide_eq_false hb23) ?_
      refine w_n (decide_eq_false hb23) ?_
      refine w_n (decide_eq_false hb23) ?_
      refine w_n (decide_eq_false hb23) ?_
      refine w_n (decide_eq_false hb23) ?_
      refine w_n (decide_eq_false hb23) ?_
      refine w_n (decide_eq_false hb23) ?_
      refine w_n (decide_eq_false hb23) ?_
      refine w_n (decide_eq_false hb23) ?_
      refine w_n (decide_eq_false hb23) ?_
      refine w_v (v := .bool false) (x_pick_f rfl rfl (decide_eq_false hb23) rfl) ?_
      refine w_e ?_
      refine g_weak [(0, .string seed), (8, .pointer (some ⟨g5, 0, none⟩)), (11, .slice pr row.length cr), (13, .string x16), (14, .string ((oldS ((seed ++ (⟨#[32]⟩ : ByteArray)) ++ x16)))), (15, .int .i64 ((j : Int))), (28, .slice p ls.length c), (29, .int .i64 ((ls.length : Int))), (30, .int .i64 ((i : Int))), (34, .slice x11.p x11.l.length x11.c), (35, .int .i64 ((x11.l.length : Int))), (36, .int .i64 ((k : Int))), (62, .bool false)] ⟨rfl, rfl, rfl, rfl, rfl, rfl, rfl, rfl, rfl, rfl, rfl, rfl, rfl, trivial⟩ ?_
      refine g_cond_f rfl rfl ?_
      refine g_exit ?_
      refine g_then_exit ?_
      refine g_then_exit ?_
      refine g_in_hit ?_
      refine g_then ?_
      refine w_s ?_
      have H49 := H22.nilFl 87 5 tkL
      refine w_a ?_
      refine w_e ?_
      refine w_s ?_
      refine w_r3 ?_
      have hnc := (H49.rwReads (k := 1) rfl).2.1
      refine w_v (v := .slice pr j cr) (ex_cast (x_sliceH j rfl rfl rfl Try.underlying85 sz87 (by omega)) (by rw [cutP0])) ?_
      have hln54a := (H49.rwReads (k := 0) rfl).lenL tkE
      have hln54b := ((H49.rwReads (k := 1) rfl).takeL tkE j (by omega)).lenL tkE
      have hln54 : (row.take j).length = 0 + j := by omega
      refine l_of (s_appLn (l := []) (l2 := (row.take j)) tkE H49 0 (wt0 rfl) rfl rfl rfl rfl rfl rfl Try.underlying85 inf87 rfl (by decide) ((H49.rwReads (k := 1) rfl).takeL tkE j (by omega)) (by omega) ?_)
      intro p50 c51 wq52 H53
      rw [List.nil_append] at H53 ⊢
      replace H53 : S wq52 [Rw 87 5 p50 ((row.take j).length) c51 (fl tkL (row.take j)), Rw 87 5 pr row.length cr (fl tkL row), Ob g5 (.cells #[.slice P rs.length C, .int .i64 0, .bool false, .string (⟨#[]⟩), .int .i64 0, .bool false, .bool whole, .bool false, .bool false, .int .i64 0] 84 (0, 0)), Rw 85 1 P rs.length C (fl rowL rs), RowsI 87 5 tkL rs, Old w no] := H53
      refine w_a ?_
      refine w_e ?_
      refine w_s ?_
      refine w_r2 ?_
      refine w_v (v := .agg #[.string x16, .int .i64 0, .int .i64 0, .bool false, .bool false]) (x_build (vs := [.string x16]) rfl rfl (cells := #[.string x16, .int .i64 0, .int .i64 0, .bool false, .bool false]) (by kernel_rfl)) ?_
      refine l_of (s_buildSlice H53 (wt0 rfl) rfl rfl rfl (vs := [.agg #[.string x16, .int .i64 0, .int .i64 0, .bool false, .bool false]]) rfl Try.underlying85 sz87 ze87 rfl rfl (cells := #[.string x16, .int .i64 0, .int .i64 0, .bool false, .bool false]) (by kernel_rfl) ?_)
      intro g55 wq56 H57
      have hln62a := (H57.rwReads (k := 1) rfl).lenL tkE
      have hln62 : ((row.take j) ++ [(⟨x16, 0, 0, false, false⟩ : Tk)]).length = ((row.take j).length) + 1 := by simp only [List.length_append, List.length_cons, List.length_nil] <;> omega
      refine l_of (s_appBn (m := 1) (l := (row.take j)) (l2 := [(⟨x16, 0, 0, false, false⟩ : Tk)]) tkE H57 1 (j0 := 0) rfl rfl ⟨rfl, Nat.le_refl _⟩ (wt0 rfl) rfl rfl rfl rfl rfl rfl Try.underlying85 inf87 rfl (by decide) (by omega) ?_)
      intro p58 c59 wq60 H61
      refine w_a ?_
      refine w_e ?_
      refine g_weak [(0, .string seed), (8, .pointer (some ⟨g5, 0, none⟩)), (11, .slice pr row.length cr), (15, .int .i64 ((j : Int))), (16, .slice p58 (((row.take j) ++ [(⟨x16, 0, 0, false, false⟩ : Tk)]).length) c59), (28, .slice p ls.length c), (29, .int .i64 ((ls.length : Int))), (30, .int .i64 ((i : Int))), (34, .slice x11.p x11.l.length x11.c), (35, .int .i64 ((x11.l.length : Int))), (36, .int .i64 ((k : Int)))] ⟨rfl, rfl, rfl, rfl, rfl, rfl, rfl, rfl, rfl, rfl, rfl, trivial⟩ ?_
      refine g_region ?_
      refine w_r3 ?_
      have hnc := (H61.rwReads (k := 2) rfl).2.1
      have hnl := (H61.rwReads (k := 2) rfl).lenL tkE
      have hdl : (row.drop j).length = row.length - j := by rw [List.length_drop, ← hnl]
      refine w_v (v := .slice (cutP pr j cr 5) ((row.drop j).length) (cr - j)) (ex_cast (x_cut j rfl rfl rfl Try.underlying85 sz87 (by omega)) (by rw [List.length_drop, ← hnl])) ?_
      have hln67a := (H61.rwReads (k := 1) rfl).lenL tkE
      have hln67b := ((H61.rwReads (k := 2) rfl).cutLn tkE j (by omega)).lenL tkE
      have hln67 : (((row.take j) ++ [(⟨x16, 0, 0, false, false⟩ : Tk)]) ++ (row.drop j)).length = (((row.take j) ++ [(⟨x16, 0, 0, false, false⟩ : Tk)]).length) + ((row.drop j).length) := by simp only [List.length_append, List.length_cons, List.length_nil] <;> omega
      refine l_of (s_appLn (l := ((row.take j) ++ [(⟨x16, 0, 0, false, false⟩ : Tk)])) (l2 := (row.drop j)) tkE H61 1 (wt0 rfl) rfl rfl rfl rfl rfl rfl Try.underlying85 inf87 rfl (by decide) ((H61.rwReads (k := 2) rfl).cutLn tkE j (by omega)) (by omega) ?_)
      intro p63 c64 wq65 H66
      refine w_a ?_
      refine g_nil ?_
      refine g_in ?_
      refine g_then ?_
      refine g_region ?_
      refine w_b (v := .int .i64 (((k + 1 : Nat) : Int))) (hb := (b_add (by rw [w64 (by omega)]; omega))) ?_
      refine w_m ?_
      refine w_e ?_
      refine g_round (i := (k, pr, cr, row)) ((k + 1), p63, c64, (((row.take j) ++ [(⟨x16, 0, 0, false, false⟩ : Tk)]) ++ (row.drop j))) ?_ ?_ ?_
      · exact ⟨rfl, rfl, rfl, rfl, rfl, rfl, rfl, rfl, rfl, trivial⟩
      · exact ⟨by omega, (hK.step hx16 hjr hup (fun x h9 _ => absurd h9 (by omega))), (H66.takes [1, 3, 4, 5, 6] (by decide))⟩
      · (try dsimp only); omega
    ·
     refine g_cond_f rfl (decide_eq_false hb15) ?_
     refine g_exit ?_
     refine g_then_exit ?_
     refine g_then_exit ?_
     refine g_in_hit ?_
     refine g_then ?_
     refine g_region ?_
     refine w_r4 ?_
     refine w_1 H14 1 ?_
     refine w_m ?_
     refine l_of (s_buildSlice H14 (wt0 rfl) rfl rfl rfl (vs := [.slice pr row.length cr]) rfl Try.underlying82 sz85 ze85 rfl rfl (cells := #[.slice pr row.length cr]) (by kernel_rfl) ?_)
     intro g68 wq69 H70
     have hln75a := (H70.rwReads (k := 3) rfl).lenL rowE
     have hln75 : (rs ++ [(⟨pr, cr, row⟩ : Ro Tk)]).length = rs.length + 1 := by simp only [List.length_append, List.length_cons, List.length_nil] <;> omega
     refine l_of (s_appBn (m := 1) (l := rs) (l2 := [(⟨pr, cr, row⟩ : Ro Tk)]) rowE H70 3 (j0 := 0) rfl rfl ⟨rfl, Nat.le_refl _⟩ (wt0 rfl) rfl rfl rfl rfl rfl rfl Try.underlying82 inf85 rfl (by decide) (by omega) ?_)
     intro p71 c72 wq73 H74
     refine w_r2 ?_
     refine l_of (w_st #[.slice p71 ((rs ++ [(⟨pr, cr, row⟩ : Ro Tk)]).length) c72, .int .i64 0, .bool false, .string (⟨#[]⟩), .int .i64 0, .bool false, .bool whole, .bool false, .bool false, .int .i64 0] H74 2 ?_)
     intro wq76 H77
     refine g_nil ?_
     refine g_in ?_
     refine g_then ?_
     refine g_weak [(0, .string seed), (8, .pointer (some ⟨g5, 0, none⟩)), (28, .slice p ls.length c), (29, .int .i64 ((ls.length : Int))), (30, .int .i64 ((i : Int)))] ⟨rfl, rfl, rfl, rfl, rfl, trivial⟩ ?_
     refine g_region ?_
     refine w_b (v := .int .i64 (((i + 1 : Nat) : Int))) (hb := (b_add (by rw [w64 (by omega)]; omega))) ?_
     refine w_m ?_
     refine w_e ?_
     refine g_round (i := (i, P, C, rs)) ((i + 1), p71, c72, (rs ++ [(⟨pr, cr, row⟩ : Ro Tk)])) ?_ ?_ ?_
     · exact ⟨rfl, rfl, rfl, rfl, rfl, trivial⟩
     · exact ⟨by omega, (by rw [take_snoc hx11, List.map_append, List.map_append, hI]; congr 1; show [row] = [(sortN seed x11.l).map newTk]; rw [hK.done (by omega) (by omega)]), (by rw [List.length_append, hrl]; rfl), ((S.rowsSnoc (rs := rs) (r := (⟨pr, cr, row⟩ : Ro Tk)) (e := 87) (size := 5) (enc := tkL) (H77.takes [4, 1, 2, 3, 5] (by decide))).takes [1, 2, 0, 3] (by decide))⟩
     · (try dsimp only); omega
   ·
    refine g_cond_f rfl (decide_eq_false hb10) ?_
    refine g_exit ?_
    refine g_then_exit ?_
    refine g_then_exit ?_
    refine g_in_hit ?_
    refine g_then ?_
    refine w_s ?_
    refine w_r3 ?_
    refine w_e ?_
    refine g_ret ?_
    refine fin_ret [.tmp 6, .tmp 7] [.pointer (some ⟨g5, 0, none⟩), .int .i64 0] rfl ⟨rfl, rfl, trivial⟩ ?_
    have hil : i = ls.length := by omega
    subst hil
    rw [List.take_length] at hI
    exact .inr ⟨g5, P, C, rs, by omega, hG, hI, rfl, H9.takes [0, 1, 2, 3] (by decide)⟩
  ·
   refine g_cond_t rfl (neg_of hb4) ?_
   refine w_s ?_
   refine w_r2 ?_
   refine w_e ?_
   refine g_ret ?_
   refine g_then_ret ?_
   refine fin_ret [.tmp 6, .tmp 7] [.pointer none, .int .i64 1] rfl ⟨rfl, rfl, trivial⟩ ?_
   exact .inl ⟨fun h9 => of_decide_eq_false hb4 h9.2, rfl, H3.takes [0] (by decide)⟩
end Go.Proofs.Ytibdlnjnomikjaa
