import Derived.Test.YtpbjekdjebjbkaaGreatFk
import Derived.Test.YtpbjekdjebjbkaaGreatLb
import Derived.Test.YtpbjekdjebjbkaaGreatHc
import Derived.Test.YtpbjekdjebjbkaaGreatGi
import Derived.Test.YtpbjekdjebjbkaaGreatGl
set_option linter.unusedSimpArgs false
set_option linter.unusedVariables false
namespace Go.Proofs.YtpbjekdjebjbkaaGreat
open Go.RowKit

theorem cl134 : callable Tryz.prog 134 = true := by kernel_rfl
theorem cl141 : callable Tryz.prog 141 = true := by kernel_rfl
theorem cl52 : callable Tryz.prog 52 = true := by kernel_rfl
def oldS (s : ByteArray) : ByteArray := (sumS ((⟨#[111, 108, 100, 58]⟩ : ByteArray) ++ s)).extract 0 20
/-- What tells a rival in a round. -/
def nameS (round : Int) (seed : ByteArray) (x : Rv) : ByteArray := (((seed ++ ⟨#[58]⟩) ++ itS (round / 3)) ++ ⟨#[58]⟩) ++ itS x.id
def luckS (round : Int) (seed : ByteArray) (x : Rv) : ByteArray :=
  if round - x.since < 3 then minSt (minSt (oldS (nameS round seed x)) (oldS (nameS round seed x ++ ⟨#[97]⟩))) (oldS (nameS round seed x ++ ⟨#[98]⟩)) else oldS (nameS round seed x)
set_option maxRecDepth 20000 in
set_option maxHeartbeats 4000000 in
theorem old_h (s : ByteArray) (hs : s.size ≤ 1048576) (w : World) : Calls Tryz.prog 134 #[.string s] w fun e w' => e = .returned (.string (oldS s)) ∧ S w' [Old w no] := by
 have H0 := S.old w
 have hz4 : (⟨#[111, 108, 100, 58]⟩ : ByteArray).size = 4 := rfl
 refine enter 7 Tryz.func134 rfl rfl rfl ?_
 refine g_weak [(0, .string s)] ⟨rfl, trivial⟩ ?_
 refine w_s ?_
 refine w_a ?_
 refine w_e ?_
 refine w_s ?_
 refine w_m ?_
 have hsz1 : ((⟨#[111, 108, 100, 58]⟩ : ByteArray) ++ s).size = (⟨#[111, 108, 100, 58]⟩ : ByteArray).size + s.size := ByteArray.size_append
 refine w_b (v := .string ((⟨#[111, 108, 100, 58]⟩ : ByteArray) ++ s)) (hb := (b_cat (by omega))) ?_
 refine l_of (s_call0 H0 (wt0 rfl) (x_call' rfl rfl cl141) (sum_h _ (by omega) _) rfl rfl ?_)
 intro wq2 H3
 have hss := sumS_size ((⟨#[111, 108, 100, 58]⟩ : ByteArray) ++ s)
 refine w_v (v := .string ((oldS s))) (x_slices 0 20 rfl rfl Tryz.underlying9 (.inl ⟨rfl, rfl⟩) (.inr ⟨_, _, _, rfl, rfl, by omega⟩) (by omega)) ?_
 refine w_a ?_
 refine w_e ?_
 refine g_ret ?_
 refine fin_ret [.tmp 2] [.string ((oldS s))] rfl ⟨rfl, trivial⟩ ?_
 exact ⟨rfl, H3.mask [true]⟩
set_option maxRecDepth 20000 in
set_option maxHeartbeats 4000000 in
theorem drawn1_s (b1 b2 : Nat) (w0 : World) (ht : PowTab w0) (seed : ByteArray) (round : Int) (hsd : seed.size ≤ 200) (hrd : 0 ≤ round ∧ round ≤ 200) (x : Rv) (hx : DV x)  (w : World) (HS : S w [Ob b1 (.cells #[.string seed] 9 (0, 0)), Ob b2 (.cells #[.int .i64 round] 3 (0, 0)), Old w0 no]) : Calls Tryz.prog 133 #[.agg #[.int .i64 (x.id), .bool x.intr, .bool x.chk, .int .i64 (x.frm), .int .i64 (x.to), .int .i64 (x.lt), .int .i64 (x.since), .bool x.snb, .bool x.now, .bool x.seed], .pointer (some ⟨b1, 0, none⟩), .pointer (some ⟨b2, 0, none⟩)] w fun e w' => e = .returned (.string (luckS round seed x)) ∧ S w' ([Ob b1 (.cells #[.string seed] 9 (0, 0)), Ob b2 (.cells #[.int .i64 round] 3 (0, 0)), Old w0 no] ++ [Old w (fps [Ob b1 (.cells #[.string seed] 9 (0, 0)), Ob b2 (.cells #[.int .i64 round] 3 (0, 0)), Old w0 no])]) := by
 have H0 := HS.beginI
 have hz1 : (⟨#[58]⟩ : ByteArray).size = 1 := rfl
 have hz2 : (⟨#[97]⟩ : ByteArray).size = 1 := rfl
 have hz3 : (⟨#[98]⟩ : ByteArray).size = 1 := rfl
 unfold DV at hx
 refine enter 34 Tryz.func133 rfl rfl rfl ?_
 refine g_weak [(0, .agg #[.int .i64 (x.id), .bool x.intr, .bool x.chk, .int .i64 (x.frm), .int .i64 (x.to), .int .i64 (x.lt), .int .i64 (x.since), .bool x.snb, .bool x.now, .bool x.seed]), (1, .pointer (some ⟨b1, 0, none⟩)), (2, .pointer (some ⟨b2, 0, none⟩))] ⟨rfl, rfl, rfl, trivial⟩ ?_
 refine w_s ?_
 refine l_of (s_box H0 (wt0 rfl) rfl rfl rfl rfl ?_)
 intro g1 wq2 H3
 refine w_a ?_
 refine w_e ?_
 refine g_seq ?_
 refine g_anyY [] (fun wx => S wx [Ob g1 (.cells #[.int .i64 (x.id), .bool x.intr, .bool x.chk, .int .i64 (x.frm), .int .i64 (x.to), .int .i64 (x.lt), .int .i64 (x.since), .bool x.snb, .bool x.now, .bool x.seed] 102 (0, 0)), Ob b1 (.cells #[.string seed] 9 (0, 0)), Ob b2 (.cells #[.int .i64 round] 3 (0, 0))]) (fun wx => S wx [Ob g1 (.cells #[.int .i64 (x.id), .bool x.intr, .bool x.chk, .int .i64 (x.frm), .int .i64 (x.to), .int .i64 (x.lt), .int .i64 (x.since), .bool x.snb, .bool x.now, .bool x.seed] 102 (0, 0)), Ob b1 (.cells #[.string seed] 9 (0, 0)), Ob b2 (.cells #[.int .i64 round] 3 (0, 0))]) [] (by kernel_rfl) H3 (fun wq4 H5 => ?_)
 have cm1 := H5.mask [true, true, true, false, false]
 refine y_take (v := .string seed) 0 rfl (wt0 rfl) rfl rfl rfl (by kernel_rfl) (by kernel_rfl) (by kernel_rfl) (by kernel_rfl) (by kernel_rfl) cm1 (fun wx H => x_load1 H 1 rfl rfl Tryz.underlying9 rfl rfl rfl) ?_
 have hsz6 : (seed ++ (⟨#[58]⟩ : ByteArray)).size = seed.size + (⟨#[58]⟩ : ByteArray).size := ByteArray.size_append
 refine w_y (v := .string (seed ++ (⟨#[58]⟩ : ByteArray))) 1 rfl (wt0 rfl) rfl rfl rfl (by kernel_rfl) (fun _ => x_bin rfl rfl rfl (b_cat (by omega))) ?_
 refine y_take (v := .int .i64 round) 2 rfl (wt0 rfl) rfl rfl rfl (by kernel_rfl) (by kernel_rfl) (by kernel_rfl) (by kernel_rfl) (by kernel_rfl) cm1 (fun wx H => x_load1 H 2 rfl rfl Tryz.underlying3 rfl rfl rfl) ?_
 refine w_y (v := .int .i64 (round / 3)) 3 rfl (wt0 rfl) rfl rfl rfl (by kernel_rfl) (fun _ => x_bin rfl rfl rfl (b_quo (by omega) (quo64 (by omega)))) ?_
 refine w_y 7 rfl (wt0 rfl) rfl rfl rfl (by kernel_rfl) (fun _ => x_fieldAddr (off' := 0) rfl rfl fo102_0 rfl) ?_
 refine y_take (v := .int .i64 (x.id)) 8 rfl (wt0 rfl) rfl rfl rfl (by kernel_rfl) (by kernel_rfl) (by kernel_rfl) (by kernel_rfl) (by kernel_rfl) cm1 (fun wx H => x_load1 H 0 rfl rfl Tryz.underlying3 rfl rfl rfl) ?_
 refine y_one (i := 4) (by kernel_rfl) rfl ?_
 refine s_call (wt0 rfl) (x_call' rfl rfl cl52) (itoa_s (round / 3) (by omega) (by omega) _ (H5.tab (k := 3) rfl ht)) ?_
 rintro _ wq8 ⟨rfl, H9⟩
 replace H9 : S wq8 [Ob g1 (.cells #[.int .i64 (x.id), .bool x.intr, .bool x.chk, .int .i64 (x.frm), .int .i64 (x.to), .int .i64 (x.lt), .int .i64 (x.since), .bool x.snb, .bool x.now, .bool x.seed] 102 (0, 0)), Ob b1 (.cells #[.string seed] 9 (0, 0)), Ob b2 (.cells #[.int .i64 round] 3 (0, 0)), Old w0 no, Old w (fps [Ob b1 (.cells #[.string seed] 9 (0, 0)), Ob b2 (.cells #[.int .i64 round] 3 (0, 0)), Old w0 no])] := H5.absorb (new := []) H9
 have hit7 := itS_size (n := round / 3) (by omega) (by omega)
 refine b_ret rfl rfl ?_
 have cm2 := H9.mask [true, true, true, false, false]
 refine y_k cm2 cm2 ?_
 have hsz10 : ((seed ++ (⟨#[58]⟩ : ByteArray)) ++ (itS (round / 3))).size = (seed ++ (⟨#[58]⟩ : ByteArray)).size + (itS (round / 3)).size := ByteArray.size_append
 refine w_y (v := .string ((seed ++ (⟨#[58]⟩ : ByteArray)) ++ (itS (round / 3)))) 5 rfl (wt0 rfl) rfl rfl rfl (by kernel_rfl) (fun _ => x_bin rfl rfl rfl (b_cat (by omega))) ?_
 have hsz11 : (((seed ++ (⟨#[58]⟩ : ByteArray)) ++ (itS (round / 3))) ++ (⟨#[58]⟩ : ByteArray)).size = ((seed ++ (⟨#[58]⟩ : ByteArray)) ++ (itS (round / 3))).size + (⟨#[58]⟩ : ByteArray).size := ByteArray.size_append
 refine w_y (v := .string (((seed ++ (⟨#[58]⟩ : ByteArray)) ++ (itS (round / 3))) ++ (⟨#[58]⟩ : ByteArray))) 6 rfl (wt0 rfl) rfl rfl rfl (by kernel_rfl) (fun _ => x_bin rfl rfl rfl (b_cat (by omega))) ?_
 refine y_one (i := 9) (by kernel_rfl) rfl ?_
 refine s_call (wt0 rfl) (x_call' rfl rfl cl52) (itoa_s x.id (by omega) (by omega) _ (H9.tab (k := 3) rfl ht)) ?_
 rintro _ wq13 ⟨rfl, H14⟩
 replace H14 : S wq13 [Ob g1 (.cells #[.int .i64 (x.id), .bool x.intr, .bool x.chk, .int .i64 (x.frm), .int .i64 (x.to), .int .i64 (x.lt), .int .i64 (x.since), .bool x.snb, .bool x.now, .bool x.seed] 102 (0, 0)), Ob b1 (.cells #[.string seed] 9 (0, 0)), Ob b2 (.cells #[.int .i64 round] 3 (0, 0)), Old w0 no, Old w (fps [Ob b1 (.cells #[.string seed] 9 (0, 0)), Ob b2 (.cells #[.int .i64 round] 3 (0, 0)), Old w0 no])] := H9.absorb (new := []) H14
 have hit12 := itS_size (n := x.id) (by omega) (by omega)
 refine b_ret rfl rfl ?_
 have cm3 := H14.mask [true, true, true, false, false]
 refine y_k cm3 cm3 ?_
 have hsz15 : ((((seed ++ (⟨#[58]⟩ : ByteArray)) ++ (itS (round / 3))) ++ (⟨#[58]⟩ : ByteArray)) ++ (itS x.id)).size = (((seed ++ (⟨#[58]⟩ : ByteArray)) ++ (itS (round / 3))) ++ (⟨#[58]⟩ : ByteArray)).size + (itS x.id).size := ByteArray.size_append
 refine w_y (v := .string ((((seed ++ (⟨#[58]⟩ : ByteArray)) ++ (itS (round / 3))) ++ (⟨#[58]⟩ : ByteArray)) ++ (itS x.id))) 10 rfl (wt0 rfl) rfl rfl rfl (by kernel_rfl) (fun _ => x_bin rfl rfl rfl (b_cat (by omega))) ?_
 refine w_y 11 rfl (wt0 rfl) rfl rfl rfl (by kernel_rfl) (fun _ => x_assign rfl rfl) ?_
 refine y_done (by kernel_rfl) ?_
 refine g_then ?_
 refine g_weak [(2, .pointer (some ⟨b2, 0, none⟩)), (3, .pointer (some ⟨g1, 0, none⟩)), (5, .string ((((seed ++ (⟨#[58]⟩ : ByteArray)) ++ (itS (round / 3))) ++ (⟨#[58]⟩ : ByteArray)) ++ (itS x.id)))] ⟨rfl, rfl, rfl, trivial⟩ ?_
 refine w_s ?_
 refine w_m ?_
 refine l_of (s_call0 H14 (wt0 rfl) (x_call' rfl rfl cl134) (old_h ((((seed ++ (⟨#[58]⟩ : ByteArray)) ++ (itS (round / 3))) ++ (⟨#[58]⟩ : ByteArray)) ++ (itS x.id)) (by omega) _) rfl rfl ?_)
 intro wq16 H17
 refine w_a ?_
 refine w_e ?_
 refine g_seq ?_
 refine w_s ?_
 refine w_1 H17 2 ?_
 refine w_f 6 ?_
 refine w_1 H17 0 ?_
 refine w_b (v := .int .i64 (round - x.since)) (hb := (b_sub (w64 (by omega)))) ?_
 refine w_b ?_
 refine w_e ?_
 by_cases hb18 : (round - x.since : Int) < 3
 ·
  refine g_cond_t rfl (decide_eq_true hb18) ?_
  refine g_region ?_
  refine w_r2 ?_
  have hsz19 : (((((seed ++ (⟨#[58]⟩ : ByteArray)) ++ (itS (round / 3))) ++ (⟨#[58]⟩ : ByteArray)) ++ (itS x.id)) ++ (⟨#[97]⟩ : ByteArray)).size = ((((seed ++ (⟨#[58]⟩ : ByteArray)) ++ (itS (round / 3))) ++ (⟨#[58]⟩ : ByteArray)) ++ (itS x.id)).size + (⟨#[97]⟩ : ByteArray).size := ByteArray.size_append
  refine w_b (v := .string (((((seed ++ (⟨#[58]⟩ : ByteArray)) ++ (itS (round / 3))) ++ (⟨#[58]⟩ : ByteArray)) ++ (itS x.id)) ++ (⟨#[97]⟩ : ByteArray))) (hb := (b_cat (by omega))) ?_
  refine l_of (s_call0 H17 (wt0 rfl) (x_call' rfl rfl cl134) (old_h (((((seed ++ (⟨#[58]⟩ : ByteArray)) ++ (itS (round / 3))) ++ (⟨#[58]⟩ : ByteArray)) ++ (itS x.id)) ++ (⟨#[97]⟩ : ByteArray)) (by omega) _) rfl rfl ?_)
  intro wq20 H21
  refine w_m ?_
  have hsz22 : (((((seed ++ (⟨#[58]⟩ : ByteArray)) ++ (itS (round / 3))) ++ (⟨#[58]⟩ : ByteArray)) ++ (itS x.id)) ++ (⟨#[98]⟩ : ByteArray)).size = ((((seed ++ (⟨#[58]⟩ : ByteArray)) ++ (itS (round / 3))) ++ (⟨#[58]⟩ : ByteArray)) ++ (itS x.id)).size + (⟨#[98]⟩ : ByteArray).size := ByteArray.size_append
  refine w_b (v := .string (((((seed ++ (⟨#[58]⟩ : ByteArray)) ++ (itS (round / 3))) ++ (⟨#[58]⟩ : ByteArray)) ++ (itS x.id)) ++ (⟨#[98]⟩ : ByteArray))) (hb := (b_cat (by omega))) ?_
  refine l_of (s_call0 H21 (wt0 rfl) (x_call' rfl rfl cl134) (old_h (((((seed ++ (⟨#[58]⟩ : ByteArray)) ++ (itS (round / 3))) ++ (⟨#[58]⟩ : ByteArray)) ++ (itS x.id)) ++ (⟨#[98]⟩ : ByteArray)) (by omega) _) rfl rfl ?_)
  intro wq23 H24
  refine w_v (v := .string ((minSt (minSt (oldS ((((seed ++ (⟨#[58]⟩ : ByteArray)) ++ (itS (round / 3))) ++ (⟨#[58]⟩ : ByteArray)) ++ (itS x.id))) (oldS (((((seed ++ (⟨#[58]⟩ : ByteArray)) ++ (itS (round / 3))) ++ (⟨#[58]⟩ : ByteArray)) ++ (itS x.id)) ++ (⟨#[97]⟩ : ByteArray)))) (oldS (((((seed ++ (⟨#[58]⟩ : ByteArray)) ++ (itS (round / 3))) ++ (⟨#[58]⟩ : ByteArray)) ++ (itS x.id)) ++ (⟨#[98]⟩ : ByteArray)))))) (x_min3S rfl rfl rfl rfl) ?_
  refine w_a ?_
  refine w_e ?_
  refine g_weak [(6, .string ((minSt (minSt (oldS ((((seed ++ (⟨#[58]⟩ : ByteArray)) ++ (itS (round / 3))) ++ (⟨#[58]⟩ : ByteArray)) ++ (itS x.id))) (oldS (((((seed ++ (⟨#[58]⟩ : ByteArray)) ++ (itS (round / 3))) ++ (⟨#[58]⟩ : ByteArray)) ++ (itS x.id)) ++ (⟨#[97]⟩ : ByteArray)))) (oldS (((((seed ++ (⟨#[58]⟩ : ByteArray)) ++ (itS (round / 3))) ++ (⟨#[58]⟩ : ByteArray)) ++ (itS x.id)) ++ (⟨#[98]⟩ : ByteArray))))))] ⟨rfl, trivial⟩ ?_
  refine w_s ?_
  refine w_r2 ?_
  refine w_e ?_
  refine g_ret ?_
  refine fin_ret [.tmp 4] [.string ((minSt (minSt (oldS ((((seed ++ (⟨#[58]⟩ : ByteArray)) ++ (itS (round / 3))) ++ (⟨#[58]⟩ : ByteArray)) ++ (itS x.id))) (oldS (((((seed ++ (⟨#[58]⟩ : ByteArray)) ++ (itS (round / 3))) ++ (⟨#[58]⟩ : ByteArray)) ++ (itS x.id)) ++ (⟨#[97]⟩ : ByteArray)))) (oldS (((((seed ++ (⟨#[58]⟩ : ByteArray)) ++ (itS (round / 3))) ++ (⟨#[58]⟩ : ByteArray)) ++ (itS x.id)) ++ (⟨#[98]⟩ : ByteArray)))))] rfl ⟨rfl, trivial⟩ ?_
  exact ⟨by unfold luckS nameS; rw [if_pos hb18]; rfl, H24.takes [1, 2, 3, 4] (by decide)⟩
 ·
  refine g_cond_f rfl (decide_eq_false hb18) ?_
  refine g_skip ?_
  refine g_then ?_
  refine w_s ?_
  refine w_r2 ?_
  refine w_e ?_
  refine g_weak [(4, .string ((oldS ((((seed ++ (⟨#[58]⟩ : ByteArray)) ++ (itS (round / 3))) ++ (⟨#[58]⟩ : ByteArray)) ++ (itS x.id)))))] ⟨rfl, trivial⟩ ?_
  refine g_ret ?_
  refine fin_ret [.tmp 4] [.string ((oldS ((((seed ++ (⟨#[58]⟩ : ByteArray)) ++ (itS (round / 3))) ++ (⟨#[58]⟩ : ByteArray)) ++ (itS x.id))))] rfl ⟨rfl, trivial⟩ ?_
  exact ⟨by unfold luckS nameS; rw [if_neg hb18]; rfl, H17.takes [1, 2, 3, 4] (by decide)⟩
theorem drawn1_f (b1 b2 : Nat) (w0 : World) (ht : PowTab w0) (seed : ByteArray) (round : Int) (hsd : seed.size ≤ 200) (hrd : 0 ≤ round ∧ round ≤ 200) : FunC Tryz.prog 133 #[] #[.pointer (some ⟨b1, 0, none⟩), .pointer (some ⟨b2, 0, none⟩)] (Big [Ob b1 (.cells #[.string seed] 9 (0, 0)), Ob b2 (.cells #[.int .i64 round] 3 (0, 0)), Old w0 no]) (fun x : Rv => [x.v]) (fun x => .string (luckS round seed x)) DV :=
  FunC.ofBig (by kernel_rfl) fun z hb w HS => drawn1_s b1 b2 w0 ht seed round hsd hrd _ hb w HS
end Go.Proofs.YtpbjekdjebjbkaaGreat
namespace Go.Proofs.YtpbjekdjebjbkaaGreat
open Go.RowKit

theorem cl115 : callable Tryz.prog 115 = true := by kernel_rfl
theorem cl116 : callable Tryz.prog 116 = true := by kernel_rfl
theorem cl118 : callable Tryz.prog 118 = true := by kernel_rfl
theorem fo102_9 : foO Tryz.prog 102 9 = some 9 := by kernel_rfl
theorem sz161 : szO Tryz.prog 161 = some 1 := by kernel_rfl
theorem ze161 : zeO Tryz.prog 161 = some (.nilFunc) := by kernel_rfl
def qW (x : Rv) : Bool := x.intr && !x.seed
def cO (round : Int) (seed : ByteArray) (x y : Rv) : Int := cmpSt (luckS round seed x) (luckS round seed y)
noncomputable def optL (round : Int) (seed : ByteArray) (l : List Rv) : List Rv := srt Rv.zero (cO round seed) (l.filter qW)
theorem optL_len (round : Int) (seed : ByteArray) (l : List Rv) : (optL round seed l).length ≤ l.length := by unfold optL; rw [srt_len]; exact List.length_filter_le _ _
def encR (x : Rv) : Array Value := #[x.v]
theorem S.noI {w : World} {a : Item} {L : List Item} (h : S w (a :: L)) : S w (a :: Big [] :: L) := by
  have h1 : S w (Big [] :: a :: L) := h.addNil
  exact h1.perm (List.Perm.swap ..)
set_option maxRecDepth 20000 in
set_option maxHeartbeats 4000000 in
set_option maxRecDepth 20000 in
set_option maxHeartbeats 4000000 in
theorem wants_s (x : Rv)  (w : World) : Calls Tryz.prog 64 #[.agg #[.int .i64 (x.id), .bool x.intr, .bool x.chk, .int .i64 (x.frm), .int .i64 (x.to), .int .i64 (x.lt), .int .i64 (x.since), .bool x.snb, .bool x.now, .bool x.seed]] w fun e w' => e = .returned (.bool (qW x)) ∧ S w' [Old w no] := by
 have H0 := S.old w
 refine enter 10 Tryz.func64 rfl rfl rfl ?_
 refine g_weak [(0, .agg #[.int .i64 (x.id), .bool x.intr, .bool x.chk, .int .i64 (x.frm), .int .i64 (x.to), .int .i64 (x.lt), .int .i64 (x.since), .bool x.snb, .bool x.now, .bool x.seed])] ⟨rfl, trivial⟩ ?_
 refine g_seq ?_
 refine g_region ?_
 refine l_of (s_box H0 (wt0 rfl) rfl rfl rfl rfl ?_)
 intro g1 wq2 H3
 refine l_of (s_val (v := .bool false) (wt0 rfl) rfl rfl (x_assign rfl rfl) ?_)
 refine g_nil ?_
 refine g_then ?_
 refine g_seq ?_
 refine g_region ?_
 refine l_of (s_val (v := .pointer (some ⟨g1, 1, none⟩)) (wt0 rfl) rfl rfl (x_fieldAddr rfl rfl fo102_1 rfl) ?_)
 refine l_of (s_val (v := .bool x.intr) (wt0 rfl) rfl rfl (x_load1 H3 0 rfl rfl Tryz.underlying4 rfl rfl rfl) ?_)
 refine l_of (s_val (v := .bool x.intr) (wt0 rfl) rfl rfl (x_move rfl rfl) ?_)
 rcases Bool.eq_false_or_eq_true (x.intr) with hb4 | hb4
 ·
  refine l_of (s_val (v := .pointer (some ⟨g1, 9, none⟩)) (wt1 rfl rfl rfl rfl hb4) rfl rfl (x_fieldAddr rfl rfl fo102_9 rfl) ?_)
  refine l_of (s_val (v := .bool x.seed) (wt1 rfl rfl rfl rfl hb4) rfl rfl (x_load1 H3 0 rfl rfl Tryz.underlying4 rfl rfl rfl) ?_)
  refine l_of (s_val (v := .bool (!(x.seed))) (wt1 rfl rfl rfl rfl hb4) rfl rfl (x_not (b := x.seed) rfl rfl) ?_)
  refine l_of (s_val (v := .bool (!(x.seed))) (wt0 rfl) rfl rfl (x_pick_t rfl rfl hb4 rfl) ?_)
  refine l_of (s_val (v := .bool (!(x.seed))) (wt0 rfl) rfl rfl (x_assign rfl rfl) ?_)
  refine g_nil ?_
  refine g_then ?_
  refine g_ret ?_
  refine fin_ret [.tmp 2] [.bool (!(x.seed))] rfl ⟨rfl, trivial⟩ ?_
  exact ⟨by unfold qW; simp [hb4, tupled], H3.mask [false, true]⟩
 ·
  refine l_of (s_not (wn1 rfl rfl rfl rfl hb4) rfl rfl ?_)
  refine l_of (s_not (wn1 rfl rfl rfl rfl hb4) rfl rfl ?_)
  refine l_of (s_not (wn1 rfl rfl rfl rfl hb4) rfl rfl ?_)
  refine l_of (s_val (v := .bool false) (wt0 rfl) rfl rfl (x_pick_f rfl rfl hb4 rfl) ?_)
  refine l_of (s_val (v := .bool false) (wt0 rfl) rfl rfl (x_assign rfl rfl) ?_)
  refine g_nil ?_
  refine g_then ?_
  refine g_ret ?_
  refine fin_ret [.tmp 2] [.bool false] rfl ⟨rfl, trivial⟩ ?_
  exact ⟨by unfold qW; simp [hb4, tupled], H3.mask [false, true]⟩
theorem wants_f (D : Rv → Prop) : FunC Tryz.prog 64 #[] #[] (Big []) (fun x : Rv => [x.v]) (fun x => .bool (qW x)) D :=
  FunC.pure (by kernel_rfl) fun x _ w => wants_s x w
set_option maxRecDepth 20000 in
set_option maxHeartbeats 4000000 in
set_option maxRecDepth 20000 in
set_option maxHeartbeats 4000000 in
theorem opt1_s (b : Nat) (gf : Nat) (figf cagf : Array Value) (X : Item) (f : Rv → ByteArray) (D : Rv → Prop) (hf : FunC Tryz.prog gf figf cagf X (fun x : Rv => [x.v]) (fun x => .string (f x)) D) (x y : Rv) (hx : D x) (hy : D y)  (w : World) (HS : S w [Ob b (.cells #[.func (.func gf) figf cagf] 161 (0, 0)), X]) : Calls Tryz.prog 117 #[.agg #[.int .i64 (x.id), .bool x.intr, .bool x.chk, .int .i64 (x.frm), .int .i64 (x.to), .int .i64 (x.lt), .int .i64 (x.since), .bool x.snb, .bool x.now, .bool x.seed], .agg #[.int .i64 (y.id), .bool y.intr, .bool y.chk, .int .i64 (y.frm), .int .i64 (y.to), .int .i64 (y.lt), .int .i64 (y.since), .bool y.snb, .bool y.now, .bool y.seed], .pointer (some ⟨b, 0, none⟩)] w fun e w' => e = .returned (.int .i64 (cmpSt (f x) (f y))) ∧ S w' ([Ob b (.cells #[.func (.func gf) figf cagf] 161 (0, 0)), X] ++ [Old w (fps [Ob b (.cells #[.func (.func gf) figf cagf] 161 (0, 0)), X])]) := by
 have H0 := HS.beginI
 refine enter 13 Tryz.func117 rfl rfl rfl ?_
 refine g_weak [(0, .agg #[.int .i64 (x.id), .bool x.intr, .bool x.chk, .int .i64 (x.frm), .int .i64 (x.to), .int .i64 (x.lt), .int .i64 (x.since), .bool x.snb, .bool x.now, .bool x.seed]), (1, .agg #[.int .i64 (y.id), .bool y.intr, .bool y.chk, .int .i64 (y.frm), .int .i64 (y.to), .int .i64 (y.lt), .int .i64 (y.since), .bool y.snb, .bool y.now, .bool y.seed]), (2, .pointer (some ⟨b, 0, none⟩))] ⟨rfl, rfl, rfl, trivial⟩ ?_
 refine g_seq ?_
 refine g_region ?_
 refine l_of (s_box H0 (wt0 rfl) rfl rfl rfl rfl ?_)
 intro g1 wq2 H3
 refine l_of (s_box H3 (wt0 rfl) rfl rfl rfl rfl ?_)
 intro g4 wq5 H6
 refine l_of (s_val (v := .int .i64 0) (wt0 rfl) rfl rfl (x_assign rfl rfl) ?_)
 refine g_nil ?_
 refine g_then ?_
 refine g_seq ?_
 refine g_anyY [] (fun wx => S wx [Ob g4 (.cells #[.int .i64 (y.id), .bool y.intr, .bool y.chk, .int .i64 (y.frm), .int .i64 (y.to), .int .i64 (y.lt), .int .i64 (y.since), .bool y.snb, .bool y.now, .bool y.seed] 102 (0, 0)), Ob g1 (.cells #[.int .i64 (x.id), .bool x.intr, .bool x.chk, .int .i64 (x.frm), .int .i64 (x.to), .int .i64 (x.lt), .int .i64 (x.since), .bool x.snb, .bool x.now, .bool x.seed] 102 (0, 0)), Ob b (.cells #[.func (.func gf) figf cagf] 161 (0, 0))]) (fun wx => S wx [Ob g4 (.cells #[.int .i64 (y.id), .bool y.intr, .bool y.chk, .int .i64 (y.frm), .int .i64 (y.to), .int .i64 (y.lt), .int .i64 (y.since), .bool y.snb, .bool y.now, .bool y.seed] 102 (0, 0)), Ob g1 (.cells #[.int .i64 (x.id), .bool x.intr, .bool x.chk, .int .i64 (x.frm), .int .i64 (x.to), .int .i64 (x.lt), .int .i64 (x.since), .bool x.snb, .bool x.now, .bool x.seed] 102 (0, 0)), Ob b (.cells #[.func (.func gf) figf cagf] 161 (0, 0))]) [] (by kernel_rfl) H6 (fun wq7 H8 => ?_)
 refine y_take (v := .func (.func gf) figf cagf) 0 rfl (wt0 rfl) rfl rfl rfl (by kernel_rfl) (by kernel_rfl) (by kernel_rfl) (by kernel_rfl) (by kernel_rfl) (H8.mask [true, true, true, false, false]) (fun wx H => x_load1 H 2 rfl rfl Tryz.underlying161 rfl rfl rfl) ?_
 refine y_take (v := .agg #[.int .i64 (x.id), .bool x.intr, .bool x.chk, .int .i64 (x.frm), .int .i64 (x.to), .int .i64 (x.lt), .int .i64 (x.since), .bool x.snb, .bool x.now, .bool x.seed]) 1 rfl (wt0 rfl) rfl rfl rfl (by kernel_rfl) (by kernel_rfl) (by kernel_rfl) (by kernel_rfl) (by kernel_rfl) (H8.mask [true, true, true, false, false]) (fun wx H => x_loadA H 1 rfl rfl Tryz.underlying102 rfl sz102 rfl rfl rfl) ?_
 refine y_take (v := .func (.func gf) figf cagf) 3 rfl (wt0 rfl) rfl rfl rfl (by kernel_rfl) (by kernel_rfl) (by kernel_rfl) (by kernel_rfl) (by kernel_rfl) (H8.mask [true, true, true, false, false]) (fun wx H => x_load1 H 2 rfl rfl Tryz.underlying161 rfl rfl rfl) ?_
 refine y_take (v := .agg #[.int .i64 (y.id), .bool y.intr, .bool y.chk, .int .i64 (y.frm), .int .i64 (y.to), .int .i64 (y.lt), .int .i64 (y.since), .bool y.snb, .bool y.now, .bool y.seed]) 4 rfl (wt0 rfl) rfl rfl rfl (by kernel_rfl) (by kernel_rfl) (by kernel_rfl) (by kernel_rfl) (by kernel_rfl) (H8.mask [true, true, true, false, false]) (fun wx H => x_loadA H 0 rfl rfl Tryz.underlying102 rfl sz102 rfl rfl rfl) ?_
 refine y_one (i := 2) (by kernel_rfl) rfl ?_
 refine s_call (wt0 rfl) (x_call rfl rfl rfl hf.ok) (hf.does x (hx) _ (H8.takes [3] (by decide))) ?_
 rintro _ wq9 ⟨rfl, H10⟩
 replace H10 : S wq9 [X, Ob g4 (.cells #[.int .i64 (y.id), .bool y.intr, .bool y.chk, .int .i64 (y.frm), .int .i64 (y.to), .int .i64 (y.lt), .int .i64 (y.since), .bool y.snb, .bool y.now, .bool y.seed] 102 (0, 0)), Ob g1 (.cells #[.int .i64 (x.id), .bool x.intr, .bool x.chk, .int .i64 (x.frm), .int .i64 (x.to), .int .i64 (x.lt), .int .i64 (x.since), .bool x.snb, .bool x.now, .bool x.seed] 102 (0, 0)), Ob b (.cells #[.func (.func gf) figf cagf] 161 (0, 0)), Old w (fps [Ob b (.cells #[.func (.func gf) figf cagf] 161 (0, 0)), X])] := H8.absorbI (new := [X]) [3] H10
 refine b_ret rfl rfl ?_
 refine y_k (H10.mask [false, true, true, true, false]) (H10.mask [false, true, true, true, false]) ?_
 refine y_one (i := 5) (by kernel_rfl) rfl ?_
 refine s_call (wt0 rfl) (x_call rfl rfl rfl hf.ok) (hf.does y (hy) _ (H10.takes [0] (by decide))) ?_
 rintro _ wq11 ⟨rfl, H12⟩
 replace H12 : S wq11 [X, Ob g4 (.cells #[.int .i64 (y.id), .bool y.intr, .bool y.chk, .int .i64 (y.frm), .int .i64 (y.to), .int .i64 (y.lt), .int .i64 (y.since), .bool y.snb, .bool y.now, .bool y.seed] 102 (0, 0)), Ob g1 (.cells #[.int .i64 (x.id), .bool x.intr, .bool x.chk, .int .i64 (x.frm), .int .i64 (x.to), .int .i64 (x.lt), .int .i64 (x.since), .bool x.snb, .bool x.now, .bool x.seed] 102 (0, 0)), Ob b (.cells #[.func (.func gf) figf cagf] 161 (0, 0)), Old w (fps [Ob b (.cells #[.func (.func gf) figf cagf] 161 (0, 0)), X])] := H10.absorbI (new := [X]) [0] H12
 refine b_ret rfl rfl ?_
 refine y_k (H12.mask [false, true, true, true, false]) (H12.mask [false, true, true, true, false]) ?_
 refine y_one (i := 6) (by kernel_rfl) rfl ?_
 refine s_call (wt0 rfl) (x_call' rfl rfl cl118) (compare_s (f x) (f y) _) ?_
 rintro _ wq13 ⟨rfl, H14⟩
 replace H14 : S wq13 [X, Ob g4 (.cells #[.int .i64 (y.id), .bool y.intr, .bool y.chk, .int .i64 (y.frm), .int .i64 (y.to), .int .i64 (y.lt), .int .i64 (y.since), .bool y.snb, .bool y.now, .bool y.seed] 102 (0, 0)), Ob g1 (.cells #[.int .i64 (x.id), .bool x.intr, .bool x.chk, .int .i64 (x.frm), .int .i64 (x.to), .int .i64 (x.lt), .int .i64 (x.since), .bool x.snb, .bool x.now, .bool x.seed] 102 (0, 0)), Ob b (.cells #[.func (.func gf) figf cagf] 161 (0, 0)), Old w (fps [Ob b (.cells #[.func (.func gf) figf cagf] 161 (0, 0)), X])] := H12.absorb (new := []) H14
 refine b_ret rfl rfl ?_
 refine y_k (H14.mask [false, true, true, true, false]) (H14.mask [false, true, true, true, false]) ?_
 refine y_pure (v := .int .i64 ((cmpSt (f x) (f y)))) 7 rfl (wt0 rfl) rfl rfl rfl (by kernel_rfl) (by kernel_rfl) (by kernel_rfl) (by kernel_rfl) (fun wx => x_assign rfl rfl) ?_
 refine y_done (by kernel_rfl) ?_
 refine g_then ?_
 refine g_weak [(5, .int .i64 ((cmpSt (f x) (f y))))] ⟨rfl, trivial⟩ ?_
 refine g_ret ?_
 refine fin_ret [.tmp 5] [.int .i64 ((cmpSt (f x) (f y)))] rfl ⟨rfl, trivial⟩ ?_
 exact ⟨rfl, H14.takes [3, 0, 4] (by decide)⟩
theorem opt1_f (b : Nat) (gf : Nat) (figf cagf : Array Value) (X : Item) (f : Rv → ByteArray) (D : Rv → Prop) (hf : FunC Tryz.prog gf figf cagf X (fun x : Rv => [x.v]) (fun x => .string (f x)) D) : FunC Tryz.prog 117 #[] #[.pointer (some ⟨b, 0, none⟩)] (Big [Ob b (.cells #[.func (.func gf) figf cagf] 161 (0, 0)), X]) (fun p : Rv × Rv => [p.1.v, p.2.v]) (fun p => .int .i64 (cmpSt (f p.1) (f p.2))) (fun p => D p.1 ∧ D p.2) :=
  FunC.ofBig (by kernel_rfl) fun z hb w HS => opt1_s b gf figf cagf X f D hf _ _ hb.1 hb.2 w HS
set_option maxRecDepth 20000 in
set_option maxHeartbeats 4000000 in
set_option maxRecDepth 20000 in
set_option maxHeartbeats 4000000 in
theorem drawn_s (round : Int) (seed : ByteArray)  (w : World) : Calls Tryz.prog 115 #[.int .i64 round, .string seed] w fun e w' => ∃ b1 b2, e = .returned (.func (.func 133) #[] #[.pointer (some ⟨b1, 0, none⟩), .pointer (some ⟨b2, 0, none⟩)]) ∧ S w' ([Ob b1 (.cells #[.string seed] 9 (0, 0)), Ob b2 (.cells #[.int .i64 round] 3 (0, 0))] ++ [Old w no]) := by
 have H0 := S.old w
 refine enter 6 Tryz.func115 rfl rfl rfl ?_
 refine g_weak [(0, .int .i64 round), (1, .string seed)] ⟨rfl, rfl, trivial⟩ ?_
 refine g_seq ?_
 refine g_region ?_
 refine l_of (s_box H0 (wt0 rfl) rfl rfl rfl rfl ?_)
 intro g1 wq2 H3
 refine l_of (s_box H3 (wt0 rfl) rfl rfl rfl rfl ?_)
 intro g4 wq5 H6
 refine l_of (s_val (v := .nilFunc) (wt0 rfl) rfl rfl (x_assign rfl rfl) ?_)
 refine g_nil ?_
 refine g_then ?_
 refine g_seq ?_
 refine g_region ?_
 refine l_of (s_val (v := .func (.func 133) #[] #[.pointer (some ⟨g4, 0, none⟩), .pointer (some ⟨g1, 0, none⟩)]) (wt0 rfl) rfl rfl (x_makeFunc rfl rfl rfl) ?_)
 refine l_of (s_val (v := .func (.func 133) #[] #[.pointer (some ⟨g4, 0, none⟩), .pointer (some ⟨g1, 0, none⟩)]) (wt0 rfl) rfl rfl (x_assign rfl rfl) ?_)
 refine g_nil ?_
 refine g_then ?_
 refine g_ret ?_
 refine fin_ret [.tmp 4] [.func (.func 133) #[] #[.pointer (some ⟨g4, 0, none⟩), .pointer (some ⟨g1, 0, none⟩)]] rfl ⟨rfl, trivial⟩ ?_
 exact ⟨_, _, rfl, H6.takes [0, 1, 2] (by decide)⟩
set_option maxRecDepth 20000 in
set_option maxHeartbeats 4000000 in
set_option maxRecDepth 20000 in
set_option maxHeartbeats 4000000 in
theorem values_s (q : Option Addr) (k d : Nat)  (w : World) : Calls Tryz.prog 116 #[.slice q k d] w fun e w' => ∃ b, e = .returned (.func (.func 135) #[] #[.pointer (some ⟨b, 0, none⟩)]) ∧ S w' ([Ob b (.cells #[.slice q k d] 98 (0, 0))] ++ [Old w no]) := by
 have H0 := S.old w
 refine enter 4 Tryz.func116 rfl rfl rfl ?_
 refine g_weak [(0, .slice q k d)] ⟨rfl, trivial⟩ ?_
 refine g_seq ?_
 refine g_region ?_
 refine l_of (s_box H0 (wt0 rfl) rfl rfl rfl rfl ?_)
 intro g1 wq2 H3
 refine l_of (s_val (v := .nilFunc) (wt0 rfl) rfl rfl (x_assign rfl rfl) ?_)
 refine g_nil ?_
 refine g_then ?_
 refine g_seq ?_
 refine g_region ?_
 refine l_of (s_val (v := .func (.func 135) #[] #[.pointer (some ⟨g1, 0, none⟩)]) (wt0 rfl) rfl rfl (x_makeFunc rfl rfl rfl) ?_)
 refine l_of (s_val (v := .func (.func 135) #[] #[.pointer (some ⟨g1, 0, none⟩)]) (wt0 rfl) rfl rfl (x_assign rfl rfl) ?_)
 refine g_nil ?_
 refine g_then ?_
 refine g_ret ?_
 refine fin_ret [.tmp 2] [.func (.func 135) #[] #[.pointer (some ⟨g1, 0, none⟩)]] rfl ⟨rfl, trivial⟩ ?_
 exact ⟨_, rfl, H3⟩
set_option maxRecDepth 20000 in
set_option maxHeartbeats 4000000 in
set_option maxRecDepth 20000 in
set_option maxHeartbeats 4000000 in
theorem values_it {n0 b : Nat} {l : List Rv} {p : Option Addr} {n c : Nat} {Y : Item} (hn9 : n ≤ 9223372036854775807) (hYr : ∀ w', S w' [Y] → Reads w' p n c 10 (fl rvL l)) :
  IterW n0 Tryz.prog 135 #[.pointer (some ⟨b, 0, none⟩)] encR (Big [Ob b (.cells #[.slice p n c] 98 (0, 0)), Y]) (fun pre x _ => l[pre.length]? = some x) (fun _ _ => True) (fun xs => xs = l) (fun _ => True) (Big []) := by
 intro l1 J Jx W C0 hOk hY h0 HS
 have H0 : S W [Ob b (.cells #[.slice p n c] 98 (0, 0)), Y, C0] := (HS.takes [0, 2] (by decide)).unbig
 have hnl := (hYr _ (H0.takes [1] (by decide))).lenL rvE
 refine enter_ci 16 Tryz.func135 rfl rfl rfl ?_
 have hL : ¬ LetsOut (bodyPost Tryz.prog Tryz.f135 fun e W' => (∃ v, e = .returned v) ∧ ((∃ xs CC, xs = l ∧ J xs CC ∧ S W' [Big [Ob b (.cells #[.slice p n c] 98 (0, 0)), Y], CC]) ∨ (∃ pre CC, True ∧ Jx pre CC ∧ S W' [Big [Ob b (.cells #[.slice p n c] 98 (0, 0)), Y], CC]))) := by
  rintro ⟨_, _, ⟨_, h⟩, _⟩
  cases h
 refine g_weak [(0, .func (.yield l1) #[] #[]), (1, .pointer (some ⟨b, 0, none⟩))] ⟨rfl, rfl, trivial⟩ ?_
 refine R.g_seq ?_
 refine R.g_region ?_
 refine R.l_of rfl (fun h => hL h) (s_val (v := .slice p n c) (wt0 rfl) rfl rfl (x_load1 H0 0 rfl rfl Tryz.underlying98 rfl rfl rfl) ?_)
 refine R.l_of rfl (fun h => hL h) (s_val (v := .int .i64 ((n : Int))) (wt0 rfl) rfl rfl (x_lenl rfl rfl Tryz.underlying98) ?_)
 refine R.l_of rfl (fun h => hL h) (s_val (v := .int .i64 0) (wt0 rfl) rfl rfl (x_move rfl rfl) ?_)
 refine R.g_nil ?_
 refine g_then ?_
 refine R.g_block ?_
 refine R.g_loop (ι := Nat × Item) (fun (i, C) => [(0, .func (.yield l1) #[] #[]), (5, .slice p n c), (6, .int .i64 ((n : Int))), (7, .int .i64 ((i : Int)))]) (fun (i, C) wx => (i ≤ n) ∧ (J (l.take i) C) ∧ S wx [Ob b (.cells #[.slice p n c] 98 (0, 0)), Y, C]) (fun (i, C) => n - i) (0, C0) ⟨rfl, rfl, rfl, rfl, trivial⟩ ⟨Nat.zero_le _, (by rw [List.take_zero]; exact h0), (H0.takes [0, 1, 2] (by decide))⟩ ?_
 rintro ⟨i, C⟩ wq1 ⟨hi, hJ, H2⟩
 refine g_weak [(0, .func (.yield l1) #[] #[]), (5, .slice p n c), (6, .int .i64 ((n : Int))), (7, .int .i64 ((i : Int)))] ⟨rfl, rfl, rfl, rfl, trivial⟩ ?_
 refine R.g_seq ?_
 refine R.g_region ?_
 refine R.l_of rfl (fun h => hL h) (s_val (v := .bool (decide (((i : Int) : Int) < (n : Int)))) (wt0 rfl) rfl rfl (x_bin rfl rfl rfl b_lss) ?_)
 refine R.g_nil ?_
 refine g_then ?_
 refine R.g_seq ?_
 by_cases hb3 : ((i : Int) : Int) < (n : Int)
 ·
  refine R.g_cond_t rfl (decide_eq_true hb3) ?_
  refine R.g_skip ?_
  refine g_then ?_
  refine R.g_seq ?_
  refine R.g_block ?_
  refine R.g_seq ?_
  refine R.g_region ?_
  refine R.l_of rfl (fun h => hL h) (s_val (v := .pointer ((p).map fun q => q.add (i * 10))) (wt0 rfl) rfl rfl (x_idxR i ((hYr _ (H2.takes [1] (by decide)))) rfl rfl rfl Tryz.underlying98 sz102 (by omega)) ?_)
  have hlq := ((hYr _ (H2.takes [1] (by decide)))).lenL rvE
  obtain ⟨x4, hx4⟩ := ex_at (l := l) (j := i) (by omega)
  clear hlq
  refine R.l_of rfl (fun h => hL h) (s_val (v := .agg #[.int .i64 (x4.id), .bool x4.intr, .bool x4.chk, .int .i64 (x4.frm), .int .i64 (x4.to), .int .i64 (x4.lt), .int .i64 (x4.since), .bool x4.snb, .bool x4.now, .bool x4.seed]) (wt0 rfl) rfl rfl (x_loadRA (vs := rvL x4) i ((hYr _ (H2.takes [1] (by decide)))) (by omega) rfl rfl Tryz.underlying102 rfl sz102 (by rfl) (rvE.flAt hx4)) ?_)
  refine R.l_of rfl (fun h => hL h) (s_alloc H2 (wt0 rfl) rfl rfl rfl ze102 ?_)
  intro g5 wq6 H7
  refine R.l_of rfl (fun h => hL h) (s_store H7 0 (wt0 rfl) rfl rfl rfl rfl rfl sz102 rfl rfl (cs' := #[.int .i64 (x4.id), .bool x4.intr, .bool x4.chk, .int .i64 (x4.frm), .int .i64 (x4.to), .int .i64 (x4.lt), .int .i64 (x4.since), .bool x4.snb, .bool x4.now, .bool x4.seed]) rfl ?_)
  intro wq8 H9
  refine R.g_nil ?_
  refine g_then ?_
  refine R.g_seq ?_
  refine R.g_region ?_
  refine R.l_of rfl (fun h => hL h) (s_val (v := .func (.yield l1) #[] #[]) (wt0 rfl) rfl rfl (x_move rfl rfl) ?_)
  refine R.l_of rfl (fun h => hL h) (s_val (v := .agg #[.int .i64 (x4.id), .bool x4.intr, .bool x4.chk, .int .i64 (x4.frm), .int .i64 (x4.to), .int .i64 (x4.lt), .int .i64 (x4.since), .bool x4.snb, .bool x4.now, .bool x4.seed]) (wt0 rfl) rfl rfl (x_loadA H9 0 rfl rfl Tryz.underlying102 rfl sz102 rfl rfl rfl) ?_)
  have H10 : S wq8 [Big [Ob b (.cells #[.slice p n c] 98 (0, 0)), Y], Big [], C] := S.noI (S.big (L := [_, _]) (H9.takes [1, 2, 3] (by decide)))
  refine l_yield (wt0 rfl) rfl rfl rfl rfl rfl (hY (l.take i) x4 wq8 _ C hJ (by show l[(l.take i).length]? = _; rw [List.length_take, Nat.min_eq_left (by omega)]; exact hx4) H10) ?_
  rintro _ wq11 (⟨rfl, C9, hJ9, hS2⟩ | ⟨rfl, C9, hJx, hS2⟩)
  ·
   refine ⟨_, rfl, ?_⟩
   have H12 : S wq11 [Ob b (.cells #[.slice p n c] 98 (0, 0)), Y, C9] := S.unbig (hS2.takes [0, 2] (by decide))
   refine R.l_of rfl (fun h => hL h) (s_val (v := .bool false) (wt0 rfl) rfl rfl (x_not (b := true) rfl rfl) ?_)
   refine R.g_nil ?_
   refine g_then ?_
   refine R.g_cond_f rfl rfl ?_
   refine R.g_skip ?_
   refine g_in ?_
   refine g_then ?_
   refine R.g_region ?_
   refine R.l_of rfl (fun h => hL h) (s_val (v := .int .i64 (((i + 1 : Nat) : Int))) (wt0 rfl) rfl rfl (x_bin rfl rfl rfl (b_add (by rw [w64 (by omega)]; omega))) ?_)
   refine R.l_of rfl (fun h => hL h) (s_val (v := .int .i64 (((i + 1 : Nat) : Int))) (wt0 rfl) rfl rfl (x_move rfl rfl) ?_)
   refine R.g_nil ?_
   refine g_then ?_
   refine g_round (i := (i, C)) ((i + 1), C9) ?_ ?_ ?_
   · exact ⟨rfl, rfl, rfl, rfl, trivial⟩
   · exact ⟨by omega, (by rw [take_snocL hx4]; exact hJ9), (H12.takes [0, 1, 2] (by decide))⟩
   · (try dsimp only); omega
  ·
   refine ⟨_, rfl, ?_⟩
   have H13 : S wq11 [Ob b (.cells #[.slice p n c] 98 (0, 0)), Y, C9] := S.unbig (hS2.takes [0, 2] (by decide))
   refine R.l_of rfl (fun h => hL h) (s_val (v := .bool true) (wt0 rfl) rfl rfl (x_not (b := false) rfl rfl) ?_)
   refine R.g_nil ?_
   refine g_then ?_
   refine R.g_cond_t rfl rfl ?_
   refine R.g_ret ?_
   refine g_in_ret ?_
   refine g_then_ret ?_
   refine g_then_ret ?_
   refine g_in_ret ?_
   refine fin_ret [] [] rfl trivial ?_
   exact ⟨⟨_, rfl⟩, .inr ⟨_, _, trivial, hJx, (S.big (L := [_, _]) (H13.takes [0, 1, 2] (by decide)))⟩⟩
 ·
  refine R.g_cond_f rfl (decide_eq_false hb3) ?_
  refine R.g_exit ?_
  refine g_then_exit ?_
  refine g_then_exit ?_
  refine g_in_hit ?_
  refine fin_end [] [] rfl trivial ?_
  rw [List.take_of_length_le (by omega)] at hJ
  exact ⟨⟨_, rfl⟩, .inl ⟨_, _, rfl, hJ, (S.big (L := [_, _]) (H2.takes [0, 1, 2] (by decide)))⟩⟩
set_option maxRecDepth 20000 in
set_option maxHeartbeats 4000000 in
set_option maxRecDepth 20000 in
set_option maxHeartbeats 4000000 in
theorem optimistic_s (seed : ByteArray) (round : Int) (hsd : seed.size ≤ 200) (hrd : 0 ≤ round ∧ round ≤ 200) (l : List Rv) (p : Option Addr) (n c : Nat) (hn2 : n ≤ 20) (hval : ∀ x ∈ l, validR x = true)  (w : World) (hr : Reads w p n c 10 (fl rvL l)) (ht : PowTab w) : Calls Tryz.prog 96 #[.int .i64 round, .string seed, .slice p n c] w fun e w' => ∃ b p' c', e = .returned (.func (.func 135) #[] #[.pointer (some ⟨b, 0, none⟩)]) ∧ S w' ([Ob b (.cells #[.slice p' (optL round seed l).length c'] 98 (0, 0)), Rw 102 10 p' (optL round seed l).length c' (fl rvL (optL round seed l))] ++ [Old w no]) := by
 have H0 := S.old w
 have hnl := hr.lenL rvE
 refine enter 15 Tryz.func96 rfl rfl rfl ?_
 refine g_weak [(0, .int .i64 round), (1, .string seed), (2, .slice p n c)] ⟨rfl, rfl, rfl, trivial⟩ ?_
 refine g_seq ?_
 refine g_region ?_
 refine l_of (s_val (v := .nilFunc) (wt0 rfl) rfl rfl (x_assign rfl rfl) ?_)
 refine g_nil ?_
 refine g_then ?_
 refine g_seq ?_
 refine g_region ?_
 refine l_of (s_val (v := .int .i64 round) (wt0 rfl) rfl rfl (x_move rfl rfl) ?_)
 refine l_of (s_val (v := .string seed) (wt0 rfl) rfl rfl (x_move rfl rfl) ?_)
 refine l_of (s_call (wt0 rfl) (x_call' rfl rfl cl115) (drawn_s round seed _) ?_)
 rintro _ wq1 ⟨bs, br, rfl, H2⟩
 replace H2 : S wq1 [Ob bs (.cells #[.string seed] 9 (0, 0)), Ob br (.cells #[.int .i64 round] 3 (0, 0)), Old w no] := by have h := H0.absorb H2; exact h
 refine b_ret rfl rfl ?_
 refine l_of (s_alloc H2 (wt0 rfl) rfl rfl rfl ze161 ?_)
 intro g3 wq4 H5
 refine l_of (s_store H5 0 (wt0 rfl) rfl rfl rfl rfl rfl sz161 rfl rfl (cs' := #[.func (.func 133) #[] #[.pointer (some ⟨bs, 0, none⟩), .pointer (some ⟨br, 0, none⟩)]]) rfl ?_)
 intro wq6 H7
 refine g_nil ?_
 refine g_then ?_
 refine g_seq ?_
 refine g_region ?_
 refine l_of (s_val (v := .slice p n c) (wt0 rfl) rfl rfl (x_move rfl rfl) ?_)
 refine l_of (s_val (v := .func (.func 117) #[] #[.pointer (some ⟨g3, 0, none⟩)]) (wt0 rfl) rfl rfl (x_makeFunc rfl rfl rfl) ?_)
 have H8 : S wq6 [(Big [Ob bs (.cells #[.string seed] 9 (0, 0)), Ob br (.cells #[.int .i64 round] 3 (0, 0)), Old w no]), Ob g3 (.cells #[.func (.func 133) #[] #[.pointer (some ⟨bs, 0, none⟩), .pointer (some ⟨br, 0, none⟩)]] 161 (0, 0))] := S.big (L := [Ob bs (.cells #[.string seed] 9 (0, 0)), Ob br (.cells #[.int .i64 round] 3 (0, 0)), Old w no]) (H7.takes [1, 2, 3, 0] (by decide))
 have H9 : S wq6 [(Big [Ob g3 (.cells #[.func (.func 133) #[] #[.pointer (some ⟨bs, 0, none⟩), .pointer (some ⟨br, 0, none⟩)]] 161 (0, 0)), (Big [Ob bs (.cells #[.string seed] 9 (0, 0)), Ob br (.cells #[.int .i64 round] 3 (0, 0)), Old w no])])] := S.big (L := [Ob g3 (.cells #[.func (.func 133) #[] #[.pointer (some ⟨bs, 0, none⟩), .pointer (some ⟨br, 0, none⟩)]] 161 (0, 0)), (Big [Ob bs (.cells #[.string seed] 9 (0, 0)), Ob br (.cells #[.int .i64 round] 3 (0, 0)), Old w no])]) (H8.takes [1, 0] (by decide))
 have H10 : S wq6 [(Big []), (Big [Ob g3 (.cells #[.func (.func 133) #[] #[.pointer (some ⟨bs, 0, none⟩), .pointer (some ⟨br, 0, none⟩)]] 161 (0, 0)), (Big [Ob bs (.cells #[.string seed] 9 (0, 0)), Ob br (.cells #[.int .i64 round] 3 (0, 0)), Old w no])])] := H9.addNil
 refine l_of (s_call (wt0 rfl) (x_call' rfl rfl cl62) (which_s l p n c (by omega) 64 #[] #[] (Big []) qW (fun _ => True) (wants_f _) 117 #[] #[.pointer (some ⟨g3, 0, none⟩)] (Big [Ob g3 (.cells #[.func (.func 133) #[] #[.pointer (some ⟨bs, 0, none⟩), .pointer (some ⟨br, 0, none⟩)]] 161 (0, 0)), (Big [Ob bs (.cells #[.string seed] 9 (0, 0)), Ob br (.cells #[.int .i64 round] 3 (0, 0)), Old w no])]) (cO round seed) DV (opt1_f g3 133 #[] #[.pointer (some ⟨bs, 0, none⟩), .pointer (some ⟨br, 0, none⟩)] (Big [Ob bs (.cells #[.string seed] 9 (0, 0)), Ob br (.cells #[.int .i64 round] 3 (0, 0)), Old w no]) (luckS round seed) DV (drawn1_f bs br w ht seed round hsd hrd)) (fun _ _ => trivial) (fun x hx => validR_D (hval x hx)) _ (H10.takes [0, 1] (by decide)) (fun w9 h9 => (S.unbig ((S.unbig (h9.takes [1] (by decide))).takes [1] (by decide))).exReads (k := 2) rfl hr (fun _ _ _ h => h))) ?_)
 rintro _ wq11 ⟨pw, cw, rfl, H12⟩
 replace H12 : S wq11 [Rw 102 10 pw ((srt Rv.zero (cO round seed) (l.filter qW)).length) cw (fl rvL (srt Rv.zero (cO round seed) (l.filter qW))), (Big []), (Big [Ob g3 (.cells #[.func (.func 133) #[] #[.pointer (some ⟨bs, 0, none⟩), .pointer (some ⟨br, 0, none⟩)]] 161 (0, 0)), (Big [Ob bs (.cells #[.string seed] 9 (0, 0)), Ob br (.cells #[.int .i64 round] 3 (0, 0)), Old w no])])] := H10.absorbI (new := [Rw 102 10 pw ((srt Rv.zero (cO round seed) (l.filter qW)).length) cw (fl rvL (srt Rv.zero (cO round seed) (l.filter qW))), (Big []), (Big [Ob g3 (.cells #[.func (.func 133) #[] #[.pointer (some ⟨bs, 0, none⟩), .pointer (some ⟨br, 0, none⟩)]] 161 (0, 0)), (Big [Ob bs (.cells #[.string seed] 9 (0, 0)), Ob br (.cells #[.int .i64 round] 3 (0, 0)), Old w no])])]) [0, 1] H12
 have H13 : S wq11 [Ob g3 (.cells #[.func (.func 133) #[] #[.pointer (some ⟨bs, 0, none⟩), .pointer (some ⟨br, 0, none⟩)]] 161 (0, 0)), (Big [Ob bs (.cells #[.string seed] 9 (0, 0)), Ob br (.cells #[.int .i64 round] 3 (0, 0)), Old w no]), Rw 102 10 pw ((srt Rv.zero (cO round seed) (l.filter qW)).length) cw (fl rvL (srt Rv.zero (cO round seed) (l.filter qW))), (Big [])] := S.unbig (H12.takes [2, 0, 1] (by decide))
 have H14 : S wq11 [Ob bs (.cells #[.string seed] 9 (0, 0)), Ob br (.cells #[.int .i64 round] 3 (0, 0)), Old w no, Ob g3 (.cells #[.func (.func 133) #[] #[.pointer (some ⟨bs, 0, none⟩), .pointer (some ⟨br, 0, none⟩)]] 161 (0, 0)), Rw 102 10 pw ((srt Rv.zero (cO round seed) (l.filter qW)).length) cw (fl rvL (srt Rv.zero (cO round seed) (l.filter qW))), (Big [])] := S.unbig (H13.takes [1, 0, 2, 3] (by decide))
 refine b_ret rfl rfl ?_
 refine l_of (s_call (wt0 rfl) (x_call' rfl rfl cl116) (values_s pw ((srt Rv.zero (cO round seed) (l.filter qW)).length) cw _) ?_)
 rintro _ wq16 ⟨bv15, rfl, H17⟩
 replace H17 : S wq16 [Ob bv15 (.cells #[.slice pw ((srt Rv.zero (cO round seed) (l.filter qW)).length) cw] 98 (0, 0)), Ob bs (.cells #[.string seed] 9 (0, 0)), Ob br (.cells #[.int .i64 round] 3 (0, 0)), Old w no, Ob g3 (.cells #[.func (.func 133) #[] #[.pointer (some ⟨bs, 0, none⟩), .pointer (some ⟨br, 0, none⟩)]] 161 (0, 0)), Rw 102 10 pw ((srt Rv.zero (cO round seed) (l.filter qW)).length) cw (fl rvL (srt Rv.zero (cO round seed) (l.filter qW))), (Big [])] := by have h := H14.absorb H17; exact h
 refine b_ret rfl rfl ?_
 refine l_of (s_val (v := .func (.func 135) #[] #[.pointer (some ⟨bv15, 0, none⟩)]) (wt0 rfl) rfl rfl (x_assign rfl rfl) ?_)
 refine g_nil ?_
 refine g_then ?_
 refine g_ret ?_
 refine fin_ret [.tmp 6] [.func (.func 135) #[] #[.pointer (some ⟨bv15, 0, none⟩)]] rfl ⟨rfl, trivial⟩ ?_
 exact ⟨_, _, _, rfl, H17.takes [0, 5, 3] (by decide)⟩
end Go.Proofs.YtpbjekdjebjbkaaGreat
namespace Go.Proofs.YtpbjekdjebjbkaaGreat
open Go.RowKit

theorem cl96 : callable Tryz.prog 96 = true := by kernel_rfl
theorem cl97 : callable Tryz.prog 97 = true := by kernel_rfl
theorem fo114_0 : foO Tryz.prog 114 0 = some 0 := by kernel_rfl
theorem fo114_2 : foO Tryz.prog 114 2 = some 2 := by kernel_rfl
theorem sz98 : szO Tryz.prog 98 = some 1 := by kernel_rfl
def fillT (slots : Int) (L : List Rv) (x : Rv) : List Rv := if ((L.length : Int) < slots ∧ x.id ∉ L.map Rv.id) then L ++ [x] else L
/-- Those who have places, with such of a list in those that are left. -/
def fillL (slots : Int) (lt : List Rv) (l : List Rv) : List Rv := l.foldl (fillT slots) lt
theorem fill_snoc (slots : Int) (lt l : List Rv) (x : Rv) : fillL slots lt (l ++ [x]) = fillT slots (fillL slots lt l) x := by unfold fillL; rw [List.foldl_append]; rfl
theorem fill_len (slots : Int) (lt : List Rv) : ∀ l : List Rv, (fillL slots lt l).length ≤ lt.length + l.length := fun l => by
  induction l generalizing lt with
  | nil => exact Nat.le_refl _
  | cons x l ih =>
    have h := ih (fillT slots lt x)
    have h2 : (fillT slots lt x).length ≤ lt.length + 1 := by unfold fillT; split <;> simp
    have e : fillL slots lt (x :: l) = fillL slots (fillT slots lt x) l := rfl
    rw [e, List.length_cons]; omega
def TabA (w : World) (X : Item) : Prop := ∀ w', S w' [X, Old w (fps [X])] → PowTab w'
theorem S.tabA {w w0 : World} {L : List Item} {i k : Nat} {X : Item} (h : S w L) (hi : L[i]? = some (Old w0 no)) (hk : L[k]? = some X) (hne : i ≠ k) (ht : PowTab w0) : TabA w X := fun w' h' => trivial
set_option maxRecDepth 20000 in
set_option maxHeartbeats 4000000 in
set_option maxRecDepth 20000 in
set_option maxHeartbeats 4000000 in
theorem filled_s (round slots : Int) (seed : ByteArray) (hsd : seed.size ≤ 200) (hrd : 0 ≤ round ∧ round ≤ 200) (l : List Rv) (p : Option Addr) (n c : Nat) (hn2 : n ≤ 20) (hval : ∀ x ∈ l, validR x = true) (lt : List Rv) (p0 : Option Addr) (c0 : Nat) (hlt : lt.length ≤ 1000)  (w : World) (HS : S w [Rw 102 10 p0 lt.length c0 (fl rvL lt)]) (hap : Apart w (Rw 102 10 p0 lt.length c0 (fl rvL lt)) p n c 10 (fl rvL l)) (hta : TabA w (Rw 102 10 p0 lt.length c0 (fl rvL lt))) : Calls Tryz.prog 73 #[.agg #[.int .i64 round, .int .i64 slots, .string seed, .slice p n c], .slice p0 lt.length c0] w fun e w' => ∃ p' c', e = .returned (.slice p' (fillL slots lt (optL round seed l)).length c') ∧ S w' ([Rw 102 10 p' (fillL slots lt (optL round seed l)).length c' (fl rvL (fillL slots lt (optL round seed l)))] ++ [Old w (fps [Rw 102 10 p0 lt.length c0 (fl rvL lt)])]) := by
 have H0 := HS.beginI
 have hnl := (hap _ H0).lenL rvE
 have hol := optL_len round seed l
 refine enter_m 30 Tryz.func73 rfl rfl rfl ?_
 have hL : ¬ LetsOut (bodyPostM (WF none) 9 Tryz.prog Tryz.f73 fun e w' => ∃ p' c', e = .returned (.slice p' (fillL slots lt (optL round seed l)).length c') ∧ S w' ([Rw 102 10 p' (fillL slots lt (optL round seed l)).length c' (fl rvL (fillL slots lt (optL round seed l)))] ++ [Old w (fps [Rw 102 10 p0 lt.length c0 (fl rvL lt)])])) := by
  rintro ⟨_, _, h⟩
  simp only [bodyPostM, reduceCtorEq, false_and, and_false, exists_false, or_false, or_self, exists_const] at h
 refine g_weak [(0, .agg #[.int .i64 round, .int .i64 slots, .string seed, .slice p n c]), (1, .slice p0 lt.length c0)] ⟨rfl, rfl, trivial⟩ ?_
 refine R.g_seq ?_
 refine R.g_region ?_
 refine R.l_of rfl (fun h => hL h) (s_box H0 (wt0 rfl) rfl rfl rfl rfl ?_)
 intro g1 wq2 H3
 refine R.l_of rfl (fun h => hL h) (s_box H3 (wt0 rfl) rfl rfl rfl rfl ?_)
 intro g4 wq5 H6
 refine R.l_of rfl (fun h => hL h) (s_val (v := .slice none 0 0) (wt0 rfl) rfl rfl (x_assign rfl rfl) ?_)
 refine R.g_nil ?_
 refine g_then ?_
 refine R.g_seq ?_
 refine R.g_seq ?_
 refine R.g_region ?_
 refine R.l_of rfl (fun h => hL h) (s_val (v := .pointer (some ⟨g1, 0, none⟩)) (wt0 rfl) rfl rfl (x_fieldAddr rfl rfl fo114_0 rfl) ?_)
 refine R.l_of rfl (fun h => hL h) (s_val (v := .int .i64 round) (wt0 rfl) rfl rfl (x_load1 H6 1 rfl rfl Tryz.underlying3 rfl rfl rfl) ?_)
 refine R.l_of rfl (fun h => hL h) (s_val (v := .pointer (some ⟨g1, 2, none⟩)) (wt0 rfl) rfl rfl (x_fieldAddr rfl rfl fo114_2 rfl) ?_)
 refine R.l_of rfl (fun h => hL h) (s_val (v := .string seed) (wt0 rfl) rfl rfl (x_load1 H6 1 rfl rfl Tryz.underlying9 rfl rfl rfl) ?_)
 refine R.l_of rfl (fun h => hL h) (s_val (v := .pointer (some ⟨g1, 3, none⟩)) (wt0 rfl) rfl rfl (x_fieldAddr rfl rfl fo114_3 rfl) ?_)
 refine R.l_of rfl (fun h => hL h) (s_val (v := .slice p n c) (wt0 rfl) rfl rfl (x_load1 H6 1 rfl rfl Tryz.underlying98 rfl rfl rfl) ?_)
 refine R.l_of rfl (fun h => hL h) (s_call (wt0 rfl) (x_call' rfl rfl cl96) (optimistic_s seed round hsd hrd l p n c (by omega) hval _ ((hap _ (H6.takes [2, 3] (by decide)))) (hta _ (H6.takes [2, 3] (by decide)))) ?_)
 rintro _ wq10 ⟨bo7, po8, co9, rfl, H11⟩
 replace H11 : S wq10 [Ob bo7 (.cells #[.slice po8 ((optL round seed l).length) co9] 98 (0, 0)), Rw 102 10 po8 ((optL round seed l).length) co9 (fl rvL (optL round seed l)), Ob g4 (.cells #[.slice p0 lt.length c0] 98 (0, 0)), Ob g1 (.cells #[.int .i64 round, .int .i64 slots, .string seed, .slice p n c] 114 (0, 0)), Rw 102 10 p0 lt.length c0 (fl rvL lt), Old w (fps [Rw 102 10 p0 lt.length c0 (fl rvL lt)])] := by have h := H6.absorb H11; exact h
 refine b_ret rfl rfl ?_
 refine R.g_nil ?_
 refine g_then ?_
 refine R.g_block ?_
 have H12 : S wq10 [(Big [Ob bo7 (.cells #[.slice po8 ((optL round seed l).length) co9] 98 (0, 0)), Rw 102 10 po8 ((optL round seed l).length) co9 (fl rvL (optL round seed l))]), Ob g4 (.cells #[.slice p0 lt.length c0] 98 (0, 0)), Ob g1 (.cells #[.int .i64 round, .int .i64 slots, .string seed, .slice p n c] 114 (0, 0)), Rw 102 10 p0 lt.length c0 (fl rvL lt), Old w (fps [Rw 102 10 p0 lt.length c0 (fl rvL lt)])] := S.big (L := [Ob bo7 (.cells #[.slice po8 ((optL round seed l).length) co9] 98 (0, 0)), Rw 102 10 po8 ((optL round seed l).length) co9 (fl rvL (optL round seed l))]) (H11.takes [0, 1, 2, 3, 4, 5] (by decide))
 have H13 : S wq10 [(Big [Ob bo7 (.cells #[.slice po8 ((optL round seed l).length) co9] 98 (0, 0)), Rw 102 10 po8 ((optL round seed l).length) co9 (fl rvL (optL round seed l))]), Ob g4 (.cells #[.slice p0 ((fillL slots lt []).length) c0] 98 (0, 0)), Rw 102 10 p0 ((fillL slots lt []).length) c0 (fl rvL (fillL slots lt [])), Ob g1 (.cells #[.int .i64 round, .int .i64 slots, .string seed, .slice p n c] 114 (0, 0)), Old w (fps [Rw 102 10 p0 lt.length c0 (fl rvL lt)])] := H12.takes [0, 1, 3, 2, 4] (by decide)
 have H14 := S.noI (H13.takes [0, 1, 2, 3, 4] (by decide))
 refine g_rangeW (α := Rv) (ι := Nat) (encs := encR) (base := (Big [Ob bo7 (.cells #[.slice po8 ((optL round seed l).length) co9] 98 (0, 0)), Rw 102 10 po8 ((optL round seed l).length) co9 (fl rvL (optL round seed l))])) (by omega) rfl (by kernel_rfl) (values_it (b := bo7) (l := (optL round seed l)) (p := po8) (n := (optL round seed l).length) (c := co9) (Y := Rw 102 10 po8 ((optL round seed l).length) co9 (fl rvL (optL round seed l))) (by omega) (fun w9 h9 => h9.rwReads (k := 0) rfl)) (fun _ => rfl) rfl (fun pre Lx => ∃ (pj : Option Addr), ∃ (cj : Nat), (True) ∧ Lx = [Ob g4 (.cells #[.slice pj ((fillL slots lt pre).length) cj] 98 (0, 0)), Rw 102 10 pj ((fillL slots lt pre).length) cj (fl rvL (fillL slots lt pre)), Ob g1 (.cells #[.int .i64 round, .int .i64 slots, .string seed, .slice p n c] 114 (0, 0)), Old w (fps [Rw 102 10 p0 lt.length c0 (fl rvL lt)])]) (fun pre Lx => False) (fun p ia => [(2, .pointer (some ⟨g1, 0, none⟩)), (3, .pointer (some ⟨g4, 0, none⟩)), (5, .pointer (some ⟨ia, 0, none⟩))]) (fun p ia => [Ob ia (.cells #[.int .i64 (p.id), .bool p.intr, .bool p.chk, .int .i64 (p.frm), .int .i64 (p.to), .int .i64 (p.lt), .int .i64 (p.since), .bool p.snb, .bool p.now, .bool p.seed] 102 (0, 0))]) (fun _ _ _ _ _ => trivial) ⟨p0, c0, trivial, rfl⟩ H14 ?_ ?_ ?_ ?_
 ·
  rintro l1 p Ly W15 H16
  have hL : ¬ LetsOut (fun (_ : Exit) (_ : Act) (_ : World) => False) := fun ⟨_, _, h⟩ => h
  refine g_weak [(2, .pointer (some ⟨g1, 0, none⟩)), (3, .pointer (some ⟨g4, 0, none⟩)), (13, .agg #[.int .i64 (p.id), .bool p.intr, .bool p.chk, .int .i64 (p.frm), .int .i64 (p.to), .int .i64 (p.lt), .int .i64 (p.since), .bool p.snb, .bool p.now, .bool p.seed])] ⟨rfl, rfl, rfl, trivial⟩ ?_
  refine R.g_region ?_
  refine R.l_of rfl (fun h => hL h) (s_alloc H16 (wt0 rfl) rfl rfl rfl ze102 ?_)
  intro g17 wq18 H19
  refine R.l_of rfl (fun h => hL h) (s_store H19 0 (wt0 rfl) rfl rfl rfl rfl rfl sz102 rfl rfl (cs' := #[.int .i64 (p.id), .bool p.intr, .bool p.chk, .int .i64 (p.frm), .int .i64 (p.to), .int .i64 (p.lt), .int .i64 (p.since), .bool p.snb, .bool p.now, .bool p.seed]) rfl ?_)
  intro wq20 H21
  refine R.g_nil ?_
  refine g_then ?_
  exact rw_assign g17 ⟨rfl, rfl, rfl, trivial⟩ H21
 ·
  rintro l1 pr x ia II Kx _ W22 ⟨pj, cj, hJ, rfl⟩ hphi H23
  have H24 := S.unbig (H23.takes [3, 0, 1, 2, 4, 5, 6, 7] (by decide))
  refine g_weak [(2, .pointer (some ⟨g1, 0, none⟩)), (3, .pointer (some ⟨g4, 0, none⟩)), (5, .pointer (some ⟨ia, 0, none⟩))] ⟨rfl, rfl, rfl, trivial⟩ ?_
  have hfl := fill_len slots lt pr
  have hpl := (List.getElem?_eq_some_iff.1 hphi).1
  refine R.g_block ?_
  refine R.g_seq ?_
  refine R.g_region ?_
  refine R.l_of rfl (fun ⟨_, _, h⟩ => h) (s_val (v := .slice pj ((fillL slots lt pr).length) cj) (wt0 rfl) rfl rfl (x_load1 H24 4 rfl rfl Tryz.underlying98 rfl rfl rfl) ?_)
  refine R.l_of rfl (fun ⟨_, _, h⟩ => h) (s_val (v := .int .i64 (((fillL slots lt pr).length : Int))) (wt0 rfl) rfl rfl (x_lenl rfl rfl Tryz.underlying98) ?_)
  refine R.l_of rfl (fun ⟨_, _, h⟩ => h) (s_val (v := .pointer (some ⟨g1, 1, none⟩)) (wt0 rfl) rfl rfl (x_fieldAddr rfl rfl fo114_1 rfl) ?_)
  refine R.l_of rfl (fun ⟨_, _, h⟩ => h) (s_val (v := .int .i64 slots) (wt0 rfl) rfl rfl (x_load1 H24 6 rfl rfl Tryz.underlying3 rfl rfl rfl) ?_)
  refine R.l_of rfl (fun ⟨_, _, h⟩ => h) (s_val (v := .bool (decide ((((fillL slots lt pr).length : Int) : Int) < slots))) (wt0 rfl) rfl rfl (x_bin rfl rfl rfl b_lss) ?_)
  refine R.l_of rfl (fun ⟨_, _, h⟩ => h) (s_val (v := .bool (decide ((((fillL slots lt pr).length : Int) : Int) < slots))) (wt0 rfl) rfl rfl (x_move rfl rfl) ?_)
  by_cases hb25 : (((fillL slots lt pr).length : Int) : Int) < slots
  ·
   refine R.l_of rfl (fun ⟨_, _, h⟩ => h) (s_val (v := .slice pj ((fillL slots lt pr).length) cj) (wt1 rfl rfl rfl rfl (decide_eq_true hb25)) rfl rfl (x_load1 H24 4 rfl rfl Tryz.underlying98 rfl rfl rfl) ?_)
   refine R.l_of rfl (fun ⟨_, _, h⟩ => h) (s_val (v := .agg #[.int .i64 (x.id), .bool x.intr, .bool x.chk, .int .i64 (x.frm), .int .i64 (x.to), .int .i64 (x.lt), .int .i64 (x.since), .bool x.snb, .bool x.now, .bool x.seed]) (wt1 rfl rfl rfl rfl (decide_eq_true hb25)) rfl rfl (x_loadA H24 0 rfl rfl Tryz.underlying102 rfl sz102 rfl rfl rfl) ?_)
   refine R.l_of rfl (fun ⟨_, _, h⟩ => h) (s_call (wt1 rfl rfl rfl rfl (decide_eq_true hb25)) (x_call' rfl rfl cl97) (has_s (fillL slots lt pr) pj ((fillL slots lt pr).length) cj (by omega) x _ (H24.rwReads (k := 5) rfl)) ?_)
   rintro _ wq26 ⟨rfl, H27⟩
   replace H27 : S wq26 [Ob ia (.cells #[.int .i64 (x.id), .bool x.intr, .bool x.chk, .int .i64 (x.frm), .int .i64 (x.to), .int .i64 (x.lt), .int .i64 (x.since), .bool x.snb, .bool x.now, .bool x.seed] 102 (0, 0)), (Big [Ob bo7 (.cells #[.slice po8 ((optL round seed l).length) co9] 98 (0, 0)), Rw 102 10 po8 ((optL round seed l).length) co9 (fl rvL (optL round seed l))]), II, Kx, Ob g4 (.cells #[.slice pj ((fillL slots lt pr).length) cj] 98 (0, 0)), Rw 102 10 pj ((fillL slots lt pr).length) cj (fl rvL (fillL slots lt pr)), Ob g1 (.cells #[.int .i64 round, .int .i64 slots, .string seed, .slice p n c] 114 (0, 0)), Old w (fps [Rw 102 10 p0 lt.length c0 (fl rvL lt)])] := H24.absorb (new := []) H27
   refine b_ret rfl rfl ?_
   refine R.l_of rfl (fun ⟨_, _, h⟩ => h) (s_val (v := .bool (!((decide (x.id ∈ (fillL slots lt pr).map Rv.id))))) (wt1 rfl rfl rfl rfl (decide_eq_true hb25)) rfl rfl (x_not (b := (decide (x.id ∈ (fillL slots lt pr).map Rv.id))) rfl rfl) ?_)
   refine R.l_of rfl (fun ⟨_, _, h⟩ => h) (s_val (v := .bool (!((decide (x.id ∈ (fillL slots lt pr).map Rv.id))))) (wt0 rfl) rfl rfl (x_pick_t rfl rfl (decide_eq_true hb25) rfl) ?_)
   refine R.g_nil ?_
   refine g_then ?_
   rcases Bool.eq_false_or_eq_true ((decide (x.id ∈ (fillL slots lt pr).map Rv.id))) with hb28 | hb28
   ·
    refine R.g_cond_f rfl (neg_of hb28) ?_
    refine R.g_skip ?_
    refine g_in ?_
    have hfs : fillL slots lt (pr ++ [x]) = (fillL slots lt pr) := (by rw [fill_snoc]; unfold fillT; rw [if_neg (fun h => h.2 (of_decide_eq_true hb28))])
    have H29 : S wq26 [(Big [Ob bo7 (.cells #[.slice po8 ((optL round seed l).length) co9] 98 (0, 0)), Rw 102 10 po8 ((optL round seed l).length) co9 (fl rvL (optL round seed l))]), II, Kx, Ob g4 (.cells #[.slice pj ((fillL slots lt (pr ++ [x])).length) cj] 98 (0, 0)), Rw 102 10 pj ((fillL slots lt (pr ++ [x])).length) cj (fl rvL (fillL slots lt (pr ++ [x]))), Ob g1 (.cells #[.int .i64 round, .int .i64 slots, .string seed, .slice p n c] 114 (0, 0)), Old w (fps [Rw 102 10 p0 lt.length c0 (fl rvL lt)])] := by rw [hfs]; exact H27.takes [1, 2, 3, 4, 5, 6, 7] (by decide)
    exact rs_next ⟨pj, cj, trivial, rfl⟩ H29
   ·
    refine R.g_cond_t rfl (neg_of hb28) ?_
    refine R.g_region ?_
    refine R.l_of rfl (fun ⟨_, _, h⟩ => h) (s_val (v := .slice pj ((fillL slots lt pr).length) cj) (wt0 rfl) rfl rfl (x_load1 H27 4 rfl rfl Tryz.underlying98 rfl rfl rfl) ?_)
    refine R.l_of rfl (fun ⟨_, _, h⟩ => h) (s_val (v := .agg #[.int .i64 (x.id), .bool x.intr, .bool x.chk, .int .i64 (x.frm), .int .i64 (x.to), .int .i64 (x.lt), .int .i64 (x.since), .bool x.snb, .bool x.now, .bool x.seed]) (wt0 rfl) rfl rfl (x_loadA H27 0 rfl rfl Tryz.underlying102 rfl sz102 rfl rfl rfl) ?_)
    refine R.l_of rfl (fun ⟨_, _, h⟩ => h) (s_buildSlice H27 (wt0 rfl) rfl rfl rfl (vs := [.agg #[.int .i64 (x.id), .bool x.intr, .bool x.chk, .int .i64 (x.frm), .int .i64 (x.to), .int .i64 (x.lt), .int .i64 (x.since), .bool x.snb, .bool x.now, .bool x.seed]]) rfl Tryz.underlying98 sz102 ze102 rfl rfl (cells := #[.int .i64 (x.id), .bool x.intr, .bool x.chk, .int .i64 (x.frm), .int .i64 (x.to), .int .i64 (x.lt), .int .i64 (x.since), .bool x.snb, .bool x.now, .bool x.seed]) (by kernel_rfl) ?_)
    intro g30 wq31 H32
    have hln37a := (H32.rwReads (k := 6) rfl).lenL rvE
    have hln37 : ((fillL slots lt pr) ++ [x]).length = ((fillL slots lt pr).length) + 1 := by simp only [List.length_append, List.length_cons, List.length_nil] <;> omega
    refine R.l_of rfl (fun ⟨_, _, h⟩ => h) (s_appBn (m := 1) (l := (fillL slots lt pr)) (l2 := [x]) rvE H32 6 (j0 := 0) rfl rfl ⟨rfl, Nat.le_refl _⟩ (wt0 rfl) rfl rfl rfl rfl rfl rfl Tryz.underlying98 inf102 rfl (by decide) (by omega) ?_)
    intro p33 c34 wq35 H36
    refine R.l_of rfl (fun ⟨_, _, h⟩ => h) (s_store H36 5 (wt0 rfl) rfl rfl rfl rfl rfl sz98 rfl rfl (cs' := #[.slice p33 (((fillL slots lt pr) ++ [x]).length) c34]) rfl ?_)
    intro wq38 H39
    refine R.g_nil ?_
    refine g_in ?_
    have hfs : fillL slots lt (pr ++ [x]) = ((fillL slots lt pr) ++ [x]) := (by rw [fill_snoc]; unfold fillT; rw [if_pos ⟨hb25, of_decide_eq_false hb28⟩])
    have H40 : S wq38 [(Big [Ob bo7 (.cells #[.slice po8 ((optL round seed l).length) co9] 98 (0, 0)), Rw 102 10 po8 ((optL round seed l).length) co9 (fl rvL (optL round seed l))]), II, Kx, Ob g4 (.cells #[.slice p33 ((fillL slots lt (pr ++ [x])).length) c34] 98 (0, 0)), Rw 102 10 p33 ((fillL slots lt (pr ++ [x])).length) c34 (fl rvL (fillL slots lt (pr ++ [x]))), Ob g1 (.cells #[.int .i64 round, .int .i64 slots, .string seed, .slice p n c] 114 (0, 0)), Old w (fps [Rw 102 10 p0 lt.length c0 (fl rvL lt)])] := by rw [hfs]; exact H39.takes [2, 3, 4, 5, 6, 7, 8] (by decide)
    exact rs_next ⟨p33, c34, trivial, rfl⟩ H40
  ·
   refine R.l_of rfl (fun ⟨_, _, h⟩ => h) (s_not (wn1 rfl rfl rfl rfl (decide_eq_false hb25)) rfl rfl ?_)
   refine R.l_of rfl (fun ⟨_, _, h⟩ => h) (s_not (wn1 rfl rfl rfl rfl (decide_eq_false hb25)) rfl rfl ?_)
   refine R.l_of rfl (fun ⟨_, _, h⟩ => h) (s_not (wn1 rfl rfl rfl rfl (decide_eq_false hb25)) rfl rfl ?_)
   refine R.l_of rfl (fun ⟨_, _, h⟩ => h) (s_not (wn1 rfl rfl rfl rfl (decide_eq_false hb25)) rfl rfl ?_)
   refine R.l_of rfl (fun ⟨_, _, h⟩ => h) (s_val (v := .bool false) (wt0 rfl) rfl rfl (x_pick_f rfl rfl (decide_eq_false hb25) rfl) ?_)
   refine R.g_nil ?_
   refine g_then ?_
   refine R.g_cond_f rfl rfl ?_
   refine R.g_skip ?_
   refine g_in ?_
   have hfs : fillL slots lt (pr ++ [x]) = (fillL slots lt pr) := (by rw [fill_snoc]; unfold fillT; rw [if_neg (fun h => hb25 h.1)])
   have H41 : S W22 [(Big [Ob bo7 (.cells #[.slice po8 ((optL round seed l).length) co9] 98 (0, 0)), Rw 102 10 po8 ((optL round seed l).length) co9 (fl rvL (optL round seed l))]), II, Kx, Ob g4 (.cells #[.slice pj ((fillL slots lt (pr ++ [x])).length) cj] 98 (0, 0)), Rw 102 10 pj ((fillL slots lt (pr ++ [x])).length) cj (fl rvL (fillL slots lt (pr ++ [x]))), Ob g1 (.cells #[.int .i64 round, .int .i64 slots, .string seed, .slice p n c] 114 (0, 0)), Old w (fps [Rw 102 10 p0 lt.length c0 (fl rvL lt)])] := by rw [hfs]; exact H24.takes [1, 2, 3, 4, 5, 6, 7] (by decide)
   exact rs_next ⟨pj, cj, trivial, rfl⟩ H41
 ·
  rintro D xs _ W42 rfl ⟨pj, cj, hJ, rfl⟩ H43
  refine g_in ?_
  refine g_then ?_
  refine R.g_seq ?_
  refine R.g_region ?_
  refine R.l_of rfl (fun h => hL h) (s_val (v := .slice pj ((fillL slots lt (optL round seed l)).length) cj) (wt0 rfl) rfl rfl (x_load1 H43 2 rfl rfl Tryz.underlying98 rfl rfl rfl) ?_)
  refine R.l_of rfl (fun h => hL h) (s_val (v := .slice pj ((fillL slots lt (optL round seed l)).length) cj) (wt0 rfl) rfl rfl (x_assign rfl rfl) ?_)
  refine R.g_nil ?_
  refine g_then ?_
  refine g_weak [(4, .slice pj ((fillL slots lt (optL round seed l)).length) cj)] ⟨rfl, trivial⟩ ?_
  refine R.g_ret ?_
  refine fin_mark H43 0 rfl [.tmp 4] [.slice pj ((fillL slots lt (optL round seed l)).length) cj] rfl (fun wq44 H45 => ⟨⟨rfl, trivial⟩, ?_⟩)
  exact ⟨_, _, rfl, H45.takes [3, 5] (by decide)⟩
 · rintro D pr _ W _ h; exact h.elim
end Go.Proofs.YtpbjekdjebjbkaaGreat
