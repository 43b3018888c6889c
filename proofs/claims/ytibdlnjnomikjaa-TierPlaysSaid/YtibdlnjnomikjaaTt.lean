import Derived.Test.YtibdlnjnomikjaaTs
import Derived.Test.YtibdlnjnomikjaaSc
set_option linter.unusedSimpArgs false
set_option linter.unusedVariables false
namespace Go.Proofs.Ytibdlnjnomikjaa
open Go.RowKit

theorem cl27 : callable Try.prog 27 = true := by kernel_rfl
theorem cl28 : callable Try.prog 28 = true := by kernel_rfl
theorem cl29 : callable Try.prog 29 = true := by kernel_rfl
theorem cl55 : callable Try.prog 55 = true := by kernel_rfl
theorem inf9 : infO Try.prog 9 = some (some (.string (⟨#[]⟩)), 1, 16) := by kernel_rfl
def stV (l : List ByteArray) : List Value := l.map Value.string
theorem stV_at {l : List ByteArray} {j : Nat} {s : ByteArray} (h : l[j]? = some s) : (stV l)[j * 1]? = some (.string s) := by
  unfold stV; rw [Nat.mul_one, List.getElem?_map, h]; rfl
theorem stV_one (l : List ByteArray) : (stV l).all (·.oneCell') = true := by
  unfold stV; rw [List.all_eq_true]; intro v hv
  obtain ⟨x, _, rfl⟩ := List.mem_map.1 hv; rfl
def textS (s : ByteArray) : Bool := (!decide (s = ⟨#[]⟩)) && decide (s.size ≤ 200)
def cmpB (a b : ByteArray) : Int := Lib.compareBytes a.data.toList b.data.toList
def keyS (seed a : ByteArray) : ByteArray := oldS (seed ++ (⟨#[32]⟩ : ByteArray) ++ a)
def cmpS (seed a b : ByteArray) : Int := cmpB (keyS seed a) (keyS seed b)
set_option maxRecDepth 20000 in
set_option maxHeartbeats 4000000 in
set_option maxRecDepth 20000 in
set_option maxHeartbeats 4000000 in
theorem text_s (s : ByteArray) (w : World) : Calls Try.prog 30 #[.string s] w fun e w' => e = .returned (.bool (textS s)) ∧ S w' [Old w no] := by
  have H0 := S.old w
  refine enter 10 Try.func30 rfl rfl rfl ?_
  refine g_weak [(0, .string s)] ⟨rfl, trivial⟩ ?_
  refine g_seq ?_
  refine g_region ?_
  refine l_of (s_val (v := .bool false) (wt0 rfl) rfl rfl (x_assign rfl rfl) ?_)
  refine g_nil ?_
  refine g_then ?_
  refine g_seq ?_
  refine g_region ?_
  refine l_of (s_val (v := .string s) (wt0 rfl) rfl rfl (x_move rfl rfl) ?_)
  refine l_of (s_val (v := .bool (!decide (s = ⟨#[]⟩))) (wt0 rfl) rfl rfl (x_bin rfl rfl rfl b_nes) ?_)
  refine l_of (s_val (v := .bool (!decide (s = ⟨#[]⟩))) (wt0 rfl) rfl rfl (x_move rfl rfl) ?_)
  by_cases hb1 : s = ⟨#[]⟩
  · skip
    refine l_of (s_not (wn1 rfl rfl rfl rfl (nf hb1)) rfl rfl ?_)
    refine l_of (s_not (wn1 rfl rfl rfl rfl (nf hb1)) rfl rfl ?_)
    refine l_of (s_not (wn1 rfl rfl rfl rfl (nf hb1)) rfl rfl ?_)
    refine l_of (s_val (v := .bool false) (wt0 rfl) rfl rfl (x_pick_f rfl rfl (nf hb1) rfl) ?_)
    refine l_of (s_val (v := .bool false) (wt0 rfl) rfl rfl (x_assign rfl rfl) ?_)
    refine g_nil ?_
    refine g_then ?_
    refine g_ret ?_
    refine fin_ret [.tmp 2] [.bool false] rfl ⟨rfl, trivial⟩ ?_
    have e1 : textS s = (false) := by unfold textS; simp [hb1] <;> omega
    exact ⟨by rw [e1]; rfl, H0.mask [true]⟩
  · skip
    refine l_of (s_val (v := .string s) (wt1 rfl rfl rfl rfl (nt hb1)) rfl rfl (x_move rfl rfl) ?_)
    refine l_of (s_val (v := .int .i64 ((s.size : Int))) (wt1 rfl rfl rfl rfl (nt hb1)) rfl rfl (x_lens rfl rfl Try.underlying9) ?_)
    refine l_of (s_val (v := .bool (decide (((s.size : Int) : Int) ≤ 200))) (wt1 rfl rfl rfl rfl (nt hb1)) rfl rfl (x_bin rfl rfl rfl b_leq) ?_)
    refine l_of (s_val (v := .bool (decide (((s.size : Int) : Int) ≤ 200))) (wt0 rfl) rfl rfl (x_pick_t rfl rfl (nt hb1) rfl) ?_)
    refine l_of (s_val (v := .bool (decide (((s.size : Int) : Int) ≤ 200))) (wt0 rfl) rfl rfl (x_assign rfl rfl) ?_)
    refine g_nil ?_
    refine g_then ?_
    refine g_ret ?_
    refine fin_ret [.tmp 2] [.bool (decide (((s.size : Int) : Int) ≤ 200))] rfl ⟨rfl, trivial⟩ ?_
    have e1 : textS s = (decide (((s.size : Int) : Int) ≤ 200)) := by unfold textS; simp [hb1] <;> omega
    exact ⟨by rw [e1]; rfl, H0.mask [true]⟩
set_option maxRecDepth 20000 in
set_option maxHeartbeats 4000000 in
set_option maxRecDepth 20000 in
set_option maxHeartbeats 4000000 in
theorem compareS_s (a b : ByteArray) (w : World) : Calls Try.prog 55 #[.string a, .string b] w fun e w' => e = .returned (.int .i64 (cmpB a b)) ∧ S w' [Old w no] := by
  have H0 := S.old w
  refine enter 8 Try.func55 rfl rfl rfl ?_
  refine g_weak [(0, .string a), (1, .string b)] ⟨rfl, rfl, trivial⟩ ?_
  refine g_seq ?_
  refine g_region ?_
  refine l_of (s_val (v := .int .i64 0) (wt0 rfl) rfl rfl (x_assign rfl rfl) ?_)
  refine g_nil ?_
  refine g_then ?_
  refine g_seq ?_
  refine g_region ?_
  refine l_of (s_val (v := .string a) (wt0 rfl) rfl rfl (x_move rfl rfl) ?_)
  refine l_of (s_val (v := .string b) (wt0 rfl) rfl rfl (x_move rfl rfl) ?_)
  refine l_of (s_val (v := .int .i64 ((cmpB a b))) (wt0 rfl) rfl rfl (x_extern rfl rfl rfl (fn := Try.f68) (e := Extern.BytealgCompare.compare) rfl rfl rfl (by kernel_rfl) (by kernel_rfl) (Lib.run_compareString _ _ _)) ?_)
  refine l_of (s_val (v := .int .i64 ((cmpB a b))) (wt0 rfl) rfl rfl (x_assign rfl rfl) ?_)
  refine g_nil ?_
  refine g_then ?_
  refine g_ret ?_
  refine fin_ret [.tmp 4] [.int .i64 ((cmpB a b))] rfl ⟨rfl, trivial⟩ ?_
  exact ⟨rfl, H0.mask [true]⟩
set_option maxRecDepth 20000 in
set_option maxHeartbeats 4000000 in
set_option maxRecDepth 20000 in
set_option maxHeartbeats 4000000 in
theorem compare_s (a b : ByteArray) (w : World) : Calls Try.prog 28 #[.string a, .string b] w fun e w' => e = .returned (.int .i64 (cmpB a b)) ∧ S w' [Old w no] := by
  have H0 := S.old w
  refine enter 8 Try.func28 rfl rfl rfl ?_
  refine g_weak [(0, .string a), (1, .string b)] ⟨rfl, rfl, trivial⟩ ?_
  refine g_seq ?_
  refine g_region ?_
  refine l_of (s_val (v := .int .i64 0) (wt0 rfl) rfl rfl (x_assign rfl rfl) ?_)
  refine g_nil ?_
  refine g_then ?_
  refine g_seq ?_
  refine g_region ?_
  refine l_of (s_val (v := .string a) (wt0 rfl) rfl rfl (x_move rfl rfl) ?_)
  refine l_of (s_val (v := .string b) (wt0 rfl) rfl rfl (x_move rfl rfl) ?_)
  refine l_of (s_call (wt0 rfl) (x_call' rfl rfl cl55) (compareS_s _ _ _) ?_)
  rintro _ wq1 ⟨rfl, H2⟩
  replace H2 : S wq1 [Old w no] := H0.absorb (new := []) H2
  refine b_ret rfl rfl ?_
  refine l_of (s_val (v := .int .i64 ((cmpB a b))) (wt0 rfl) rfl rfl (x_assign rfl rfl) ?_)
  refine g_nil ?_
  refine g_then ?_
  refine g_ret ?_
  refine fin_ret [.tmp 4] [.int .i64 ((cmpB a b))] rfl ⟨rfl, trivial⟩ ?_
  exact ⟨rfl, H2.mask [true]⟩
set_option maxRecDepth 20000 in
set_option maxHeartbeats 4000000 in
set_option maxRecDepth 20000 in
set_option maxHeartbeats 4000000 in
theorem newcmp_s {seed x y : ByteArray} {b : Nat} (hs : seed.size ≤ 1000) (hx : x.size ≤ 1000) (hy : y.size ≤ 1000)  (w : World) (HS : S w [Ob b (.cells #[.string seed] 9 (0, 0))]) : Calls Try.prog 27 #[.string x, .string y, .pointer (some ⟨b, 0, none⟩)] w fun e w' => e = .returned (.int .i64 (cmpS seed x y)) ∧ S w' ([Ob b (.cells #[.string seed] 9 (0, 0))] ++ [Old w (fps [Ob b (.cells #[.string seed] 9 (0, 0))])]) := by
  have H00 := HS.beginI
  have H0 : S w ([Ob b (.cells #[.string seed] 9 (0, 0)), Old w (fps [Ob b (.cells #[.string seed] 9 (0, 0))])]) := H00
  have hz1 : (⟨#[32]⟩ : ByteArray).size = 1 := rfl
  refine enter 17 Try.func27 rfl rfl rfl ?_
  refine g_weak [(0, .string x), (1, .string y), (2, .pointer (some ⟨b, 0, none⟩))] ⟨rfl, rfl, rfl, trivial⟩ ?_
  refine g_seq ?_
  refine g_region ?_
  refine l_of (s_val (v := .int .i64 0) (wt0 rfl) rfl rfl (x_assign rfl rfl) ?_)
  refine g_nil ?_
  refine g_then ?_
  refine g_seq ?_
  refine g_quiet (by kernel_rfl) (by kernel_rfl) H0 ?_
  refine q_val (v := .string seed) (wt0 rfl) rfl rfl (fun wx H => x_load1 H 0 rfl rfl Try.underlying9 rfl rfl rfl) ?_
  have hsz1 : (seed ++ (⟨#[32]⟩ : ByteArray)).size = seed.size + (⟨#[32]⟩ : ByteArray).size := ByteArray.size_append
  refine q_val (v := .string (seed ++ (⟨#[32]⟩ : ByteArray))) (wt0 rfl) rfl rfl (fun wx H => x_bin rfl rfl rfl (b_cat (by omega))) ?_
  refine q_val (v := .string x) (wt0 rfl) rfl rfl (fun wx H => x_move rfl rfl) ?_
  have hsz2 : ((seed ++ (⟨#[32]⟩ : ByteArray)) ++ x).size = (seed ++ (⟨#[32]⟩ : ByteArray)).size + x.size := ByteArray.size_append
  refine q_val (v := .string ((seed ++ (⟨#[32]⟩ : ByteArray)) ++ x)) (wt0 rfl) rfl rfl (fun wx H => x_bin rfl rfl rfl (b_cat (by omega))) ?_
  refine q_call (wt0 rfl) rfl rfl (fun wx H => x_call' rfl rfl cl29) (fun wx H => (old_h _ (by omega) _).mono (by rintro _ _ ⟨rfl, h⟩; exact ⟨rfl, H.absorb (new := []) h⟩)) ?_
  refine q_val (v := .string seed) (wt0 rfl) rfl rfl (fun wx H => x_load1 H 0 rfl rfl Try.underlying9 rfl rfl rfl) ?_
  have hsz3 : (seed ++ (⟨#[32]⟩ : ByteArray)).size = seed.size + (⟨#[32]⟩ : ByteArray).size := ByteArray.size_append
  refine q_val (v := .string (seed ++ (⟨#[32]⟩ : ByteArray))) (wt0 rfl) rfl rfl (fun wx H => x_bin rfl rfl rfl (b_cat (by omega))) ?_
  refine q_val (v := .string y) (wt0 rfl) rfl rfl (fun wx H => x_move rfl rfl) ?_
  have hsz4 : ((seed ++ (⟨#[32]⟩ : ByteArray)) ++ y).size = (seed ++ (⟨#[32]⟩ : ByteArray)).size + y.size := ByteArray.size_append
  refine q_val (v := .string ((seed ++ (⟨#[32]⟩ : ByteArray)) ++ y)) (wt0 rfl) rfl rfl (fun wx H => x_bin rfl rfl rfl (b_cat (by omega))) ?_
  refine q_call (wt0 rfl) rfl rfl (fun wx H => x_call' rfl rfl cl29) (fun wx H => (old_h _ (by omega) _).mono (by rintro _ _ ⟨rfl, h⟩; exact ⟨rfl, H.absorb (new := []) h⟩)) ?_
  refine q_call (wt0 rfl) rfl rfl (fun wx H => x_call' rfl rfl cl28) (fun wx H => (compare_s _ _ _).mono (by rintro _ _ ⟨rfl, h⟩; exact ⟨rfl, H.absorb (new := []) h⟩)) ?_
  refine q_val (v := .int .i64 ((cmpB (oldS ((seed ++ (⟨#[32]⟩ : ByteArray)) ++ x)) (oldS ((seed ++ (⟨#[32]⟩ : ByteArray)) ++ y))))) (wt0 rfl) rfl rfl (fun wx H => x_assign rfl rfl) ?_
  refine q_nil (fun wq5 H6 => ?_)
  refine g_then ?_
  refine g_weak [(5, .int .i64 ((cmpB (oldS ((seed ++ (⟨#[32]⟩ : ByteArray)) ++ x)) (oldS ((seed ++ (⟨#[32]⟩ : ByteArray)) ++ y)))))] ⟨rfl, trivial⟩ ?_
  refine g_ret ?_
  refine fin_ret [.tmp 5] [.int .i64 ((cmpB (oldS ((seed ++ (⟨#[32]⟩ : ByteArray)) ++ x)) (oldS ((seed ++ (⟨#[32]⟩ : ByteArray)) ++ y))))] rfl ⟨rfl, trivial⟩ ?_
  exact ⟨rfl, H6⟩
theorem cmps_new {seed : ByteArray} {b : Nat} (hs : seed.size ≤ 1000) {l : List (ByteArray × Nat)} (hl : ∀ p ∈ l, p.1.size ≤ 1000) : Cmps Try.prog 27 #[] #[.pointer (some ⟨b, 0, none⟩)] (Ob b (.cells #[.string seed] 9 (0, 0))) (fun p : ByteArray × Nat => .string p.1) (fun p q => cmpS seed p.1 q.1) l :=
  ⟨cl27, fun x hx y hy w HS => newcmp_s hs (hl x hx) (hl y hy) w HS⟩
def sortN (seed : ByteArray) (l : List ByteArray) : List ByteArray := (stableS (⟨#[]⟩, 0) (fun p q => cmpS seed p.1 q.1) l.zipIdx).map Prod.fst
theorem zip_fst (l : List ByteArray) : l.zipIdx.map Prod.fst = l := List.zipIdx_map_fst ..
theorem sortN_perm (seed : ByteArray) (l : List ByteArray) : (sortN seed l).Perm l := by
  have h := (stable_perm (⟨#[]⟩, 0) (fun p q => cmpS seed p.1 q.1) l.zipIdx).map Prod.fst
  rw [zip_fst] at h; exact h
theorem mV_fst (z : List (ByteArray × Nat)) : mV (fun p => Value.string p.1) z = stV (z.map Prod.fst) := by
  rw [mV_one (fun _ => rfl)]; unfold stV; rw [List.map_map]; rfl
theorem mV_zip (l : List ByteArray) : mV (fun p => Value.string p.1) l.zipIdx = stV l := by rw [mV_fst, zip_fst]
theorem mV_sort (seed : ByteArray) (l : List ByteArray) : mV (fun p => Value.string p.1) (stableS (⟨#[]⟩, 0) (fun p q => cmpS seed p.1 q.1) l.zipIdx) = stV (sortN seed l) := mV_fst _
set_option maxRecDepth 20000 in
set_option maxHeartbeats 4000000 in
set_option maxRecDepth 20000 in
set_option maxHeartbeats 4000000 in
theorem cloneT_s (l : List ByteArray) (a : Addr) (nn c : Nat) (hn : l.length = nn) (hm : nn ≤ 1099511627776) (w : World) (hr : Reads w (some a) nn c 1 (stV l)) : Calls Try.prog 25 #[.slice (some a) nn c] w fun e w' => ∃ p' c', e = .returned (.slice p' nn c') ∧ S w' ([Rw 9 1 p' nn c' (stV l)] ++ [Old w no]) := by
  have H0 := S.old w
  refine enter 8 Try.func25 rfl rfl rfl ?_
  refine g_weak [(0, .slice (some a) nn c)] ⟨rfl, trivial⟩ ?_
  refine g_seq ?_
  refine g_region ?_
  refine l_of (s_val (v := .slice none 0 0) (wt0 rfl) rfl rfl (x_assign rfl rfl) ?_)
  refine g_nil ?_
  refine g_then ?_
  refine g_seq ?_
  refine g_seq ?_
  refine g_region ?_
  refine l_of (s_val (v := .slice (some a) nn c) (wt0 rfl) rfl rfl (x_move rfl rfl) ?_)
  refine l_of (s_val (v := .bool false) (wt0 rfl) rfl rfl (x_bin rfl rfl rfl (b_eqN (r := false) Try.underlying37 rfl)) ?_)
  refine g_nil ?_
  refine g_then ?_
  refine g_cond_f rfl rfl ?_
  refine g_skip ?_
  refine g_then ?_
  refine g_seq ?_
  refine g_region ?_
  refine l_of (s_buildSlice0 H0 (wt0 rfl) rfl rfl rfl Try.underlying37 sz9 ?_)
  intro g1 wq2 H4
  have H3 : S wq2 [Rw 9 1 (some ⟨g1, 0, none⟩) 0 0 (stV []), Old w no] := H4.obRw (k := 0) (n := 0) (size := 1) rfl rfl (by decide)
  refine l_of (s_val (v := .slice (some a) nn c) (wt0 rfl) rfl rfl (x_move rfl rfl) ?_)
  refine l_of (s_appendW (n := 0) (m := nn) (sc := 0) (xs := stV []) (news := stV l) (p := (some ⟨g1, 0, none⟩)) (q := some a) H3 0 (wt0 rfl) rfl rfl rfl rfl rfl rfl Try.underlying37 inf9 rfl (by decide) (by decide) (H3.oldReads (k := 1) rfl hr) (stV_one l) (by omega) ?_)
  intro p5 c6 wq7 H8
  rw [Nat.zero_add] at H8 ⊢
  replace H8 : S wq7 [Rw 9 1 p5 nn c6 (stV l), Old w no] := H8
  refine l_of (s_val (v := .slice p5 nn c6) (wt0 rfl) rfl rfl (x_assign rfl rfl) ?_)
  refine g_nil ?_
  refine g_then ?_
  refine g_ret ?_
  refine fin_ret [.tmp 2] [.slice p5 nn c6] rfl ⟨rfl, trivial⟩ ?_
  exact ⟨_, _, rfl, H8⟩
set_option maxRecDepth 20000 in
set_option maxHeartbeats 4000000 in
set_option maxRecDepth 20000 in
set_option maxHeartbeats 4000000 in
theorem cloneT_n (n c : Nat) (w : World) : Calls Try.prog 25 #[.slice none n c] w fun e w' => ∃ p' c', e = .returned (.slice p' 0 c') ∧ S w' ([Rw 9 1 p' 0 c' (stV [])] ++ [Old w no]) := by
  have H0 := S.old w
  refine enter 8 Try.func25 rfl rfl rfl ?_
  refine g_weak [(0, .slice none n c)] ⟨rfl, trivial⟩ ?_
  refine g_seq ?_
  refine g_region ?_
  refine l_of (s_val (v := .slice none 0 0) (wt0 rfl) rfl rfl (x_assign rfl rfl) ?_)
  refine g_nil ?_
  refine g_then ?_
  refine g_seq ?_
  refine g_seq ?_
  refine g_region ?_
  refine l_of (s_val (v := .slice none n c) (wt0 rfl) rfl rfl (x_move rfl rfl) ?_)
  refine l_of (s_val (v := .bool true) (wt0 rfl) rfl rfl (x_bin rfl rfl rfl (b_eqN (r := true) Try.underlying37 rfl)) ?_)
  refine g_nil ?_
  refine g_then ?_
  refine g_cond_t rfl rfl ?_
  refine g_seq ?_
  refine g_region ?_
  refine l_of (s_val (v := .slice none 0 0) (wt0 rfl) rfl rfl (x_assign rfl rfl) ?_)
  refine g_nil ?_
  refine g_then ?_
  refine g_ret ?_
  refine g_then_ret ?_
  refine fin_ret [.tmp 2] [.slice none 0 0] rfl ⟨rfl, trivial⟩ ?_
  exact ⟨none, 0, rfl, H0.nilRw 9 1⟩
theorem cloneT (l : List ByteArray) (p : Option Addr) (nn c : Nat) (hn : l.length = nn) (hm : nn ≤ 1099511627776) (w : World) (hr : Reads w p nn c 1 (stV l)) : Calls Try.prog 25 #[.slice p nn c] w fun e w' => ∃ p' c', e = .returned (.slice p' nn c') ∧ S w' ([Rw 9 1 p' nn c' (stV l)] ++ [Old w no]) := by
  cases p with
  | some a => exact cloneT_s l a nn c hn hm w hr
  | none =>
    have hl : nn = 0 := by
      rcases Nat.eq_zero_or_pos nn with h | h
      · exact h
      · obtain ⟨a, h2, _⟩ := hr.2.2 h; cases h2
    subst hl
    have hl2 : l = [] := List.eq_nil_of_length_eq_zero hn
    subst hl2
    exact cloneT_n 0 c w
end Go.Proofs.Ytibdlnjnomikjaa
