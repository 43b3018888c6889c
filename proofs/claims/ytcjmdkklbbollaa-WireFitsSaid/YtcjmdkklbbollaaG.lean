import Derived.Test.YtcjmdkklbbollaaE
set_option linter.unusedSimpArgs false
set_option linter.unusedVariables false
namespace Go.Proofs.Ytcjmdkklbbollaa
open Go.RowKit

structure F.Wf (f : F) : Prop where
  s0 : 0 ≤ f.size
  s32 : f.size ≤ 32
  rest : f.size = 0 → 0 < f.st ∧ 0 ≤ f.lo
  acc : AccOf f.k f.off
  txt : ¬ f.off ≤ 5 → 0 < f.st
def okRest (f : F) (n : Int) : Bool := decide (f.lo ≤ n) && decide (n ≤ f.hi) && decide (n % f.st = 0)
def mayP : List F → Int → Bool
  | [], n => n == 0
  | f :: rest, n => if rest = [] ∧ f.size = 0 then okRest f n else mayP rest (n - f.size)
def fnOf (f : F) : Value := .func (.func f.k) #[] #[]

/-- The six cells of a field in memory. -/
theorem six {w : World} {g o j : Nat} {fs : List F} {f : F} (hc : ∀ j u, (cellsOf fs)[j]? = some u → w.cell? ⟨g, o + j, none⟩ = some u) (h : fs[j]? = some f) :
    w.cell? ⟨g, o + j * 6, none⟩ = some (.int .i64 f.size) ∧ w.cell? ⟨g, o + j * 6 + 1, none⟩ = some (if f.off ≤ 5 then .func (.func f.k) #[] #[] else .nilFunc) ∧
    w.cell? ⟨g, o + j * 6 + 2, none⟩ = some (if f.off ≤ 5 then .nilFunc else .func (.func f.k) #[] #[]) ∧ w.cell? ⟨g, o + j * 6 + 3, none⟩ = some (.int .i64 f.lo) ∧
    w.cell? ⟨g, o + j * 6 + 4, none⟩ = some (.int .i64 f.hi) ∧ w.cell? ⟨g, o + j * 6 + 5, none⟩ = some (.int .i64 f.st) := by
  have e := fun i (hi : i < 6) => hc (j * 6 + i) _ (by rw [cellsOf_at fs j i f h hi]; exact List.getElem?_eq_getElem (by rw [len_cells]; exact hi))
  refine ⟨e 0 (by decide), ?_, ?_, ?_, ?_, ?_⟩ <;> rw [Nat.add_assoc]
  · exact e 1 (by decide)
  · exact e 2 (by decide)
  · exact e 3 (by decide)
  · exact e 4 (by decide)
  · exact e 5 (by decide)
/-- The same, the accessor's place decided. -/
theorem six' {w : World} {g o j : Nat} {fs : List F} {f : F} (hc : ∀ j u, (cellsOf fs)[j]? = some u → w.cell? ⟨g, o + j, none⟩ = some u) (h : fs[j]? = some f) :
    ∃ v1 v2, ((f.off ≤ 5 ∧ v1 = .func (.func f.k) #[] #[] ∧ v2 = .nilFunc) ∨ (¬ f.off ≤ 5 ∧ v1 = .nilFunc ∧ v2 = .func (.func f.k) #[] #[])) ∧
    w.cell? ⟨g, o + j * 6, none⟩ = some (.int .i64 f.size) ∧ w.cell? ⟨g, o + j * 6 + 1, none⟩ = some v1 ∧ w.cell? ⟨g, o + j * 6 + 2, none⟩ = some v2 ∧ w.cell? ⟨g, o + j * 6 + 3, none⟩ = some (.int .i64 f.lo) ∧
    w.cell? ⟨g, o + j * 6 + 4, none⟩ = some (.int .i64 f.hi) ∧ w.cell? ⟨g, o + j * 6 + 5, none⟩ = some (.int .i64 f.st) := by
  have e := six hc h
  by_cases hf : f.off ≤ 5
  · rw [if_pos hf, if_pos hf] at e; exact ⟨_, _, .inl ⟨hf, rfl, rfl⟩, e⟩
  · rw [if_neg hf, if_neg hf] at e; exact ⟨_, _, .inr ⟨hf, rfl, rfl⟩, e⟩

theorem mayP_last {fs : List F} {j : Nat} {f : F} (h : fs[j]? = some f) (hl : j + 1 = fs.length) (hs : f.size = 0) (x : Int) : mayP (fs.drop j) x = okRest f x := by
  have hj := (List.getElem?_eq_some_iff.1 h).1
  have he := (List.getElem?_eq_some_iff.1 h).2
  rw [List.drop_eq_getElem_cons hj, he, List.drop_eq_nil_of_le (by omega)]
  simp [mayP, hs]
theorem mayP_step {fs : List F} {j : Nat} {f : F} (h : fs[j]? = some f) (hs : ¬ (j + 1 = fs.length ∧ f.size = 0)) (x : Int) : mayP (fs.drop j) x = mayP (fs.drop (j + 1)) (x - f.size) := by
  have hj := (List.getElem?_eq_some_iff.1 h).1
  have he := (List.getElem?_eq_some_iff.1 h).2
  rw [List.drop_eq_getElem_cons hj, he]
  simp only [mayP]
  rw [if_neg]
  intro ⟨h1, h2⟩
  exact hs ⟨by have := List.drop_eq_nil_iff.1 h1; omega, h2⟩

set_option maxRecDepth 20000 in
set_option maxHeartbeats 2000000 in
theorem may_p (num n : Int) (sl : Value) (fs : List F) (hw : ∀ f ∈ fs, f.Wf) (hl : fs.length ≤ 6) (h0 : 0 ≤ n) (hn : n ≤ 5000) (w : World) (lo : Nat) (hsl : Rd w lo w.heap.size 6 sl (cellsOf fs)) :
    Calls Try.prog 55 #[.agg #[.int .i64 num, sl], .int .i64 n] w fun e w' => e = .returned (.bool (mayP fs (n - 1))) ∧ Sub w w' := by
  obtain ⟨A, m, c, rfl, hlen, hmc, hcells⟩ := hsl
  rw [len_cellsOf] at hlen
  obtain rfl : m = fs.length := by omega
  have Hc := Lib.hid hcells; clear hcells hlen
  have Hw := Lib.hid hw; clear hw
  go_enter Try.func55, Try.ntmps55
  go_wp2_with fail
  go_loopw [1, 12] (fun t i wr => ∃ (j : Nat) (x : Int), j ≤ fs.length ∧ i = .int .i64 j ∧ t = .int .i64 x ∧ mayP (fs.drop j) x = mayP fs (n - 1) ∧ -1 - 32 * j ≤ x ∧ x ≤ 5000 ∧ Sub (w.alloc (.cells #[.int .i64 num, .slice A fs.length c] 73)) wr) (fun _ i _ => fs.length - (intOf i).toNat)
  case atStart => exact ⟨0, n - 1, by omega, rfl, rfl, rfl, by omega, by omega, Sub.rfl'⟩
  case round =>
    obtain ⟨j, x, hj, rfl, rfl, hm, hx1, hx2, hsub⟩ := hrel
    have Hm := Lib.hid hm; clear hm
    have hblk := (Blk.new w 73 #[.int .i64 num, .slice A fs.length c]).sub hsub
    have hb0 : wr.cell? ⟨w.heap.size, 1, none⟩ = some (.slice A fs.length c) := by rw [hblk.cell]; rfl
    have hsz : w.heap.size < wr.heap.size := hblk.lt
    have Hb := Lib.hid hblk; clear hblk
    have Hsub := Lib.hid hsub; clear hsub
    by_cases hlt : j < fs.length
    · obtain ⟨g, o, rfl, hg, hc⟩ := Hc.out (by omega)
      obtain ⟨f, hf⟩ : ∃ f, fs[j]? = some f := ⟨_, List.getElem?_eq_getElem hlt⟩
      have hwf := Hw.out f (List.mem_of_getElem? hf)
      obtain ⟨v1, v2, hv, c0, c1, c2, c3, c4, c5⟩ := six' hc hf
      clear hc
      have hs := (Sub.tr (Sub.al Sub.rfl' _) Hsub.out).cells.1 g
      rw [← hs _ hg.2] at c0 c1 c2 c3 c4 c5
      clear hs
      have h1 := hwf.s0
      have h2 := hwf.s32
      have h3 := hwf.rest
      clear hwf
      have Hf := Lib.hid hf; clear hf
      by_cases hlast : j + 1 = fs.length ∧ f.size = 0
      · obtain ⟨e1, e2⟩ := hlast
        have h3 := h3 e2
        have t1 : ((j : Int) == fs.length - 1) = true := by simp; omega
        have t2 : (f.size == 0) = true := by simp [e2]
        have E := Lib.hid (And.intro e1 e2); clear e1 e2
        obtain ⟨h3, h4⟩ := h3
        have hcs : (¬ f.lo ≤ x) ∨ (f.lo ≤ x ∧ ¬ x ≤ f.hi) ∨ (f.lo ≤ x ∧ x ≤ f.hi ∧ 0 ≤ x ∧ (x % f.st == 0) = true) ∨ (f.lo ≤ x ∧ x ≤ f.hi ∧ 0 ≤ x ∧ (x % f.st == 0) = false) := by simp; omega
        have hv' : (∃ k', v1 = .func (.func k') #[] #[] ∧ v2 = .nilFunc) ∨ (∃ k', v1 = .nilFunc ∧ v2 = .func (.func k') #[] #[]) := by
          rcases hv with ⟨_, rfl, rfl⟩ | ⟨_, rfl, rfl⟩
          · exact .inl ⟨_, rfl, rfl⟩
          · exact .inr ⟨_, rfl, rfl⟩
        clear hv
        have hfin : mayP fs (n - 1) = okRest f x := by rw [← Hm.out, mayP_last Hf.out E.out.1 E.out.2]
        have Hfin := Lib.hid hfin; clear hfin
        rcases hv' with ⟨k', rfl, rfl⟩ | ⟨k', rfl, rfl⟩ <;> rcases hcs with a1 | ⟨a1, a2⟩ | ⟨a1, a2, a3, a4⟩ | ⟨a1, a2, a3, a4⟩
        all_goals
          go_wp2_with fail
          go_ret
          refine ⟨?_, ((Sub.al Sub.rfl' _).tr Hsub.out).al _⟩
          rw [Hfin.out]
          first | (simp [okRest]; omega) | (simp [okRest]; simp at a4; omega)
      · have Hn := Lib.hid hlast; clear hlast
        clear h3
        have hstep : mayP (fs.drop (j + 1)) (x - f.size) = mayP fs (n - 1) := by rw [← Hm.out, ← mayP_step Hf.out Hn.out]
        have Hstep := Lib.hid hstep; clear hstep
        have hv' : (∃ k', v1 = .func (.func k') #[] #[] ∧ v2 = .nilFunc) ∨ (∃ k', v1 = .nilFunc ∧ v2 = .func (.func k') #[] #[]) := by
          rcases hv with ⟨_, rfl, rfl⟩ | ⟨_, rfl, rfl⟩
          · exact .inl ⟨_, rfl, rfl⟩
          · exact .inr ⟨_, rfl, rfl⟩
        clear hv
        have ht : ((j : Int) == fs.length - 1) = false ∨ (((j : Int) == fs.length - 1) = true ∧ (f.size == 0) = false) := by
          by_cases e1 : j + 1 = fs.length
          · right
            have := Hn.out
            refine ⟨by simp; omega, by simp; exact fun e => this ⟨e1, e⟩⟩
          · left; simp; omega
        rcases hv' with ⟨k', rfl, rfl⟩ | ⟨k', rfl, rfl⟩ <;> rcases ht with t1 | ⟨t1, t2⟩
        all_goals
          go_wp2_with fail
          go_roundw
          case rel => exact ⟨j + 1, x - f.size, by omega, by go_num, rfl, Hstep.out, by omega, by omega, Hsub.out.al _⟩
          case measure => simp [intOf]; omega
    · obtain rfl : j = fs.length := by omega
      have hfin : mayP fs (n - 1) = (x == 0) := by rw [← Hm.out, List.drop_length]; rfl
      have Hfin := Lib.hid hfin; clear hfin
      by_cases hx : x = 0
      · have t : (x == 0) = true := by simp [hx]
        have Hx := Lib.hid hx; clear hx
        go_wp2_with fail
        go_ret
        exact ⟨by rw [Hfin.out, t]; rfl, (Sub.al Sub.rfl' _).tr Hsub.out⟩
      · have t : (x == 0) = false := by simp [hx]
        clear hx
        go_wp2_with fail
        go_ret
        exact ⟨by rw [Hfin.out, t]; rfl, (Sub.al Sub.rfl' _).tr Hsub.out⟩
end Go.Proofs.Ytcjmdkklbbollaa
