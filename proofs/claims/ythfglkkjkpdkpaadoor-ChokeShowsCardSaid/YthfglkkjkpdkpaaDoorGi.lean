import Derived.Test.YthfglkkjkpdkpaaDoorGg
import Derived.Test.YthfglkkjkpdkpaaDoorSel
import Derived.Test.YthfglkkjkpdkpaaDoorShelf
import Derived.Lib.ItoaLen
set_option linter.unusedSimpArgs false
set_option linter.unusedVariables false
namespace Go.Proofs.YthfglkkjkpdkpaaDoor
open Go.RowKit Go.Sort

/-! ## Texts in their order; the least of texts; numerals; a table of the program's that lies in the old world -/
theorem cmp_trans : ∀ a b c : List UInt8, Lib.compareBytes a b ≤ 0 → Lib.compareBytes b c ≤ 0 → Lib.compareBytes a c ≤ 0 ∧ (Lib.compareBytes a b < 0 ∨ Lib.compareBytes b c < 0 → Lib.compareBytes a c < 0)
  | [], [], c => by cases c <;> simp [Lib.compareBytes]
  | [], _ :: _, [] => by simp [Lib.compareBytes]
  | [], _ :: _, _ :: _ => by simp [Lib.compareBytes]
  | _ :: _, [], _ => by simp [Lib.compareBytes]
  | _ :: _, _ :: _, [] => by simp [Lib.compareBytes]
  | x :: a, y :: b, z :: c => by
    have ih := cmp_trans a b c
    unfold Lib.compareBytes
    intro h1 h2
    have hx := @UInt8.lt_irrefl
    by_cases h3 : x < y
    · have h3' : ¬ y < x := fun h => hx _ (UInt8.lt_trans h3 h)
      by_cases h4 : y < z
      · simp [UInt8.lt_trans h3 h4]
      · by_cases h5 : z < y
        · simp [h4, h5] at h2
        · have e : y = z := UInt8.le_antisymm (UInt8.not_lt.1 h5) (UInt8.not_lt.1 h4)
          subst e; simp [h3]
    · by_cases h3' : y < x
      · simp [h3, h3'] at h1
      · have e : x = y := UInt8.le_antisymm (UInt8.not_lt.1 h3') (UInt8.not_lt.1 h3)
        subst e
        simp only [h3, if_false] at h1
        by_cases h4 : x < z
        · simp [h4]
        · by_cases h5 : z < x
          · simp [h4, h5] at h2
          · simp only [h4, h5, h3, if_false] at h2 ⊢
            exact ih h1 h2
theorem cmp_swap : ∀ a b : List UInt8, Lib.compareBytes a b = - Lib.compareBytes b a
  | [], [] => rfl
  | [], _ :: _ => rfl
  | _ :: _, [] => rfl
  | x :: a, y :: b => by
    unfold Lib.compareBytes
    by_cases h : x < y
    · have h2 : ¬ y < x := fun h3 => UInt8.lt_irrefl _ (UInt8.lt_trans h h3)
      simp [h, h2]
    · by_cases h2 : y < x
      · simp [h, h2]
      · simp only [h, h2, if_false]; exact cmp_swap a b
theorem less_lt : ∀ a b : List UInt8, Op.bytesLess a b = decide (Lib.compareBytes a b < 0)
  | [], [] => rfl
  | [], _ :: _ => by simp [Op.bytesLess, Lib.compareBytes]
  | _ :: _, [] => by simp [Op.bytesLess, Lib.compareBytes]
  | x :: a, y :: b => by
    have ih := less_lt a b
    unfold Op.bytesLess Lib.compareBytes
    by_cases h : x < y
    · simp [h]
    · by_cases h2 : y < x
      · have : ¬ x = y := fun e => by subst e; exact UInt8.lt_irrefl _ h2
        simp [h, h2, this]
      · have e : x = y := UInt8.le_antisymm (UInt8.not_lt.1 h2) (UInt8.not_lt.1 h)
        subst e
        simp only [if_neg h]
        rw [← ih]
        simp
def cmpSt (x y : ByteArray) : Int := Lib.compareBytes x.data.toList y.data.toList
theorem cmpSt_wk : Wk cmpSt := ⟨fun x y => by
  have := cmp_swap x.data.toList y.data.toList
  unfold cmpSt; omega, fun x y z h1 h2 => (cmp_trans _ _ _ h1 h2).1⟩
def minSt (x y : ByteArray) : ByteArray := if cmpSt x y ≤ 0 then x else y
section
variable {P : Program} {N : Nat} {Q : Exit → Act → World → Prop} {f : Fr} {ds : List Deferred} {w w' w0 : World} {o : Oper} {ops : Array Oper} {L : List Item} {K : Act → World → Prop}
theorem b_lsS {t : TypeId} {xo yo : Operand} {x y : ByteArray} : Bin P .lss t xo yo (.string x) (.string y) w (.bool (decide (cmpSt x y < 0))) := by
  unfold Bin; rw [Sem.run_bind, guard_str]
  have h := less_lt x.data.toList y.data.toList
  simp only [binOp, Op.stringOp, Result.andThen_ok]
  rw [ByteArray.toList_eq, ByteArray.toList_eq, h]; rfl
theorem drewN_os (w : World) : ∀ k, (w.drewN k).os = w.os
  | 0 => by simp [World.drewN_zero]
  | k + 1 => by first | (rw [World.drewN_succ]; exact drewN_os w k) | (unfold World.drewN; rfl)
theorem drewN_out (w : World) : ∀ k, (w.drewN k).output = w.output
  | 0 => by simp [World.drewN_zero]
  | k + 1 => by first | (rw [World.drewN_succ]; exact drewN_out w k) | (unfold World.drewN; rfl)
theorem S.ofGrow (w : World) (k : Nat) (os : Array Obj) : S (grow (w.drewN k) os) [Old w no] := by
  refine (S.old w).move ⟨?_, ?_, ?_, ?_, fun g hg => ?_⟩
  · unfold grow; exact drewN_os w k
  · unfold grow; simp
  · unfold grow; exact drewN_out w k
  · unfold grow; simp
  · unfold grow
    simp only [World.heap_drewN]
    exact Array.getElem?_append_left hg
/-- A table of the program's. -/
theorem S.tab {k : Nat} {nm : String} {kd : IntKind} {zs : List Int} (h : S w L) (hk : L[k]? = some (Old w0 no)) (ht : Lib.TabIs P w0 nm kd zs) : Lib.TabIs P w nm kd zs := by
  unfold Lib.TabIs World.var? at *
  cases hg : P.globalNamed nm with
  | none => simp [hg] at ht
  | some g =>
    simp only [hg, Option.bind_some] at ht ⊢
    cases ho : w0.heap[g]? with
    | none => rw [ho] at ht; cases ht
    | some ob =>
      have hlt := (Array.getElem?_eq_some_iff.1 ho).1
      have := h.oldBlock hk hlt (fun h => h)
      rw [this]; exact ht
end
def itS (n : Int) : ByteArray := ⟨(Lib.itoa n).toArray⟩
theorem itS_size {n : Int} (h0 : -9223372036854775808 ≤ n) (h1 : n ≤ 9223372036854775807) : (itS n).size ≤ 21 := Lib.itoa_length_le n h0 h1
def PowTab (w : World) : Prop := Lib.TabIs Tryd.prog w "internal/strconv.uint64pow10" .u64 Lib.pow10Tab
theorem itoa_s (n : Int) (h0 : -9223372036854775808 ≤ n) (h1 : n ≤ 9223372036854775807) (w : World) (ht : PowTab w) : Calls Tryd.prog 32 #[.int .i64 n] w fun e w' => e = .returned (.string (itS n)) ∧ S w' [Old w no] :=
  (Tryd.strconv_Itoa n h0 h1 w ht).mono fun e w' ⟨he, k, os, hw⟩ => ⟨he, by rw [hw]; exact S.ofGrow w k os⟩
theorem compare_s (a b : ByteArray) (w : World) : Calls Tryd.prog 36 #[.string a, .string b] w fun e w' => e = .returned (.int .i64 (cmpSt a b)) ∧ S w' [Old w no] :=
  (Tryd.strings_Compare a b w).mono fun e w' ⟨he, hw⟩ => ⟨he, by rw [hw]; exact S.old w⟩
end Go.Proofs.YthfglkkjkpdkpaaDoor
