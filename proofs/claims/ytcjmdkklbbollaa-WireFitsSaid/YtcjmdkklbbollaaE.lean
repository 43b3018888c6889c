import Derived.Test.YtcjmdkklbbollaaD
set_option linter.unusedSimpArgs false
set_option linter.unusedVariables false
namespace Go.Proofs.Ytcjmdkklbbollaa
open Go.RowKit

/-- A field of a message's form: where it lies in the message (1 to 5: a number, 6 and 7: a text), its accessor's number, its bounds. -/
structure F where
  size : Int
  k : Nat
  off : Nat
  lo : Int
  hi : Int
  st : Int
def F.cells (f : F) : List Value :=
  [.int .i64 f.size, if f.off ≤ 5 then .func (.func f.k) #[] #[] else .nilFunc, if f.off ≤ 5 then .nilFunc else .func (.func f.k) #[] #[], .int .i64 f.lo, .int .i64 f.hi, .int .i64 f.st]
def F4 (k off : Nat) : F := ⟨4, k, off, 0, 4294967295, 0⟩
def FLen : F := ⟨4, 78, 3, 1, 1024, 0⟩
def FRest (a b c : Int) : F := ⟨0, 95, 7, a, b, c⟩
def FRoot : F := ⟨32, 79, 6, 32, 32, 1⟩
def fsOne : List F := [F4 76 1]
def fsBlock : List F := [F4 76 1, F4 77 2, FLen]
def fsBits : List F := [FRest 0 512 1]
def fsPiece : List F := [F4 76 1, F4 77 2, FRest 1 1024 1]
def fsPort : List F := [⟨2, 76, 1, 1, 65535, 0⟩]
def fsExt : List F := [⟨1, 76, 1, 0, 255, 0⟩, FRest 0 4096 1]
def fsAsk : List F := [FRoot, F4 80 4, F4 76 1, F4 78 3, F4 81 5]
def fsHash : List F := fsAsk ++ [FRest 32 2048 32]
/-- The fields of a kind. -/
def fields : Nat → List F
  | 6 | 12 | 16 => fsOne
  | 7 => fsBits
  | 8 | 10 | 15 => fsBlock
  | 9 => fsPiece
  | 11 => fsPort
  | 17 => fsExt
  | 18 | 20 => fsAsk
  | 19 => fsHash
  | _ => []
/-- The number of a kind on the wire. -/
def numb : Nat → Int
  | 3 => 1 | 4 => 2 | 5 => 3 | 6 => 4 | 7 => 5 | 8 => 6 | 9 => 7 | 10 => 8 | 11 => 9 | 12 => 13 | 13 => 14 | 14 => 15 | 15 => 16 | 16 => 17 | 17 => 20 | 18 => 21 | 19 => 22 | 20 => 23
  | _ => 0
def cellsOf (fs : List F) : List Value := fs.flatMap F.cells
theorem len_cells (f : F) : f.cells.length = 6 := rfl
theorem len_cellsOf (fs : List F) : (cellsOf fs).length = fs.length * 6 := by
  induction fs with
  | nil => rfl
  | cons f fs ih => simp only [cellsOf, List.flatMap_cons, List.length_append, len_cells, List.length_cons] at *; omega
theorem cellsOf_at (fs : List F) (j i : Nat) (f : F) (h : fs[j]? = some f) (hi : i < 6) : (cellsOf fs)[j * 6 + i]? = f.cells[i]? := by
  induction fs generalizing j with
  | nil => simp at h
  | cons f' fs ih =>
    cases j with
    | zero => simp at h; subst h; simp only [cellsOf, List.flatMap_cons]; rw [List.getElem?_append_left (by rw [len_cells]; omega)]; simp
    | succ j =>
      simp at h
      have := ih j h
      simp only [cellsOf, List.flatMap_cons] at *
      rw [List.getElem?_append_right (by rw [len_cells]; omega), ← this]
      congr 1; rw [len_cells]; omega

/-- The values at a kind, out of the array of shapes. -/
theorem shapes_at {lo : Nat} {w : World} {v : Value} (h : Shapes lo w v) (k : Nat) (hk : k ≤ 20) :
    ∃ sl, (∀ w' : World, (Instr.index 74 v (.int .i64 k)).run Try.prog w' = .ok (.agg #[.int .i64 (numb k), sl]) w') ∧ Rd w lo w.heap.size 6 sl (cellsOf (fields k)) := by
  obtain ⟨o, b, a, bi, pi, po, ex, ha, rfl, ho, hb, hA, hbi, hpi, hpo, hex, hha⟩ := h
  have nil : Rd w lo w.heap.size 6 (.slice none 0 0) (cellsOf []) := Rd.nil _ _ _ _ _ _
  rcases (by omega : k = 0 ∨ k = 1 ∨ k = 2 ∨ k = 3 ∨ k = 4 ∨ k = 5 ∨ k = 6 ∨ k = 7 ∨ k = 8 ∨ k = 9 ∨ k = 10 ∨ k = 11 ∨ k = 12 ∨ k = 13 ∨ k = 14 ∨ k = 15 ∨ k = 16 ∨ k = 17 ∨ k = 18 ∨ k = 19 ∨ k = 20) with rfl | rfl | rfl | rfl | rfl | rfl | rfl | rfl | rfl | rfl | rfl | rfl | rfl | rfl | rfl | rfl | rfl | rfl | rfl | rfl | rfl
  · exact ⟨(.slice none 0 0), fun _ => by kernel_rfl, nil⟩
  · exact ⟨(.slice none 0 0), fun _ => by kernel_rfl, nil⟩
  · exact ⟨(.slice none 0 0), fun _ => by kernel_rfl, nil⟩
  · exact ⟨(.slice none 0 0), fun _ => by kernel_rfl, nil⟩
  · exact ⟨(.slice none 0 0), fun _ => by kernel_rfl, nil⟩
  · exact ⟨(.slice none 0 0), fun _ => by kernel_rfl, nil⟩
  · exact ⟨o, fun _ => by kernel_rfl, ho⟩
  · exact ⟨bi, fun _ => by kernel_rfl, hbi⟩
  · exact ⟨b, fun _ => by kernel_rfl, hb⟩
  · exact ⟨pi, fun _ => by kernel_rfl, hpi⟩
  · exact ⟨b, fun _ => by kernel_rfl, hb⟩
  · exact ⟨po, fun _ => by kernel_rfl, hpo⟩
  · exact ⟨o, fun _ => by kernel_rfl, ho⟩
  · exact ⟨(.slice none 0 0), fun _ => by kernel_rfl, nil⟩
  · exact ⟨(.slice none 0 0), fun _ => by kernel_rfl, nil⟩
  · exact ⟨b, fun _ => by kernel_rfl, hb⟩
  · exact ⟨o, fun _ => by kernel_rfl, ho⟩
  · exact ⟨ex, fun _ => by kernel_rfl, hex⟩
  · exact ⟨a, fun _ => by kernel_rfl, hA⟩
  · exact ⟨ha, fun _ => by kernel_rfl, hha⟩
  · exact ⟨a, fun _ => by kernel_rfl, hA⟩

def kindP (n : Int) : Nat := ((List.range 21).find? fun k => decide (1 < k) && numb k == n).getD 0
def NoKind (n : Int) (k : Nat) : Prop := ∀ j, 1 < j → j < k → numb j ≠ n
theorem kindP_none {n : Int} (h : NoKind n 21) : kindP n = 0 := by
  unfold kindP
  rw [List.find?_eq_none.2 (fun k hk => by
    simp only [List.mem_range] at hk
    by_cases h1 : 1 < k
    · simpa [h1] using h k h1 hk
    · simp [h1])]
  rfl
theorem kindP_hit {n : Int} {k : Nat} (h : NoKind n k) (h1 : 1 < k) (h2 : k < 21) (hn : numb k = n) : kindP n = k := by
  have e : (List.range 21).find? (fun k => decide (1 < k) && numb k == n) = some k :=
    List.find?_eq_some_iff_getElem.2 ⟨by simp [h1, hn], k, by simpa using h2, by simp, fun j hj => by
      simp only [List.getElem_range]
      by_cases h3 : 1 < j
      · simpa [h3] using h j h3 hj
      · simp [h3]⟩
  unfold kindP
  rw [e]; rfl
theorem NoKind.step {n : Int} {k : Nat} (h : NoKind n k) (hk : 1 < k → numb k ≠ n) : NoKind n (k + 1) := by
  intro j h1 h2
  rcases Nat.lt_or_ge j k with h3 | h3
  · exact h j h1 h3
  · obtain rfl : j = k := by omega
    exact hk h1

set_option maxRecDepth 20000 in
set_option maxHeartbeats 1000000 in
theorem kind_p (n : Int) (w : World) : Calls Try.prog 54 #[.int .i64 n] w fun e w' => e = .returned (.int .i64 (kindP n)) ∧ Sub w w' := by
  go_enter Try.func54, Try.ntmps54
  go_wp2_with fail
  refine (shapes_p _).mono ?_
  rintro e w1 ⟨v, rfl, hs, hb⟩
  go_wp2_with fail
  go_loopw [6] (fun i wr => ∃ k : Nat, k ≤ 21 ∧ i = .int .i64 k ∧ NoKind n k ∧ Sub w wr) (fun i _ => 21 - (intOf i).toNat)
  case atStart => exact ⟨0, by omega, rfl, fun j h1 h2 => by omega, hb⟩
  case round =>
    obtain ⟨k, hk, rfl, hno, hsub⟩ := hrel
    by_cases hlt : k < 21
    · obtain ⟨sl, hix, hrd⟩ := shapes_at hs k (by omega)
      obtain ⟨A, m, c, rfl, _⟩ := hrd
      by_cases h1 : 1 < k
      · by_cases h2 : numb k = n
        · have h2' : (numb k == n) = true := by simp [h2]
          have H2 := Lib.hid h2; clear h2
          go_wp2_with fail
          go_ret
          exact ⟨by rw [kindP_hit hno h1 hlt H2.out]; rfl, Sub.al hsub _⟩
        · have h2' : (numb k == n) = false := by simpa using h2
          go_wp2_with fail
          go_roundw
          case rel => exact ⟨k + 1, by omega, by go_num, hno.step fun _ => h2, Sub.al hsub _⟩
          case measure => simp [intOf]; omega
      · go_wp2_with fail
        go_roundw
        case rel => exact ⟨k + 1, by omega, by go_num, hno.step fun h => absurd h h1, Sub.al hsub _⟩
        case measure => simp [intOf]; omega
    · obtain rfl : k = 21 := by omega
      have hz := kindP_none hno
      have Hz := Lib.hid hz; clear hz
      go_wp2_with fail
      go_ret
      exact ⟨by rw [Hz.out]; rfl, hsub⟩

end Go.Proofs.Ytcjmdkklbbollaa
