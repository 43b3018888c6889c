import Derived.Test.YtibdlnjnomikjaaTl
import Derived.Test.YtibdlnjnomikjaaGk
set_option linter.unusedSimpArgs false
set_option linter.unusedVariables false
namespace Go.Proofs.Ytibdlnjnomikjaa
open Go.RowKit

/-! ## Tiers in plain words: rows of trackers -/
abbrev PlT : Type := Nat × Nat × Tk
def flatRT (i : Nat) : Nat → List Tk → List PlT
  | _, [] => []
  | k, x :: l => (i, k, x) :: flatRT i (k + 1) l
def flatT : Nat → List (List Tk) → List PlT
  | _, [] => []
  | i, r :: rs => flatRT i 0 r ++ flatT (i + 1) rs
theorem flatRT_app (i : Nat) : ∀ (l m : List Tk) (k : Nat), flatRT i k (l ++ m) = flatRT i k l ++ flatRT i (k + l.length) m
  | [], m, k => rfl
  | y :: l, m, k => by
    simp only [List.cons_append, flatRT, flatRT_app i l m (k + 1), List.length_cons]
    rw [show k + 1 + l.length = k + (l.length + 1) from by omega]
theorem flatT_app : ∀ (a b : List (List Tk)) (i : Nat), flatT i (a ++ b) = flatT i a ++ flatT (i + a.length) b
  | [], b, i => rfl
  | r :: a, b, i => by
    simp only [List.cons_append, flatT, flatT_app a b (i + 1), List.length_cons, List.append_assoc]
    rw [show i + 1 + a.length = i + (a.length + 1) from by omega]
/-- All places before row i, and the first k of row i. -/
def uptoT (ls : List (List Tk)) (i : Nat) (l : List Tk) (k : Nat) : List PlT := flatT 0 (ls.take i) ++ flatRT i 0 (l.take k)
theorem uptoT_next {ls : List (List Tk)} {i k : Nat} {l : List Tk} {x : Tk} (h : l[k]? = some x) : uptoT ls i l (k + 1) = uptoT ls i l k ++ [(i, k, x)] := by
  unfold uptoT
  have hk : k ≤ l.length := by have := (List.getElem?_eq_some_iff.1 h).1; omega
  rw [take_snoc h, flatRT_app, List.length_take, Nat.min_eq_left hk, Nat.zero_add, List.append_assoc]; rfl
theorem uptoT_zero (ls : List (List Tk)) (i : Nat) (l : List Tk) : uptoT ls i l 0 = flatT 0 (ls.take i) := by unfold uptoT; simp [flatRT]
theorem uptoT_row {ls : List (List Tk)} {i : Nat} {l : List Tk} (h : ls[i]? = some l) : flatT 0 (ls.take (i + 1)) = uptoT ls i l l.length := by
  unfold uptoT
  have hi := (List.getElem?_eq_some_iff.1 h).1
  rw [take_snoc h, flatT_app, List.length_take, Nat.min_eq_left (Nat.le_of_lt hi), List.take_length]
  simp [flatT]
theorem flatT_split {ls : List (List Tk)} {i k : Nat} {l : List Tk} {x : Tk} (h : ls[i]? = some l) (hx : l[k]? = some x) : flatT 0 ls = uptoT ls i l k ++ (i, k, x) :: (flatRT i (k + 1) (l.drop (k + 1)) ++ flatT (i + 1) (ls.drop (i + 1))) := by
  obtain ⟨hi, hil⟩ := List.getElem?_eq_some_iff.1 h
  obtain ⟨hk, hkl⟩ := List.getElem?_eq_some_iff.1 hx
  have e1 : ls = ls.take i ++ l :: ls.drop (i + 1) := by
    conv => lhs; rw [← List.take_append_drop i ls]
    rw [List.drop_eq_getElem_cons hi, hil]
  have e2 : l = l.take k ++ x :: l.drop (k + 1) := by
    conv => lhs; rw [← List.take_append_drop k l]
    rw [List.drop_eq_getElem_cons hk, hkl]
  have e3 : flatRT i 0 l = flatRT i 0 (l.take k) ++ (i, k, x) :: flatRT i (k + 1) (l.drop (k + 1)) := by
    conv => lhs; rw [e2]
    rw [flatRT_app, List.length_take, Nat.min_eq_left (Nat.le_of_lt hk), Nat.zero_add]; rfl
  conv => lhs; rw [e1]
  rw [flatT_app, List.length_take, Nat.min_eq_left (Nat.le_of_lt hi), Nat.zero_add]
  show flatT 0 (ls.take i) ++ (flatRT i 0 l ++ flatT (i + 1) (ls.drop (i + 1))) = _
  rw [e3]; unfold uptoT; simp
theorem flatT_mem {ls : List (List Tk)} {i k : Nat} {l : List Tk} {x : Tk} (h : ls[i]? = some l) (hx : l[k]? = some x) : (i, k, x) ∈ flatT 0 ls := by
  rw [flatT_split h hx]; simp
theorem mem_flatRT {i : Nat} : ∀ {l : List Tk} {k : Nat} {p : PlT}, p ∈ flatRT i k l ↔ p.1 = i ∧ k ≤ p.2.1 ∧ l[p.2.1 - k]? = some p.2.2
  | [], k, p => by simp [flatRT]
  | x :: l, k, p => by
    simp only [flatRT, List.mem_cons, mem_flatRT (l := l)]
    obtain ⟨a, b, c⟩ := p
    simp only [Prod.mk.injEq]
    constructor
    · rintro (⟨rfl, rfl, rfl⟩ | ⟨rfl, h1, h2⟩)
      · simp
      · refine ⟨rfl, by omega, ?_⟩
        rw [show b - k = (b - (k + 1)) + 1 from by omega, List.getElem?_cons_succ]; exact h2
    · rintro ⟨rfl, h1, h2⟩
      by_cases h : b = k
      · subst h
        rw [Nat.sub_self] at h2
        simp only [List.getElem?_cons_zero, Option.some.injEq] at h2
        exact .inl ⟨rfl, rfl, h2.symm⟩
      · refine .inr ⟨rfl, by omega, ?_⟩
        rw [show b - k = (b - (k + 1)) + 1 from by omega, List.getElem?_cons_succ] at h2; exact h2
theorem mem_flatT : ∀ {ls : List (List Tk)} {i : Nat} {p : PlT}, p ∈ flatT i ls ↔ i ≤ p.1 ∧ ∃ r, ls[p.1 - i]? = some r ∧ r[p.2.1]? = some p.2.2
  | [], i, p => by simp [flatT]
  | r :: ls, i, p => by
    simp only [flatT, List.mem_append, mem_flatRT, mem_flatT (ls := ls)]
    obtain ⟨a, b, c⟩ := p
    simp only [Nat.zero_le, Nat.sub_zero, true_and]
    constructor
    · rintro (⟨rfl, h⟩ | ⟨h1, r', h2, h3⟩)
      · exact ⟨Nat.le_refl _, r, by simp, h⟩
      · refine ⟨by omega, r', ?_, h3⟩
        rw [show a - i = (a - (i + 1)) + 1 from by omega, List.getElem?_cons_succ]; exact h2
    · rintro ⟨h1, r', h2, h3⟩
      by_cases h : a = i
      · subst h
        rw [Nat.sub_self, List.getElem?_cons_zero] at h2
        cases h2
        exact .inl ⟨rfl, h3⟩
      · refine .inr ⟨by omega, r', ?_, h3⟩
        rw [show a - i = (a - (i + 1)) + 1 from by omega, List.getElem?_cons_succ] at h2; exact h2
theorem flatRT_map (tk : Nat → Tk) (i : Nat) : ∀ (l : List Nat) (k : Nat), flatRT i k (l.map tk) = (flatR i k l).map fun p => (p.1, p.2.1, tk p.2.2)
  | [], k => rfl
  | x :: l, k => by simp only [List.map_cons, flatRT, flatR, flatRT_map tk i l (k + 1)]
theorem flatT_map (tk : Nat → Tk) : ∀ (ls : List (List Nat)) (i : Nat), flatT i (ls.map fun l => l.map tk) = (flatF i ls).map fun p => (p.1, p.2.1, tk p.2.2)
  | [], i => rfl
  | l :: ls, i => by simp only [List.map_cons, flatT, flatF, flatRT_map, flatT_map tk ls (i + 1), List.map_append]
/-- The first place of which something is true. -/
theorem find_at {f : Tk → Bool} {ls : List (List Tk)} {i k : Nat} {l : List Tk} {x : Tk} (h : ls[i]? = some l) (hx : l[k]? = some x) (hno : ∀ p ∈ uptoT ls i l k, f p.2.2 = false) (hf : f x = true) : (flatT 0 ls).find? (fun p => f p.2.2) = some (i, k, x) := by
  rw [flatT_split h hx, List.find?_append]
  have h1 : (uptoT ls i l k).find? (fun p => f p.2.2) = none := List.find?_eq_none.2 fun p hp => by rw [hno p hp]; simp
  rw [h1]; simp [hf]
theorem find_no {f : Tk → Bool} {ls : List (List Tk)} (hno : ∀ p ∈ flatT 0 ls, f p.2.2 = false) : (flatT 0 ls).find? (fun p => f p.2.2) = none := List.find?_eq_none.2 fun p hp => by rw [hno p hp]; simp
theorem upto_step {f : Tk → Bool} {ls : List (List Tk)} {i k : Nat} {l : List Tk} {x : Tk} (hx : l[k]? = some x) (hno : ∀ p ∈ uptoT ls i l k, f p.2.2 = false) (hf : f x = false) : ∀ p ∈ uptoT ls i l (k + 1), f p.2.2 = false := fun p hp => by
  rw [uptoT_next hx] at hp
  rcases List.mem_append.1 hp with hp | hp
  · exact hno p hp
  · rw [List.mem_singleton] at hp; subst hp; exact hf
theorem upto_row {f : Tk → Bool} {ls : List (List Tk)} {i k : Nat} {l : List Tk} (h : ls[i]? = some l) (hk : l.length ≤ k) (hno : ∀ p ∈ uptoT ls i l k, f p.2.2 = false) : ∀ p ∈ flatT 0 (ls.take (i + 1)), f p.2.2 = false := fun p hp => by
  rw [uptoT_row h] at hp
  have e : uptoT ls i l k = uptoT ls i l l.length := by unfold uptoT; rw [List.take_of_length_le hk, List.take_length]
  exact hno p (by rw [e]; exact hp)
/-! ## What the rules say -/
@[ext] structure PS where
  T : List (List Tk)
  now : Int
  cur : Option (ByteArray × Int)
  til : Int
  beg : Bool
  whole : Bool
  dn : Bool
  stp : Bool
def PS.ev (A : PS) : Int := evS A.beg A.dn A.stp
def PS.find (A : PS) (n : Int) : Option PlT := (flatT 0 A.T).find? fun p => okS A.ev A.til n p.2.2
def PS.place (A : PS) (s : ByteArray) : Option PlT := (flatT 0 A.T).find? fun p => decide (p.2.2.name = s)
def nextE (A : PS) (n : Int) : Int := if tellS A.now n ≠ 0 then 7 else if A.cur.isSome = true then 9 else if A.find n = none then 8 else 0
def nextV (A : PS) (n : Int) : Int × Int × Int × Int := if nextE A n = 0 then (match A.find n with | some p => ((p.1 : Int), (p.2.1 : Int), n, A.ev) | none => (0, 0, 0, 0)) else (0, 0, 0, 0)
def nextA (A : PS) (n : Int) : PS := if nextE A n = 0 then (match A.find n with | some p => { A with now := n, cur := some (p.2.2.name, A.ev) } | none => A) else A
def whenS (ev til m : Int) (p : PlT) : Int := if (freeS ev til p.2.2).2 = true ∧ (m < 0 ∨ (freeS ev til p.2.2).1 < m) then (freeS ev til p.2.2).1 else m
def PS.least (A : PS) : Int := (flatT 0 A.T).foldl (whenS A.ev A.til) (-1)
def whenE (A : PS) (n : Int) : Int := if tellS A.now n ≠ 0 then 7 else if A.cur.isSome = true then 9 else if A.least < 0 ∨ 1000000000 < A.least then 8 else 0
def whenV (A : PS) (n : Int) : Int := if whenE A n = 0 then max A.least n else 0
def whenA (A : PS) (n : Int) : PS := if whenE A n = 0 then { A with now := n } else A
def frontP (T : List (List Tk)) (i k : Nat) (x : Tk) : List (List Tk) := T.set i (x :: (T.getD i []).eraseIdx k)
def setP (T : List (List Tk)) (i k : Nat) (x : Tk) : List (List Tk) := T.set i ((T.getD i []).set k x)
def answerE (A : PS) (n iv : Int) : Int := if iv < 1 ∨ 100000000 < iv then 7 else if tellS A.now n ≠ 0 then 7 else if A.cur = none then 8 else 0
def ansT (ev : Int) (x : Tk) : Tk := if ev = 2 then ⟨x.name, 0, 0, x.ans, true⟩ else ⟨x.name, 0, 0, true, false⟩
def answerA (A : PS) (n iv : Int) : PS :=
  if answerE A n iv = 0 then (match A.cur with
    | some c => (match A.place c.1 with
      | some p => { A with T := frontP A.T p.1 p.2.1 (ansT c.2 p.2.2), now := n, cur := none, til := if c.2 = 2 then A.til else n + iv, beg := A.beg || decide (c.2 = 1), dn := A.dn && !decide (c.2 = 3) }
      | none => A)
    | none => A) else A
def failE (A : PS) (n : Int) : Int := if tellS A.now n ≠ 0 then 7 else if A.cur = none then 8 else 0
def failT (ev n : Int) (x : Tk) : Tk := ⟨x.name, x.failed + 1, n + waitS (x.failed + 1), x.ans, x.told || decide (ev = 2)⟩
def failA (A : PS) (n : Int) : PS :=
  if failE A n = 0 then (match A.cur with
    | some c => (match A.place c.1 with
      | some p => { A with T := setP A.T p.1 p.2.1 (failT c.2 n p.2.2), now := n, cur := none }
      | none => A)
    | none => A) else A
def doneE (A : PS) : Int := if A.whole = true then 9 else 0
def doneA (A : PS) : PS := if A.whole = true then A else { A with whole := true, dn := true }
def stopE (A : PS) : Int := if A.stp = true then 9 else 0
def stopA (A : PS) : PS := { A with stp := true }
def startE (A : PS) : Int := if A.stp = true then 0 else 9
def startA (A : PS) : PS := if A.stp = true then { A with stp := false, beg := false, til := 0, dn := false, T := A.T.map fun l => l.map zeroT } else A
def orderE (A : PS) (i : Int) : Int := if i < 0 ∨ (A.T.length : Int) ≤ i then 7 else 0
def orderV (A : PS) (i : Int) : List ByteArray := if orderE A i = 0 then (A.T.getD i.toNat []).map Tk.name else []
def failedE (A : PS) (s : ByteArray) : Int := if textS s = false then 1 else if A.place s = none then 5 else 0
def failedV (A : PS) (s : ByteArray) : Int := if failedE A s = 0 then (match A.place s with | some p => p.2.2.failed | none => 0) else 0
def addE (A : PS) (i : Int) (s : ByteArray) : Int :=
  if textS s = false then 1 else if i < 0 ∨ (A.T.length : Int) < i then 7 else if A.place s ≠ none then 6 else if i = 20 ∨ (i < A.T.length ∧ (A.T.getD i.toNat []).length = 20) then 4 else 0
def newTk (s : ByteArray) : Tk := ⟨s, 0, 0, false, false⟩
def addA (A : PS) (i : Int) (s : ByteArray) : PS :=
  if addE A i s = 0 then { A with T := if i = A.T.length then A.T ++ [[newTk s]] else A.T.set i.toNat (A.T.getD i.toNat [] ++ [newTk s]) } else A
end Go.Proofs.Ytibdlnjnomikjaa
