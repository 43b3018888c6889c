import Derived.Test.YtibdlnjnomikjaaFj
import Derived.Test.YtibdlnjnomikjaaProg
namespace Go.Proofs.Ytibdlnjnomikjaa
open Go.RowKit Go.Deep

/-! Tables of types, each held once against the program. -/
def lk1 (k : Nat) : List (Nat × Nat) → Option Nat
  | [] => none
  | (a, b) :: r => bif Nat.beq a k then some b else lk1 k r
def lk2 (k i : Nat) : List (Nat × Nat × Nat) → Option Nat
  | [] => none
  | (a, b, c) :: r => bif Nat.beq a k && Nat.beq b i then some c else lk2 k i r
def unL : List (Nat × Nat) := [(3, 0), (4, 0), (5, 0), (9, 0), (26, 0), (27, 0), (37, 0), (58, 0), (59, 0), (62, 0), (68, 0), (82, 0), (85, 0), (111, 0), (140, 0)]
def szL : List (Nat × Nat) := [(3, 1), (4, 1), (5, 1), (9, 1), (26, 1), (27, 1), (34, 4), (37, 1), (52, 5), (58, 1), (59, 1), (61, 2), (62, 1), (64, 10), (68, 1), (71, 5), (82, 1), (84, 10), (85, 1), (87, 5), (95, 4), (111, 1), (117, 4), (119, 4), (122, 5), (140, 1)]
def foL : List (Nat × Nat × Nat) := [(34, 0, 0), (34, 1, 1), (34, 2, 2), (34, 3, 3), (52, 0, 0), (52, 1, 1), (52, 2, 2), (52, 3, 3), (52, 4, 4), (61, 0, 0), (61, 1, 1), (64, 0, 0), (64, 1, 2), (64, 2, 3), (64, 3, 4), (64, 4, 5), (64, 5, 6), (64, 6, 7), (64, 7, 8), (64, 8, 9), (71, 0, 0), (71, 1, 1), (71, 2, 2), (71, 3, 3), (71, 4, 4), (84, 0, 0), (84, 1, 1), (84, 2, 2), (84, 3, 3), (84, 4, 4), (84, 5, 5), (84, 6, 6), (84, 7, 7), (84, 8, 8), (84, 9, 9), (87, 0, 0), (87, 1, 1), (87, 2, 2), (87, 3, 3), (87, 4, 4), (119, 0, 0), (122, 0, 0), (122, 1, 4)]
def isO (o : Option Nat) (n : Nat) : Bool := match o with
  | some m => Nat.beq m n
  | none => false
theorem isO_eq {o : Option Nat} {n : Nat} (h : isO o n = true) : o = some n := by
  cases o with
  | none => exact absurd h (by simp [isO])
  | some m => exact congrArg some (Nat.eq_of_beq_eq_true h)
theorem lk1_of {k n : Nat} {Q : Nat → Nat → Bool} : ∀ {l : List (Nat × Nat)}, l.all (fun e => Q e.1 e.2) = true → lk1 k l = some n → Q k n = true
  | [], _, h => absurd h (by simp [lk1])
  | (a, b) :: r, h, hk => by
    rw [List.all_cons, Bool.and_eq_true] at h
    unfold lk1 at hk
    cases e : Nat.beq a k with
    | false => rw [e] at hk; exact lk1_of h.2 hk
    | true =>
      rw [e] at hk
      cases hk
      have := Nat.eq_of_beq_eq_true e
      subst this
      exact h.1
theorem lk2_of {k i n : Nat} {Q : Nat → Nat → Nat → Bool} : ∀ {l : List (Nat × Nat × Nat)}, l.all (fun e => Q e.1 e.2.1 e.2.2) = true → lk2 k i l = some n → Q k i n = true
  | [], _, h => absurd h (by simp [lk2])
  | (a, b, c) :: r, h, hk => by
    rw [List.all_cons, Bool.and_eq_true] at h
    unfold lk2 at hk
    cases e : (Nat.beq a k && Nat.beq b i) with
    | false => rw [e] at hk; exact lk2_of h.2 hk
    | true =>
      rw [e] at hk
      cases hk
      rw [Bool.and_eq_true] at e
      have h1 := Nat.eq_of_beq_eq_true e.1
      have h2 := Nat.eq_of_beq_eq_true e.2
      subst h1 h2
      exact h.1
theorem unB_all : unL.all (fun e => (Try.prog.underlying e.1).elim false fun d => !(aggB d)) = true := by kernel_rfl
theorem szB_all : szL.all (fun e => isO (szO Try.prog e.1) e.2) = true := by kernel_rfl
theorem foB_all : foL.all (fun e => isO (foO Try.prog e.1 e.2.1) e.2.2) = true := by kernel_rfl
theorem unT {t : Nat} (h : lk1 t unL = some 0) : ∃ d, Try.prog.underlying t = some d ∧ aggB d = false := by
  have h1 : ((Try.prog.underlying t).elim false fun d => !(aggB d)) = true := lk1_of (Q := fun a _ => (Try.prog.underlying a).elim false fun d => !(aggB d)) unB_all h
  cases e : Try.prog.underlying t with
  | none => rw [e] at h1; cases h1
  | some d => rw [e] at h1; exact ⟨d, rfl, by simpa using h1⟩
theorem szT {t n : Nat} (h : lk1 t szL = some n) : szO Try.prog t = some n := isO_eq (lk1_of (Q := fun a b => isO (szO Try.prog a) b) szB_all h)
theorem foT {s i n : Nat} (h : lk2 s i foL = some n) : foO Try.prog s i = some n := isO_eq (lk2_of (Q := fun a b c => isO (foO Try.prog a b) c) foB_all h)
end Go.Proofs.Ytibdlnjnomikjaa
