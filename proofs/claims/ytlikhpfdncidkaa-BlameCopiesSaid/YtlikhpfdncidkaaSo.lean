import Derived.Tactics
set_option linter.unusedSimpArgs false
set_option linter.unusedVariables false
namespace Go.Proofs.Ytlikhpfdncidkaa
section
variable {β : Type}
/-! ## The sorting functions of the library, as functions on lists -/
def swp (d : β) (l : List β) (i j : Nat) : List β := (l.set i (l.getD j d)).set j (l.getD i d)
def insIn (d : β) (c : β → β → Int) (a : Nat) : Nat → List β → List β
  | 0, l => l
  | j + 1, l => if a < j + 1 ∧ c (l.getD (j + 1) d) (l.getD j d) < 0 then insIn d c a j (swp d l (j + 1) j) else l
def insOut (d : β) (c : β → β → Int) (a : Nat) : Nat → Nat → List β → List β
  | 0, _, l => l
  | k + 1, i, l => insOut d c a k (i + 1) (insIn d c a i l)
def insS (d : β) (c : β → β → Int) (a b : Nat) (l : List β) : List β := insOut d c a (b - (a + 1)) (a + 1) l
def bsS (P : Nat → Bool) : Nat → Nat → Nat → Nat
  | 0, i, _ => i
  | n + 1, i, j => if i < j then (if P ((i + j) / 2) then bsS P n ((i + j) / 2 + 1) j else bsS P n i ((i + j) / 2)) else i
def shR (d : β) : Nat → Nat → List β → List β
  | 0, _, l => l
  | n + 1, k, l => shR d n (k + 1) (swp d l k (k + 1))
def shL (d : β) : Nat → Nat → List β → List β
  | 0, _, l => l
  | n + 1, k, l => shL d n (k - 1) (swp d l k (k - 1))
def swr (d : β) (a b : Nat) : Nat → Nat → List β → List β
  | 0, _, l => l
  | k + 1, i, l => swr d a b k (i + 1) (swp d l (a + i) (b + i))
def swR (d : β) (a b n : Nat) (l : List β) : List β := swr d a b n 0 l
/-- n steps at most; m is the middle -/
def rotS (d : β) (m : Nat) : Nat → Nat → Nat → List β → List β
  | 0, i, _, l => swR d (m - i) m i l
  | n + 1, i, j, l => if i = j then swR d (m - i) m i l else if j < i then rotS d m n (i - j) j (swR d (m - i) m j l) else rotS d m n i (j - i) (swR d (m - i) (m + j - i) i l)
def symS (d : β) (c : β → β → Int) : Nat → Nat → Nat → Nat → List β → List β
  | 0, _, _, _, l => l
  | n + 1, a, m, b, l =>
    if m - a = 1 then shR d (bsS (fun h => decide (c (l.getD h d) (l.getD a d) < 0)) (b - m) m b - 1 - a) a l
    else if b - m = 1 then shL d (m - bsS (fun h => !decide (c (l.getD m d) (l.getD h d) < 0)) (m - a) a m) m l
    else
      let mid := (a + b) / 2
      let s0 := if mid < m then mid + m - b else a
      let r0 := if mid < m then mid else m
      let st := bsS (fun h => !decide (c (l.getD (mid + m - 1 - h) d) (l.getD h d) < 0)) (r0 - s0) s0 r0
      let en := mid + m - st
      let l1 := if st < m ∧ m < en then rotS d m (en - st) (m - st) (en - m) l else l
      let l2 := if a < st ∧ st < mid then symS d c n a st mid l1 else l1
      if mid < en ∧ en < b then symS d c n mid en b l2 else l2
/-- blocks of s from a on -/
def insB (d : β) (c : β → β → Int) (s n : Nat) : Nat → Nat → List β → List β
  | 0, a, l => insS d c a n l
  | k + 1, a, l => if a + s ≤ n then insB d c s n k (a + s) (insS d c a (a + s) l) else insS d c a n l
def symB (d : β) (c : β → β → Int) (s n : Nat) : Nat → Nat → List β → List β
  | 0, a, l => if a + s < n then symS d c (n - a) a (a + s) n l else l
  | k + 1, a, l => if a + 2 * s ≤ n then symB d c s n k (a + 2 * s) (symS d c (2 * s) a (a + s) (a + 2 * s) l) else if a + s < n then symS d c (n - a) a (a + s) n l else l
def symA (d : β) (c : β → β → Int) (n : Nat) : Nat → Nat → List β → List β
  | 0, _, l => l
  | k + 1, s, l => if s < n then symA d c n k (2 * s) (symB d c s n n 0 l) else l
def stableS (d : β) (c : β → β → Int) (l : List β) : List β := symA d c l.length l.length 20 (insB d c 20 l.length l.length 0 l)

/-! ### All of them only move -/
/-- Only what lies from a to b has moved. -/
def Mv (a b : Nat) (l l' : List β) : Prop := l'.Perm l ∧ ∀ j, j < a ∨ b ≤ j → l'[j]? = l[j]?
theorem Mv.rfl' {a b : Nat} {l : List β} : Mv a b l l := ⟨.refl _, fun _ _ => rfl⟩
theorem Mv.trans {a b : Nat} {x y z : List β} (h : Mv a b x y) (k : Mv a b y z) : Mv a b x z := ⟨k.1.trans h.1, fun j hj => (k.2 j hj).trans (h.2 j hj)⟩
theorem Mv.wide {a b a' b' : Nat} {x y : List β} (h : Mv a b x y) (ha : a' ≤ a) (hb : b ≤ b') : Mv a' b' x y := ⟨h.1, fun j hj => h.2 j (by omega)⟩
theorem Mv.len {a b : Nat} {x y : List β} (h : Mv a b x y) : y.length = x.length := h.1.length_eq
/-! ### They sort, by an order in which all are different -/
/-- R orders all of l, strictly, and c asks R of those that stand in order of their tags. -/
structure Ords (R : β → β → Prop) (tag : β → Nat) (c : β → β → Int) (l : List β) : Prop where
  tr : ∀ x y z, x ∈ l → y ∈ l → z ∈ l → R x y → R y z → R x z
  ir : ∀ x, x ∈ l → ¬ R x x
  tot : ∀ x y, x ∈ l → y ∈ l → tag x < tag y → ¬ R y x → R x y
  as : ∀ x y, x ∈ l → y ∈ l → tag x < tag y → (c y x < 0 ↔ R y x)
theorem Ords.sub {R : β → β → Prop} {tag : β → Nat} {c : β → β → Int} {l l' : List β} (h : Ords R tag c l) (hs : ∀ x ∈ l', x ∈ l) : Ords R tag c l' :=
  ⟨fun x y z a b e => h.tr x y z (hs x a) (hs y b) (hs z e), fun x a => h.ir x (hs x a), fun x y a b => h.tot x y (hs x a) (hs y b), fun x y a b => h.as x y (hs x a) (hs y b)⟩
end
end Go.Proofs.Ytlikhpfdncidkaa
