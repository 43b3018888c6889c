import Derived.Test.YtlajgickimgigaaEng
set_option linter.unusedSimpArgs false
set_option linter.unusedVariables false
namespace Go.Proofs.Ytlajgickimgigaa
open Go.RowKit

/-! ## What holds of the memory: a list of items that share no block -/
structure Same (fp : Nat → Prop) (w w' : World) : Prop where
  os : w'.os = w.os
  tape : w'.tape = w.tape
  output : w'.output = w.output
  size : w.heap.size ≤ w'.heap.size
  block : ∀ g, fp g → w'.heap[g]? = w.heap[g]?
theorem Same.rfl' {fp : Nat → Prop} {w : World} : Same fp w w := ⟨rfl, rfl, rfl, Nat.le_refl _, fun _ _ => rfl⟩
theorem Same.trans {fp : Nat → Prop} {a b c : World} (h : Same fp a b) (k : Same fp b c) : Same fp a c :=
  ⟨k.os.trans h.os, k.tape.trans h.tape, k.output.trans h.output, Nat.le_trans h.size k.size, fun g hg => (k.block g hg).trans (h.block g hg)⟩
theorem Same.less {fp fp' : Nat → Prop} {a b : World} (h : Same fp a b) (k : ∀ g, fp' g → fp g) : Same fp' a b :=
  ⟨h.os, h.tape, h.output, h.size, fun g hg => h.block g (k g hg)⟩
structure Item where
  fp : Nat → Prop
  ok : World → Prop
  loc : ∀ {w w'}, Same fp w w' → ok w → ok w'
def S (w : World) (L : List Item) : Prop := (∀ it ∈ L, it.ok w ∧ ∀ g, it.fp g → g < w.heap.size) ∧ L.Pairwise (fun a b => ∀ g, a.fp g → ¬ b.fp g)
/-- Block g is just this object. -/
def Ob (g : Nat) (o : Obj) : Item := ⟨fun k => k = g, fun w => w.heap[g]? = some o, fun h k => (h.block g rfl).trans k⟩
/-- The world is as w0 was, but for the blocks of X and new ones. -/
def Old (w0 : World) (X : Nat → Prop) : Item :=
  ⟨fun g => g < w0.heap.size ∧ ¬ X g, fun w => Same (fun g => g < w0.heap.size ∧ ¬ X g) w0 w, fun h k => k.trans h⟩
abbrev no : Nat → Prop := fun _ => False
theorem S.nil (w : World) : S w [] := ⟨fun _ h => (by cases h), .nil⟩
theorem S.at {w : World} {L : List Item} (h : S w L) {k : Nat} {it : Item} (hk : L[k]? = some it) : it.ok w := (h.1 it (List.mem_of_getElem? hk)).1
theorem S.lt {w : World} {L : List Item} (h : S w L) {k : Nat} {it : Item} (hk : L[k]? = some it) {g : Nat} (hg : it.fp g) : g < w.heap.size := (h.1 it (List.mem_of_getElem? hk)).2 g hg
theorem S.ob {w : World} {L : List Item} (h : S w L) {k g : Nat} {o : Obj} (hk : L[k]? = some (Ob g o)) : w.heap[g]? = some o := h.at hk
theorem S.move {w w' : World} {L : List Item} (h : S w L) (hs : Same (fun g => g < w.heap.size) w w') : S w' L :=
  ⟨fun it hit => ⟨it.loc (hs.less fun g hg => (h.1 it hit).2 g hg) (h.1 it hit).1, fun g hg => Nat.lt_of_lt_of_le ((h.1 it hit).2 g hg) hs.size⟩, h.2⟩
theorem S.old (w : World) : S w [Old w no] := ⟨fun it h => by
  rw [List.mem_singleton] at h
  subst h
  exact ⟨Same.rfl', fun g hg => hg.1⟩, List.pairwise_singleton _ _⟩
theorem S.cons {w : World} {L : List Item} {it : Item} (h : S w L) (hi : it.ok w) (hl : ∀ g, it.fp g → g < w.heap.size) (hd : ∀ x ∈ L, ∀ g, it.fp g → ¬ x.fp g) : S w (it :: L) :=
  ⟨fun x hx => by
    rcases List.mem_cons.1 hx with rfl | hx
    · exact ⟨hi, hl⟩
    · exact h.1 x hx, List.pairwise_cons.2 ⟨hd, h.2⟩⟩
theorem S.tail {w : World} {L : List Item} {it : Item} (h : S w (it :: L)) : S w L := ⟨fun x hx => h.1 x (List.mem_cons_of_mem _ hx), (List.pairwise_cons.1 h.2).2⟩
theorem S.head {w : World} {L : List Item} {it : Item} (h : S w (it :: L)) : it.ok w ∧ (∀ g, it.fp g → g < w.heap.size) ∧ ∀ x ∈ L, ∀ g, it.fp g → ¬ x.fp g :=
  ⟨(h.1 it (List.mem_cons_self ..)).1, (h.1 it (List.mem_cons_self ..)).2, (List.pairwise_cons.1 h.2).1⟩
/-- One item is opened: what it says is said by others, of its own blocks. -/
theorem S.sublist {w : World} {L L' : List Item} (h : S w L) (hs : L'.Sublist L) : S w L' := ⟨fun it hit => h.1 it (hs.subset hit), h.2.sublist hs⟩
theorem S.perm {w : World} {L L' : List Item} (h : S w L) (hp : L.Perm L') : S w L' :=
  ⟨fun it hit => h.1 it (hp.mem_iff.2 hit), (hp.pairwise_iff (fun {a b} hab g hb ha => hab g ha hb)).1 h.2⟩
/-- A new block. -/
theorem S.alloc {w : World} {L : List Item} (h : S w L) (o : Obj) : S (w.alloc o) (Ob w.heap.size o :: L) := by
  have hs : Same (fun g => g < w.heap.size) w (w.alloc o) := ⟨rfl, rfl, rfl, by simp, fun g hg => Below.heap_alloc _ _ _ hg⟩
  refine (h.move hs).cons ?_ ?_ ?_
  · exact heap_alloc_new w o
  · intro g hg; cases hg; simp
  · intro x hx g hg hx'; cases hg
    exact absurd ((h.1 x hx).2 _ hx') (Nat.lt_irrefl _)
theorem S.drew {w : World} {L : List Item} (h : S w L) : S w.drew L := h.move ⟨rfl, rfl, rfl, Nat.le_refl _, fun _ _ => rfl⟩
theorem S.drawn {w : World} {L : List Item} (h : S w L) (n : Nat) : S { w with drawn := n } L := h.move ⟨rfl, rfl, rfl, Nat.le_refl _, fun _ _ => rfl⟩
theorem mem_set' {L : List Item} {k : Nat} {x y : Item} (h : y ∈ L.set k x) : y = x ∨ ∃ j, j ≠ k ∧ L[j]? = some y := by
  obtain ⟨j, hj⟩ := List.getElem?_of_mem h
  rw [List.getElem?_set] at hj
  split at hj
  · split at hj
    · simp at hj; exact .inl hj.symm
    · cases hj
  · rename_i hne
    exact .inr ⟨j, fun e => hne e.symm, hj⟩
theorem pair_of {L : List Item} (h : L.Pairwise (fun a b => ∀ g, a.fp g → ¬ b.fp g)) {i j : Nat} {x y : Item} (hi : L[i]? = some x) (hj : L[j]? = some y) (hne : i ≠ j) (g : Nat) (hg : x.fp g) : ¬ y.fp g := by
  obtain ⟨hi1, rfl⟩ := List.getElem?_eq_some_iff.1 hi
  obtain ⟨hj1, rfl⟩ := List.getElem?_eq_some_iff.1 hj
  rcases Nat.lt_or_gt_of_ne hne with hlt | hlt
  · exact List.pairwise_iff_getElem.1 h i j hi1 hj1 hlt g hg
  · exact fun hy => List.pairwise_iff_getElem.1 h j i hj1 hi1 hlt g hy hg
/-- Item number k turns; all else stays. -/
theorem S.turn {w w' : World} {L : List Item} (h : S w L) {k : Nat} {it it' : Item} (hk : L[k]? = some it) (hs : Same (fun g => g < w.heap.size ∧ ¬ it.fp g) w w')
    (hok : it'.ok w') (hfp : ∀ g, it'.fp g → (it.fp g ∨ w.heap.size ≤ g) ∧ g < w'.heap.size) : S w' (L.set k it') := by
  have hk1 : k < L.length := (List.getElem?_eq_some_iff.1 hk).1
  refine ⟨fun x hx => ?_, ?_⟩
  · rcases mem_set' hx with rfl | ⟨j, hj, hx⟩
    · exact ⟨hok, fun g hg => (hfp g hg).2⟩
    · have hx' := h.1 x (List.mem_of_getElem? hx)
      refine ⟨x.loc (hs.less fun g hg => ⟨hx'.2 g hg, fun hi => pair_of h.2 hx hk hj g hg hi⟩) hx'.1, fun g hg => Nat.lt_of_lt_of_le (hx'.2 g hg) hs.size⟩
  · rw [List.pairwise_iff_getElem]
    intro i j hi hj hlt g hg hg'
    have hi' : i < L.length := by simpa using hi
    have hj' : j < L.length := by simpa using hj
    have e1 : ∀ n (hn : n < L.length), n ≠ k → ((L.set k it')[n]'(by simpa using hn)) = L[n] := fun n hn hne => by
      rw [List.getElem_set]; rw [if_neg (fun e => hne e.symm)]
    have far : ∀ n (hn : n < L.length), n ≠ k → ∀ g, L[n].fp g → ¬ it'.fp g := fun n hn hne g h1 h2 => by
      have hx' := h.1 L[n] (List.getElem_mem hn)
      rcases (hfp g h2).1 with h3 | h3
      · exact pair_of h.2 (List.getElem?_eq_getElem hn) hk hne g h1 h3
      · have := hx'.2 g h1; omega
    by_cases hik : i = k
    · subst hik
      rw [e1 j hj' (by omega)] at hg'
      rw [List.getElem_set_self] at hg
      exact far j hj' (by omega) g hg' hg
    · rw [e1 i hi' hik] at hg
      by_cases hjk : j = k
      · subst hjk
        rw [List.getElem_set_self] at hg'
        exact far i hi' hik g hg hg'
      · rw [e1 j hj' hjk] at hg'
        exact List.pairwise_iff_getElem.1 h.2 i j hi' hj' hlt g hg hg'
/-- A block is written. -/
theorem S.write {w w' : World} {L : List Item} (h : S w L) {k g : Nat} {o o' : Obj} (hk : L[k]? = some (Ob g o)) (hs : Same (fun i => i ≠ g) w w') (ho : w'.heap[g]? = some o') : S w' (L.set k (Ob g o')) :=
  h.turn hk (hs.less fun i hi => hi.2) ho fun i hi => by
    cases hi
    exact ⟨.inl rfl, Nat.lt_of_lt_of_le (h.lt hk rfl) hs.size⟩
theorem same_setCell (w : World) (g i : Nat) (v : Value) : Same (fun k => k ≠ g) w (w.setCell ⟨g, i, none⟩ v) :=
  ⟨rfl, rfl, rfl, by simp [World.setCell], fun k hk => Below.heap_setCell _ _ _ _ hk⟩
theorem same_setRow (w : World) (g : Nat) (cs : Array Value) : Same (fun k => k ≠ g) w (w.setRow g cs) :=
  ⟨rfl, rfl, rfl, by simp [World.setRow], fun k hk => by
    simp only [World.setRow, Array.getElem?_modify]; rw [if_neg (fun e => hk e.symm)]⟩
theorem S.cell {w : World} {L : List Item} (h : S w L) {k g i : Nat} {cs : Array Value} {t : TypeId} {fr : Nat × Nat} {v : Value} (hk : L[k]? = some (Ob g (.cells cs t fr))) (hv : cs[i]? = some v) : w.cell? ⟨g, i, none⟩ = some v :=
  (cell_of_row w g i cs t fr (h.ob hk)).trans hv
theorem S.setCell {w : World} {L : List Item} (h : S w L) {k g i : Nat} {cs : Array Value} {t : TypeId} (hk : L[k]? = some (Ob g (.cells cs t (0, 0)))) (v : Value) :
    S (w.setCell ⟨g, i, none⟩ v) (L.set k (Ob g (.cells (cs.setIfInBounds i v) t (0, 0)))) :=
  h.write hk (same_setCell w g i v) (by
    have := h.ob hk
    simp [World.setCell, Array.getElem?_modify, this])
theorem S.setRow {w : World} {L : List Item} (h : S w L) {k g : Nat} {cs : Array Value} {t : TypeId} (hk : L[k]? = some (Ob g (.cells cs t (0, 0)))) (cs' : Array Value) :
    S (w.setRow g cs') (L.set k (Ob g (.cells cs' t (0, 0)))) :=
  h.write hk (same_setRow w g cs') (by
    have := h.ob hk
    simp [World.setRow, Array.getElem?_modify, this])
/-- Old memory: a block that was there when the call began. -/
theorem S.oldBlock {w w0 : World} {L : List Item} {X : Nat → Prop} (h : S w L) {k : Nat} (hk : L[k]? = some (Old w0 X)) {g : Nat} (hg : g < w0.heap.size) (hX : ¬ X g) : w.heap[g]? = w0.heap[g]? :=
  (show Same _ w0 w from h.at hk).block g ⟨hg, hX⟩
theorem S.oldCell {w w0 : World} {L : List Item} {X : Nat → Prop} (h : S w L) {k : Nat} (hk : L[k]? = some (Old w0 X)) {p : Addr} {v : Value} (hv : w0.cell? p = some v) (hX : ¬ X p.block) : w.cell? p = some v := by
  have hlt : p.block < w0.heap.size := by
    unfold World.cell? at hv
    split at hv
    · rename_i h1; exact (Array.getElem?_eq_some_iff.1 h1).1
    · cases hv
  rw [World.cell?_of_block (h.oldBlock hk hlt hX)]; exact hv
/-- A call that leaves what there was: what it made stands in front. -/
theorem S.absorb {w w1 : World} {L new : List Item} (h : S w L) (h1 : S w1 (new ++ [Old w no])) : S w1 (new ++ L) := by
  have hold : Same (fun g => g < w.heap.size ∧ ¬ no g) w w1 := (h1.1 (Old w no) (by simp)).1
  have hL : S w1 L := h.move (hold.less fun g hg => ⟨hg, id⟩)
  refine ⟨fun it hit => ?_, ?_⟩
  · rcases List.mem_append.1 hit with hit | hit
    · exact h1.1 it (List.mem_append_left _ hit)
    · exact hL.1 it hit
  · have hp := List.pairwise_append.1 h1.2
    refine List.pairwise_append.2 ⟨hp.1, hL.2, fun a ha b hb g hga hgb => ?_⟩
    exact hp.2.2 a ha (Old w no) (by simp) g hga ⟨(h.1 b hb).2 g hgb, id⟩
/-- A call that may have turned the blocks of X: what it leaves of them and made stands in front of those items that have none of X. -/
theorem S.absorbX {w w1 : World} {L L' new : List Item} {X : Nat → Prop} (h : S w L) (hs : L'.Sublist L) (hX : ∀ it ∈ L', ∀ g, it.fp g → ¬ X g) (h1 : S w1 (new ++ [Old w X])) : S w1 (new ++ L') := by
  have hold : Same (fun g => g < w.heap.size ∧ ¬ X g) w w1 := (h1.1 (Old w X) (by simp)).1
  have h' := h.sublist hs
  have hL : S w1 L' := ⟨fun it hit => ⟨it.loc (hold.less fun g hg => ⟨(h'.1 it hit).2 g hg, hX it hit g hg⟩) (h'.1 it hit).1, fun g hg => Nat.lt_of_lt_of_le ((h'.1 it hit).2 g hg) hold.size⟩, h'.2⟩
  refine ⟨fun it hit => ?_, ?_⟩
  · rcases List.mem_append.1 hit with hit | hit
    · exact h1.1 it (List.mem_append_left _ hit)
    · exact hL.1 it hit
  · have hp := List.pairwise_append.1 h1.2
    refine List.pairwise_append.2 ⟨hp.1, hL.2, fun a ha b hb g hga hgb => ?_⟩
    exact hp.2.2 a ha (Old w X) (by simp) g hga ⟨(h'.1 b hb).2 g hgb, hX b hb g hgb⟩
/-- The block of item k alone may have turned. -/
theorem S.absorb1 {w w1 : World} {L new : List Item} {g : Nat} {o : Obj} (h : S w L) (k : Nat) (hk : L[k]? = some (Ob g o)) (h1 : S w1 (new ++ [Old w (fun i => i = g)])) : S w1 (new ++ L.eraseIdx k) := by
  refine h.absorbX (List.eraseIdx_sublist ..) (fun it hit i hi e => ?_) h1
  cases e
  obtain ⟨j, hj⟩ := List.getElem?_of_mem hit
  rw [List.getElem?_eraseIdx] at hj
  split at hj
  · exact pair_of h.2 hj hk (by omega) g hi rfl
  · exact pair_of h.2 hj hk (by omega) g hi rfl
/-- To begin: the whole world, of which some blocks are told. -/
theorem S.begin1 {w : World} {g : Nat} {o : Obj} (h : w.heap[g]? = some o) : S w [Ob g o, Old w (fun i => i = g)] := by
  refine S.cons ⟨fun it hit => ?_, List.pairwise_singleton _ _⟩ h (fun i hi => ?_) (fun x hx i hi => ?_)
  · rw [List.mem_singleton] at hit; subst hit
    exact ⟨Same.rfl', fun g hg => hg.1⟩
  · cases hi; exact (Array.getElem?_eq_some_iff.1 h).1
  · rw [List.mem_singleton] at hx; subst hx
    exact fun hx => hx.2 hi
/-- What is needless is forgotten. -/
theorem S.only {w : World} {new : List Item} {X : Nat → Prop} {w0 : World} (h : S w (new ++ [Old w0 X])) : S w [Old w0 X] := h.sublist (List.sublist_append_right ..)
theorem S.below {w w0 : World} {new : List Item} (h : S w (new ++ [Old w0 no])) : Below w0.heap.size w0 w := by
  have := (h.1 (Old w0 no) (by simp)).1
  exact ⟨this.os, this.tape, this.output, this.size, fun k hk => this.block k ⟨hk, id⟩⟩
theorem S.of_below {w w0 : World} (h : Below w0.heap.size w0 w) : S w [Old w0 no] := by
  refine ⟨fun it hit => ?_, List.pairwise_singleton _ _⟩
  rw [List.mem_singleton] at hit; subst hit
  exact ⟨⟨h.os, h.tape, h.output, h.size, fun g hg => h.block g hg.1⟩, fun g hg => Nat.lt_of_lt_of_le hg.1 h.size⟩
end Go.Proofs.Ytlajgickimgigaa
