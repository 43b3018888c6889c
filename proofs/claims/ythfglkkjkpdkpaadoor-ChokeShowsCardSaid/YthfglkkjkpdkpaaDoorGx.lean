import Derived.Test.YthfglkkjkpdkpaaDoorGl
set_option linter.unusedSimpArgs false
set_option linter.unusedVariables false
namespace Go.Proofs.YthfglkkjkpdkpaaDoor
open Go.RowKit

/-! ## A list of things of one kind, each with its own memory -/
def Lst {α : Type} (F : α → Item) (l : List α) : Item := Big (l.map F)
section
variable {α : Type} {F : α → Item} {l : List α} {w : World} {L : List Item} {x : α} {j : Nat}
theorem S.lstOut (h : S w (Lst F l :: L)) (hj : l[j]? = some x) : S w (F x :: Lst F (l.eraseIdx j) :: L) := by
  have h1 : S w (l.map F ++ L) := h.unbig
  have hp : (l.map F).Perm (F x :: (l.eraseIdx j).map F) := (perm_erase hj).map F
  have h2 := h1.perm (hp.append_right L)
  have h3 : S w ((l.eraseIdx j).map F ++ (F x :: L)) := h2.perm (List.perm_middle.symm)
  exact h3.big.perm (List.Perm.swap ..)
theorem S.lstIn (h : S w (F x :: Lst F (l.eraseIdx j) :: L)) (hj : j < l.length) : S w (Lst F (l.set j x) :: L) := by
  have h1 : S w (Lst F (l.eraseIdx j) :: (F x :: L)) := h.perm (List.Perm.swap ..)
  have h2 : S w ((l.eraseIdx j).map F ++ (F x :: L)) := h1.unbig
  have hp : ((l.set j x).map F).Perm (F x :: (l.eraseIdx j).map F) := by
    have h5 : (l.set j x)[j]? = some x := by rw [List.getElem?_set_self hj]
    have := (perm_erase h5).map F
    rwa [List.eraseIdx_set_eq] at this
  have h3 : S w ((l.set j x).map F ++ L) := h2.perm (by
    refine List.Perm.trans ?_ (hp.symm.append_right L)
    exact List.perm_middle)
  exact h3.big
theorem S.lstBack (h : S w (F x :: Lst F (l.eraseIdx j) :: L)) (hj : l[j]? = some x) : S w (Lst F l :: L) := by
  obtain ⟨h1, h2⟩ := List.getElem?_eq_some_iff.1 hj
  have h3 := S.lstIn h h1
  rwa [← h2, List.set_getElem_self] at h3
theorem S.lstNil (h : S w L) (F : α → Item) : S w (Lst F [] :: L) := S.big (L := []) h
theorem S.lstSnoc (h : S w (F x :: Lst F l :: L)) : S w (Lst F (l ++ [x]) :: L) := by
  have h1 : S w (Lst F l :: (F x :: L)) := h.perm (List.Perm.swap ..)
  have h2 : S w (l.map F ++ (F x :: L)) := h1.unbig
  have h3 : S w ((l ++ [x]).map F ++ L) := by
    rw [List.map_append, List.append_assoc]; exact h2
  exact h3.big
/-- What an item of the list tells by itself. -/
theorem S.lstAt {k : Nat} (h : S w L) (hk : L[k]? = some (Lst F l)) (hj : l[j]? = some x) : S w [F x] := by
  have h1 : S w [Lst F l] := S.sublist h (by
    refine List.singleton_sublist.2 (List.mem_of_getElem? hk))
  exact (S.lstOut h1 hj).sublist (List.Sublist.cons_cons _ (List.nil_sublist _))
end
end Go.Proofs.YthfglkkjkpdkpaaDoor
