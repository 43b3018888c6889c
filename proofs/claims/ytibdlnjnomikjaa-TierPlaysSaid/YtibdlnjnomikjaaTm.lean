import Derived.Test.YtibdlnjnomikjaaHd
import Derived.Test.YtibdlnjnomikjaaGt
set_option linter.unusedSimpArgs false
set_option linter.unusedVariables false
namespace Go.Proofs.Ytibdlnjnomikjaa
open Go.RowKit

/-! ## one of a family is taken out, and put back -/
section
variable {w : World} {L : List Item} {α : Type} {e : TypeId} {enc : α → Array Value} {gs : List Nat} {tk : Nat → α}
theorem S.famOut {x : Nat} (h : S w (Fam e enc gs tk :: L)) (hx : x ∈ gs) : S w (Ob x (.cells (enc (tk x)) e (0, 0)) :: Fam e enc (gs.erase x) tk :: L) := by
  obtain ⟨a1, a2, a3⟩ := h.head
  have h1 : S w (Fam e enc (gs.erase x) tk :: L) := h.tail.cons ⟨a1.1.erase x, fun y hy => a1.2 y (List.mem_of_mem_erase hy)⟩ (fun g hg => a2 g (List.mem_of_mem_erase hg)) (fun z hz g hg => a3 z hz g (List.mem_of_mem_erase hg))
  refine h1.cons (a1.2 x hx) (fun g hg => by cases hg; exact a2 x hx) (fun z hz g hg hf => ?_)
  cases hg
  rcases List.mem_cons.1 hz with rfl | hz
  · exact a1.1.not_mem_erase hf
  · exact a3 z hz x hx hf
theorem S.famIn {x : Nat} {a : α} (h : S w (Ob x (.cells (enc a) e (0, 0)) :: Fam e enc (gs.erase x) tk :: L)) (hx : x ∈ gs) : S w (Fam e enc gs (upd tk x a) :: L) :=
  h.famCons.famPerm (List.perm_cons_erase hx).symm
theorem S.famIn0 {x : Nat} (h : S w (Ob x (.cells (enc (tk x)) e (0, 0)) :: Fam e enc (gs.erase x) tk :: L)) (hx : x ∈ gs) : S w (Fam e enc gs tk :: L) :=
  S.famCongr (k := 0) (h.famIn hx) rfl (fun y hy => by
    by_cases e1 : y = x
    · subst e1; rw [upd_same]
    · rw [upd_ne e1])
end

/-! ## places, row by row -/
abbrev Pl : Type := Nat × Nat × Nat
def flatR (i : Nat) : Nat → List Nat → List Pl
  | _, [] => []
  | k, x :: l => (i, k, x) :: flatR i (k + 1) l
def flatF : Nat → List (List Nat) → List Pl
  | _, [] => []
  | i, r :: rs => flatR i 0 r ++ flatF (i + 1) rs
theorem flatR_snoc (i : Nat) : ∀ (l : List Nat) (k x : Nat), flatR i k (l ++ [x]) = flatR i k l ++ [(i, k + l.length, x)]
  | [], k, x => rfl
  | y :: l, k, x => by
    simp only [List.cons_append, flatR, flatR_snoc i l (k + 1) x, List.length_cons]
    rw [show k + 1 + l.length = k + (l.length + 1) from by omega]
theorem flatF_app : ∀ (a b : List (List Nat)) (i : Nat), flatF i (a ++ b) = flatF i a ++ flatF (i + a.length) b
  | [], b, i => rfl
  | r :: a, b, i => by
    simp only [List.cons_append, flatF, flatF_app a b (i + 1), List.length_cons, List.append_assoc]
    rw [show i + 1 + a.length = i + (a.length + 1) from by omega]
theorem take_snoc {β : Type} {l : List β} {k : Nat} {x : β} (h : l[k]? = some x) : l.take (k + 1) = l.take k ++ [x] := by
  rw [List.take_add_one, h]; rfl
def uptoF (ls : List (List Nat)) (i k : Nat) : List Pl := flatF 0 (ls.take i) ++ flatR i 0 ((ls.getD i []).take k)
theorem uptoF_next {ls : List (List Nat)} {i k x : Nat} (h : (ls.getD i [])[k]? = some x) : uptoF ls i (k + 1) = uptoF ls i k ++ [(i, k, x)] := by
  unfold uptoF
  have hk : k ≤ (ls.getD i []).length := by have := (List.getElem?_eq_some_iff.1 h).1; omega
  rw [take_snoc h, flatR_snoc, List.length_take, Nat.min_eq_left hk, Nat.zero_add, List.append_assoc]
theorem uptoF_row {ls : List (List Nat)} {i : Nat} (h : i < ls.length) : uptoF ls (i + 1) 0 = uptoF ls i (ls.getD i []).length := by
  unfold uptoF
  have h1 : ls[i]? = some (ls.getD i []) := by rw [List.getD_eq_getElem?_getD, List.getElem?_eq_getElem h]; rfl
  rw [take_snoc h1, flatF_app, List.length_take, Nat.min_eq_left (Nat.le_of_lt h), List.take_zero, List.take_length]
  simp [flatF, flatR]
theorem uptoF_all (ls : List (List Nat)) : uptoF ls ls.length 0 = flatF 0 ls := by
  unfold uptoF
  rw [List.take_length]; simp [flatR]
theorem flat_post (ls : List (List Nat)) : ∀ (n i k : Nat), (ls.length - i) ≤ n → i ≤ ls.length → ∃ post, flatF 0 ls = uptoF ls i k ++ post
  | n, i, k, hn, hi => by
    have e1 : ls = ls.take i ++ ls.drop i := (List.take_append_drop i ls).symm
    by_cases h : i < ls.length
    · have h1 : ls.drop i = ls.getD i [] :: ls.drop (i + 1) := by
        rw [List.drop_eq_getElem_cons h, List.getD_eq_getElem?_getD, List.getElem?_eq_getElem h]; rfl
      have h2 : ∀ (l : List Nat) (k s : Nat), ∃ q, flatR i s l = flatR i s (l.take k) ++ q := by
        intro l
        induction l with
        | nil => intro k s; exact ⟨[], by simp [flatR]⟩
        | cons y l ih =>
          intro k s
          cases k with
          | zero => exact ⟨_, rfl⟩
          | succ k =>
            obtain ⟨q, hq⟩ := ih k (s + 1)
            exact ⟨q, by simp only [List.take_succ_cons, flatR, hq, List.cons_append]⟩
      obtain ⟨q, hq⟩ := h2 (ls.getD i []) k 0
      have e2 : flatF 0 ls = flatF 0 (ls.take i ++ (ls.getD i [] :: ls.drop (i + 1))) := congrArg (flatF 0) (by rw [← h1]; exact e1)
      refine ⟨q ++ flatF (i + 1) (ls.drop (i + 1)), ?_⟩
      rw [e2, flatF_app, List.length_take, Nat.min_eq_left hi, Nat.zero_add]
      show flatF 0 (ls.take i) ++ (flatR i 0 (ls.getD i []) ++ flatF (i + 1) (ls.drop (i + 1))) = _
      rw [hq]; unfold uptoF; simp only [List.append_assoc]
    · have h2 : i = ls.length := by omega
      subst h2
      refine ⟨[], ?_⟩
      unfold uptoF
      rw [List.take_length, List.getD_eq_getElem?_getD, List.getElem?_eq_none (Nat.le_refl _)]
      simp [flatR]
theorem flat_split {ls : List (List Nat)} {i k x : Nat} (h : (ls.getD i [])[k]? = some x) (hi : i < ls.length) : ∃ post, flatF 0 ls = uptoF ls i k ++ (i, k, x) :: post := by
  obtain ⟨post, hp⟩ := flat_post ls _ i (k + 1) (Nat.le_refl _) (Nat.le_of_lt hi)
  rw [uptoF_next h, List.append_assoc] at hp
  exact ⟨post, hp⟩
/-- Who stands at a place. -/
theorem mem_flatR {i : Nat} : ∀ {l : List Nat} {k : Nat} {p : Pl}, p ∈ flatR i k l ↔ p.1 = i ∧ k ≤ p.2.1 ∧ l[p.2.1 - k]? = some p.2.2
  | [], k, p => by simp [flatR]
  | x :: l, k, p => by
    simp only [flatR, List.mem_cons, mem_flatR (l := l)]
    obtain ⟨a, b, c⟩ := p
    simp only [Prod.mk.injEq]
    constructor
    · rintro (⟨rfl, rfl, rfl⟩ | ⟨rfl, h1, h2⟩)
      · simp
      · refine ⟨rfl, by omega, ?_⟩
        rw [show b - k = (b - (k + 1)) + 1 from by omega, List.getElem?_cons_succ]; exact h2
    · rintro ⟨rfl, h1, h2⟩
      by_cases h : b = k
      · subst h
        rw [Nat.sub_self] at h2
        simp only [List.getElem?_cons_zero, Option.some.injEq] at h2
        exact .inl ⟨rfl, rfl, h2.symm⟩
      · refine .inr ⟨rfl, by omega, ?_⟩
        rw [show b - k = (b - (k + 1)) + 1 from by omega, List.getElem?_cons_succ] at h2; exact h2
theorem mem_flatF : ∀ {ls : List (List Nat)} {i : Nat} {p : Pl}, p ∈ flatF i ls ↔ i ≤ p.1 ∧ ∃ r, ls[p.1 - i]? = some r ∧ r[p.2.1]? = some p.2.2
  | [], i, p => by simp [flatF]
  | r :: ls, i, p => by
    simp only [flatF, List.mem_append, mem_flatR, mem_flatF (ls := ls)]
    obtain ⟨a, b, c⟩ := p
    simp only [Nat.zero_le, Nat.sub_zero, true_and]
    constructor
    · rintro (⟨rfl, h⟩ | ⟨h1, r', h2, h3⟩)
      · exact ⟨Nat.le_refl _, r, by simp, h⟩
      · refine ⟨by omega, r', ?_, h3⟩
        rw [show a - i = (a - (i + 1)) + 1 from by omega, List.getElem?_cons_succ]; exact h2
    · rintro ⟨h1, r', h2, h3⟩
      by_cases h : a = i
      · subst h
        rw [Nat.sub_self, List.getElem?_cons_zero] at h2
        cases h2
        exact .inl ⟨rfl, h3⟩
      · refine .inr ⟨by omega, r', ?_, h3⟩
        rw [show a - i = (a - (i + 1)) + 1 from by omega, List.getElem?_cons_succ] at h2; exact h2
/-- Earlier places. -/
def before (p q : Pl) : Prop := p.1 < q.1 ∨ p.1 = q.1 ∧ p.2.1 < q.2.1
/-! ## trackers -/
structure Tk where
  name : ByteArray
  failed : Int
  after : Int
  ans : Bool
  told : Bool
def Tk.cells (t : Tk) : Array Value := #[.string t.name, .int .i64 t.failed, .int .i64 t.after, .bool t.ans, .bool t.told]
def ptL (x : Nat) : List Value := [.pointer (some ⟨x, 0, none⟩)]
abbrev Rws : Type := List (Ro Nat)
def lsOf (rows : Rws) : List (List Nat) := rows.map (·.l)
def adr (rows : Rws) : List Nat := (lsOf rows).flatten
theorem ls_at {rows : Rws} {i : Nat} {r : Ro Nat} (h : rows[i]? = some r) : (lsOf rows).getD i [] = r.l := by
  unfold lsOf
  rw [List.getD_eq_getElem?_getD, List.getElem?_map, h]; rfl
theorem ls_len (rows : Rws) : (lsOf rows).length = rows.length := List.length_map ..
theorem ptL_at {l : List Nat} {j x : Nat} (h : l[j]? = some x) : (l.flatMap ptL)[j * 1]? = some (.pointer (some ⟨x, 0, none⟩)) := by
  have := flat_at (f := ptL) (size := 1) (l := l) (j := j) (x := x) (fun _ _ => rfl) h 0 _ rfl
  simpa using this
theorem mem_adr {rows : Rws} {p : Pl} (h : p ∈ flatF 0 (lsOf rows)) : p.2.2 ∈ adr rows := by
  obtain ⟨_, r, h1, h2⟩ := mem_flatF.1 h
  exact List.mem_flatten.2 ⟨r, List.mem_of_getElem? h1, List.mem_of_getElem? h2⟩
/-- What is to be told. -/
def evS (begun dn stopped : Bool) : Int := if stopped then 2 else if begun then (if dn then 3 else 0) else 1
theorem evS_cases (begun dn stopped : Bool) : evS begun dn stopped = 0 ∨ evS begun dn stopped = 1 ∨ evS begun dn stopped = 2 ∨ evS begun dn stopped = 3 := by
  cases begun <;> cases dn <;> cases stopped <;> simp [evS]
def freeS (ev til : Int) (t : Tk) : Int × Bool := if ev = 2 then (0, t.ans && !t.told) else if ev = 0 then (max t.after til, true) else (t.after, true)
def okS (ev til now : Int) (t : Tk) : Bool := (freeS ev til t).2 && decide ((freeS ev til t).1 ≤ now)
end Go.Proofs.Ytibdlnjnomikjaa
