import Derived.Test.YtlikhpfdncidkaaGr
set_option linter.unusedSimpArgs false
set_option linter.unusedVariables false
namespace Go.Proofs.Ytlikhpfdncidkaa
open Go.RowKit

/-! ## A family of blocks of one kind -/
def upd {α : Type} (tk : Nat → α) (x : Nat) (a : α) : Nat → α := fun y => if y = x then a else tk y
theorem upd_same {α : Type} (tk : Nat → α) (x : Nat) (a : α) : upd tk x a x = a := if_pos rfl
theorem upd_ne {α : Type} {tk : Nat → α} {x y : Nat} {a : α} (h : ¬ y = x) : upd tk x a y = tk y := if_neg h
theorem upd_upd {α : Type} (tk : Nat → α) (x : Nat) (a b : α) : upd (upd tk x a) x b = upd tk x b := by
  funext y; unfold upd; split <;> rfl
def Fam {α : Type} (e : TypeId) (enc : α → Array Value) (gs : List Nat) (tk : Nat → α) : Item :=
  ⟨fun g => g ∈ gs, fun w => gs.Nodup ∧ ∀ x ∈ gs, w.heap[x]? = some (.cells (enc (tk x)) e (0, 0)), fun h k => ⟨k.1, fun x hx => (h.block x hx).trans (k.2 x hx)⟩⟩
section
variable {P : Program} {N : Nat} {Q : Exit → Act → World → Prop} {f : Fr} {ds : List Deferred} {w w' : World} {o : Oper} {ops : Array Oper} {L : List Item} {K : Act → World → Prop}
variable {α : Type} {e : TypeId} {enc : α → Array Value} {gs : List Nat} {tk : Nat → α}
theorem S.fam {k : Nat} (h : S w L) (hk : L[k]? = some (Fam e enc gs tk)) : gs.Nodup ∧ ∀ x ∈ gs, w.heap[x]? = some (.cells (enc (tk x)) e (0, 0)) := h.at hk
theorem S.famCell {k x i : Nat} {v : Value} (h : S w L) (hk : L[k]? = some (Fam e enc gs tk)) (hx : x ∈ gs) (hv : (enc (tk x))[i]? = some v) : w.cell? ⟨x, i, none⟩ = some v :=
  (cell_of_row w x i _ e (0, 0) ((h.fam hk).2 x hx)).trans hv
theorem S.famSet {k x : Nat} {cs' : Array Value} {a : α} (h : S w L) (hk : L[k]? = some (Fam e enc gs tk)) (hx : x ∈ gs) (ha : cs' = enc a) : S (w.setRow x cs') (L.set k (Fam e enc gs (upd tk x a))) := by
  subst ha
  obtain ⟨h1, h2⟩ := h.fam hk
  refine h.turn hk ((same_setRow w x _).less fun i hi e1 => hi.2 (by rw [e1]; exact hx)) ⟨h1, fun y hy => ?_⟩ (fun g hg => ⟨.inl hg, ?_⟩)
  · by_cases e1 : y = x
    · subst e1
      have := h2 y hy
      unfold upd
      rw [if_pos rfl]
      simp [World.setRow, Array.getElem?_modify, this]
    · rw [upd_ne e1, (same_setRow w x _).block y e1]; exact h2 y hy
  · exact Nat.lt_of_lt_of_le ((Array.getElem?_eq_some_iff.1 (h2 g hg)).1) (same_setRow w x _).size
theorem s_storeFam {t : TypeId} {x y : Operand} {g i : Nat} {v : Value} (a : α) (H : S w L) (k : Nat) (hm : g ∈ gs) (hw : Wt ops f o) (hd : o.dst = none) (ho : o.op = .store t x y) (hx : evo f x = some (.pointer (some ⟨g, i, none⟩)))
    (hy : evo f y = some v) (hk : L[k]? = some (Fam e enc gs tk)) (hn : szO P t = some 1) (hv : v.cells = #[v]) (h1 : v.oneCell' = true) (hi : i < (enc (tk g)).size) (ha : (enc (tk g)).setIfInBounds i v = enc a)
    (h : ∀ w', S w' (L.set k (Fam e enc gs (upd tk g a))) → G N K f ds w') : G N (StepK P ops Q o K) f ds w := by
  have hr := run_storeR (P := P) (t := t) (g := g) (i := i) (v := v) ((H.fam hk).2 g hm) (by rw [hv]; exact hn) (by rw [hv]; exact hi) (by rw [hv]; simpa using h1)
  rw [hv] at hr
  have hc : ((enc (tk g)).toList.take i ++ (#[v] : Array Value).toList ++ (enc (tk g)).toList.drop (i + (#[v] : Array Value).size)).toArray = (enc (tk g)).setIfInBounds i v := by
    apply Array.ext'
    simp only [Array.toList_setIfInBounds, List.size_toArray, List.length_cons, List.length_nil]
    rw [List.set_eq_take_append_cons_drop, if_pos (by simpa using hi)]
    simp
  rw [hc] at hr
  exact s_unit hw hd (exu_store ho hx hy hr) (h _ (H.famSet hk hm ha))
theorem S.famNil (h : S w L) (e : TypeId) (enc : α → Array Value) (tk : Nat → α) : S w (Fam e enc [] tk :: L) :=
  h.cons ⟨.nil, fun _ hx => by cases hx⟩ (fun g hg => by cases hg) (fun _ _ g hg => by cases hg)
theorem S.famCons {x : Nat} {a : α} (h : S w (Ob x (.cells (enc a) e (0, 0)) :: Fam e enc gs tk :: L)) : S w (Fam e enc (x :: gs) (upd tk x a) :: L) := by
  obtain ⟨a1, a2, a3⟩ := h.head
  obtain ⟨b1, b2, b3⟩ := h.tail.head
  have hx : x ∉ gs := fun hx => a3 _ (List.mem_cons_self ..) x rfl hx
  refine h.tail.tail.cons ⟨List.nodup_cons.2 ⟨hx, b1.1⟩, fun y hy => ?_⟩ (fun g hg => ?_) (fun z hz g hg => ?_)
  · rcases List.mem_cons.1 hy with rfl | hy
    · rw [upd_same]; exact a1
    · rw [upd_ne (show ¬ y = x from fun q => hx (q ▸ hy))]; exact b1.2 y hy
  · rcases List.mem_cons.1 hg with rfl | hg
    · exact a2 _ rfl
    · exact b2 g hg
  · rcases List.mem_cons.1 hg with rfl | hg
    · exact a3 z (List.mem_cons_of_mem _ hz) _ rfl
    · exact b3 z hz g hg
theorem S.famPerm {gs' : List Nat} (h : S w (Fam e enc gs tk :: L)) (hp : gs.Perm gs') : S w (Fam e enc gs' tk :: L) := by
  obtain ⟨a1, a2, a3⟩ := h.head
  exact h.tail.cons ⟨hp.nodup_iff.1 a1.1, fun y hy => a1.2 y (hp.mem_iff.2 hy)⟩ (fun g hg => a2 g (hp.mem_iff.2 hg)) (fun z hz g hg => a3 z hz g (hp.mem_iff.2 hg))
theorem S.famPermAt {gs' : List Nat} {k : Nat} (h : S w L) (hk : L[k]? = some (Fam e enc gs tk)) (hp : gs.Perm gs') : S w (L.set k (Fam e enc gs' tk)) := by
  have a1 := h.fam hk
  exact h.turn hk Same.rfl' ⟨hp.nodup_iff.1 a1.1, fun y hy => a1.2 y (hp.mem_iff.2 hy)⟩ (fun g hg => ⟨.inl (hp.mem_iff.2 hg), (Array.getElem?_eq_some_iff.1 (a1.2 g (hp.mem_iff.2 hg))).1⟩)
theorem S.famCongr {tk' : Nat → α} {k : Nat} (h : S w L) (hk : L[k]? = some (Fam e enc gs tk)) (ht : ∀ x ∈ gs, tk x = tk' x) : S w (L.set k (Fam e enc gs tk')) := by
  have a1 := h.fam hk
  exact h.turn hk Same.rfl' ⟨a1.1, fun y hy => by rw [← ht y hy]; exact a1.2 y hy⟩ (fun g hg => ⟨.inl hg, (Array.getElem?_eq_some_iff.1 (a1.2 g hg)).1⟩)
/-! a row of rows is opened, and shut -/
theorem perm_erase {β : Type} : ∀ {l : List β} {j : Nat} {r : β}, l[j]? = some r → l.Perm (r :: l.eraseIdx j)
  | [], j, r, h => by cases h
  | a :: l, 0, r, h => by cases h; exact .refl _
  | a :: l, j + 1, r, h => by
    rw [List.getElem?_cons_succ] at h
    exact ((perm_erase h).cons a).trans (List.Perm.swap ..)
theorem S.rowsOut {β : Type} {e size : Nat} {enc : β → List Value} {rs : List (Ro β)} {r : Ro β} {j : Nat} (h : S w (RowsI e size enc rs :: L)) (hj : rs[j]? = some r) : S w (roI e size enc r :: RowsI e size enc (rs.eraseIdx j) :: L) := by
  have h1 : S w (rs.map (roI e size enc) ++ L) := h.unbig
  have hp : (rs.map (roI e size enc)).Perm (roI e size enc r :: (rs.eraseIdx j).map (roI e size enc)) := (perm_erase hj).map (roI e size enc)
  have h2 := h1.perm (hp.append_right L)
  have h3 : S w ((rs.eraseIdx j).map (roI e size enc) ++ (roI e size enc r :: L)) := h2.perm (List.perm_middle.symm)
  exact h3.big.perm (List.Perm.swap ..)
theorem S.rowsIn {β : Type} {e size : Nat} {enc : β → List Value} {rs : List (Ro β)} {r : Ro β} {j : Nat} (h : S w (roI e size enc r :: RowsI e size enc (rs.eraseIdx j) :: L)) (hj : j < rs.length) : S w (RowsI e size enc (rs.set j r) :: L) := by
  have h1 : S w (RowsI e size enc (rs.eraseIdx j) :: (roI e size enc r :: L)) := h.perm (List.Perm.swap ..)
  have h2 : S w ((rs.eraseIdx j).map (roI e size enc) ++ (roI e size enc r :: L)) := h1.unbig
  have hl : j < (rs.set j r).length := by simpa using hj
  have hp : ((rs.set j r).map (roI e size enc)).Perm (roI e size enc r :: (rs.eraseIdx j).map (roI e size enc)) := by
    have h5 : (rs.set j r)[j]? = some r := by rw [List.getElem?_set_self hj]
    have := (perm_erase h5).map (roI e size enc)
    rwa [List.eraseIdx_set_eq] at this
  have h3 : S w ((rs.set j r).map (roI e size enc) ++ L) := h2.perm (by
    refine List.Perm.trans ?_ (hp.symm.append_right L)
    exact List.perm_middle)
  exact h3.big
/-- copy(l[1:i+1], l[:i]) -/
theorem s_copyUp {dT sT : TypeId} {d t e n c i : Nat} {x y : Operand} {p : Option Addr} {xs : List Value} (H : S w L) (k : Nat) (hw : Wt ops f o) (hd : o.dst = some d) (hN : Nat.blt d N = true)
    (ho : o.op = .call { callee := .builtin .copy, args := #[x, y], argTypes := #[dT, sT] }) (hx : evo f x = some (.slice (cutP p 1 c 1) (i + 1 - 1) (c - 1))) (hy : evo f y = some (.slice (cutP p 0 c 1) i c))
    (hk : L[k]? = some (Rw e 1 p n c xs)) (hu : P.underlying dT = some (.slice t)) (hz : szO P t = some 1) (h1 : xs.all (·.oneCell') = true) (hi : i < n)
    (h : ∀ w', S w' (L.set k (Rw e 1 p n c (xs.take 1 ++ xs.take i ++ xs.drop (i + 1)))) → G N K ((d, .int .i64 (i : Int)) :: f) ds w') : G N (StepK P ops Q o K) f ds w := by
  obtain ⟨k1, k2, k3, k4⟩ := H.rw hk
  rw [Nat.mul_one] at k1
  rcases k4 with ⟨_, q2, _⟩ | ⟨g, off, cur, rfl, q2, q3, q4⟩
  · omega
  · rw [Nat.mul_one] at q3
    have hc0 : cutP (some ⟨g, off, none⟩) 0 c 1 = some ⟨g, off, none⟩ := by
      unfold cutP
      rw [if_neg (by omega), Option.map_some, Nat.zero_mul, add_lit']; rfl
    obtain ⟨o', ho', hoo⟩ : ∃ o', cutP (some ⟨g, off, none⟩) 1 c 1 = some ⟨g, o', none⟩ ∧ (o' = off + 1 ∨ (o' = off ∧ i = 0)) := by
      unfold cutP
      by_cases hc : c = 1
      · rw [if_pos hc]; exact ⟨off, rfl, .inr ⟨rfl, by omega⟩⟩
      · rw [if_neg hc, Option.map_some, Nat.one_mul, add_lit']; exact ⟨off + 1, rfl, .inl rfl⟩
    rw [ho', show i + 1 - 1 = i from rfl] at hx
    rw [hc0] at hy
    have hl : (xs.take i).length = i := by rw [List.length_take]; omega
    have hx1 : ∀ v ∈ xs.take i, v.oneCell' = true := fun v hv => (List.all_eq_true.1 h1) v (List.mem_of_mem_take hv)
    have hr : ∀ ty, (Builtin.copy_ #[dT, sT] ty #[.slice (some ⟨g, o', none⟩) i (c - 1), .slice (some ⟨g, off, none⟩) i c]).run P w = .ok (goInt (xs.take i).length) (w.setRow g (cur.toList.take o' ++ xs.take i ++ cur.toList.drop (o' + (xs.take i).length)).toArray) := fun ty =>
      run_copy_row (P := P) w dT sT ty t g o' i (c - 1) ⟨g, off, none⟩ i c cur e (xs.take i) hu hz q2 (by rw [hl]; simp) (fun j v hv => by
        rw [add_lit']
        have hj : j < i := by have := (List.getElem?_eq_some_iff.1 hv).1; omega
        rw [List.getElem?_take_of_lt hj] at hv
        exact (cell_of_row w g (off + j) cur e (0, 0) q2).trans (q4 j v hv)) (by rw [hl]; omega) hx1
    refine s_val hw hd hN (x_builtin (vs := [.slice (some ⟨g, o', none⟩) i (c - 1), .slice (some ⟨g, off, none⟩) i c]) (v := .int .i64 (i : Int)) (w' := w.setRow g (cur.toList.take o' ++ xs.take i ++ cur.toList.drop (o' + (xs.take i).length)).toArray) ho (by simp only [evs, hx, hy]) (fun cs => by simp only [builtin, hr, Sem.run_bind, Result.andThen_ok, Sem.run_pure, hl]; rfl)) (h _ ?_)
    have hlt : g < w.heap.size := (Array.getElem?_eq_some_iff.1 q2).1
    have hcl : cur.toList.length = cur.size := by simp
    rw [hl]
    refine H.turn hk ((same_setRow w g _).less fun b hb he => hb.2 ⟨off, by rw [he]⟩) ⟨?_, k2, k3, .inr ⟨g, off, _, rfl, by simp only [World.setRow, Array.getElem?_modify, if_true, q2, Option.map_some]; rfl, ?_, fun j u hu => ?_⟩⟩ (fun b hb => ⟨.inl hb, ?_⟩)
    · simp only [List.length_append, List.length_take, List.length_drop]; omega
    · simp only [List.size_toArray, List.length_append, List.length_take, List.length_drop, hcl]; omega
    · simp only [List.getElem?_toArray]
      rcases hoo with rfl | ⟨rfl, rfl⟩
      · rw [List.append_assoc, List.getElem?_append, List.length_take, hcl] 
        rw [List.append_assoc, List.getElem?_append, List.length_take] at hu
        by_cases hj0 : j = 0
        · subst hj0
          rw [if_pos (by omega), List.getElem?_take, if_pos (by omega), Array.getElem?_toList]
          rw [if_pos (by omega), List.getElem?_take, if_pos (by omega)] at hu
          exact q4 0 u hu
        · rw [if_neg (by omega), List.getElem?_append, hl]
          rw [if_neg (by omega), List.getElem?_append, hl] at hu
          have ej : j - min 1 xs.length = j - 1 := by omega
          have ej2 : off + j - min (off + 1) cur.size = j - 1 := by omega
          rw [ej] at hu
          rw [ej2]
          by_cases hji : j - 1 < i
          · rw [if_pos hji] at hu ⊢
            exact hu
          · rw [if_neg hji, List.getElem?_drop] at hu ⊢
            rw [Array.getElem?_toList, show off + 1 + i + (j - 1 - i) = off + j from by omega]
            rw [show i + 1 + (j - 1 - i) = j from by omega] at hu
            exact q4 j u hu
      · have e1 : cur.toList.take o' ++ xs.take 0 ++ cur.toList.drop (o' + 0) = cur.toList := by simp
        have e2 : xs.take 1 ++ xs.take 0 ++ xs.drop (0 + 1) = xs := by rw [List.take_zero, List.append_nil]; exact List.take_append_drop 1 xs
        rw [e2] at hu
        rw [e1, Array.getElem?_toList]
        exact q4 j u hu
    · obtain ⟨o'', ho''⟩ := hb
      have : b = g := by cases ho''; rfl
      rw [this]
      exact Nat.lt_of_lt_of_le hlt (same_setRow w g _).size
end
end Go.Proofs.Ytlikhpfdncidkaa
