import Derived.Test.YtlajgickimgigaaEd
import Derived.ArgAppend
import Derived.Laws.Slices
set_option linter.unusedSimpArgs false
set_option linter.unusedVariables false
namespace Go.Proofs.Ytlajgickimgigaa
open Go.RowKit

/-! ## Slices wherever they begin -/
/-- What a slice reads, in this world. -/
def Reads (w : World) (p : Option Addr) (n c size : Nat) (xs : List Value) : Prop := xs.length = n * size ∧ n ≤ c ∧ (0 < n → ∃ a, p = some a ∧ ∀ j u, xs[j]? = some u → w.cell? (a.add j) = some u)
theorem addr_add (a : Addr) (m i : Nat) : (a.add m).add i = a.add (m + i) := by
  unfold Addr.add
  by_cases hm : m = 0
  · subst hm; simp
  · by_cases hi : i = 0
    · subst hi; simp
    · rw [if_neg hi, if_neg hm, if_neg (by omega)]
      simp [Nat.add_assoc]
theorem flat_length {α : Type} {f : α → List Value} {size : Nat} : ∀ {l : List α}, (∀ a ∈ l, (f a).length = size) → (l.flatMap f).length = l.length * size
  | [], _ => by simp
  | a :: l, h => by
    rw [List.flatMap_cons, List.length_append, h a (List.mem_cons_self ..), flat_length (fun b hb => h b (List.mem_cons_of_mem _ hb)), List.length_cons, Nat.add_mul]; omega
theorem flat_at {α : Type} {f : α → List Value} {size : Nat} : ∀ {l : List α} {j : Nat} {x : α}, (∀ a ∈ l, (f a).length = size) → l[j]? = some x → ∀ i u, (f x)[i]? = some u → (l.flatMap f)[j * size + i]? = some u
  | [], j, x, _, h, _, _, _ => by simp at h
  | a :: l, 0, x, hs, h, i, u, hu => by
    simp only [List.getElem?_cons_zero, Option.some.injEq] at h; subst h
    rw [List.flatMap_cons, Nat.zero_mul, Nat.zero_add, List.getElem?_append_left (List.getElem?_eq_some_iff.1 hu).1]; exact hu
  | a :: l, j + 1, x, hs, h, i, u, hu => by
    rw [List.getElem?_cons_succ] at h
    rw [List.flatMap_cons, List.getElem?_append_right (by rw [hs a (List.mem_cons_self ..), Nat.add_mul]; omega), hs a (List.mem_cons_self ..)]
    have : (j + 1) * size + i - size = j * size + i := by rw [Nat.add_mul]; omega
    rw [this]
    exact flat_at (fun b hb => hs b (List.mem_cons_of_mem _ hb)) h i u hu
theorem flat_drop {α : Type} {f : α → List Value} {size : Nat} : ∀ {l : List α} (j : Nat), (∀ a ∈ l, (f a).length = size) → (l.flatMap f).drop (j * size) = (l.drop j).flatMap f
  | [], j, _ => by simp
  | a :: l, 0, _ => by simp
  | a :: l, j + 1, h => by
    rw [List.flatMap_cons, List.drop_succ_cons, ← flat_drop j (fun b hb => h b (List.mem_cons_of_mem _ hb))]
    have e : (j + 1) * size = (f a).length + j * size := by rw [h a (List.mem_cons_self ..), Nat.add_mul]; omega
    rw [e, ← List.drop_drop, List.drop_left]
theorem heap_setCells (b : Nat) {e : TypeId} {fr : Nat × Nat} : ∀ (vs : List Value) (o : Nat) (w : World) (cur : Array Value), w.heap[b]? = some (.cells cur e fr) → o + vs.length ≤ cur.size →
    ∃ cur' : Array Value, (w.setCells b o vs).heap[b]? = some (.cells cur' e fr) ∧ cur'.size = cur.size ∧ (∀ j, j < o → cur'[j]? = cur[j]?) ∧ (∀ j, j < vs.length → cur'[o + j]? = vs[j]?)
  | [], o, w, cur, h, _ => ⟨cur, h, rfl, fun _ _ => rfl, fun j hj => absurd hj (Nat.not_lt_zero _)⟩
  | v :: vs, o, w, cur, h, hl => by
    simp only [List.length_cons] at hl
    have h1 : (w.setCell ⟨b, o, none⟩ v).heap[b]? = some (.cells (cur.setIfInBounds o v) e fr) := by
      simp [World.setCell, Array.getElem?_modify, h]
    obtain ⟨cur', k1, k2, k3, k4⟩ := heap_setCells b vs (o + 1) _ _ h1 (by rw [Array.size_setIfInBounds]; omega)
    refine ⟨cur', k1, by rw [k2, Array.size_setIfInBounds], fun j hj => ?_, fun j hj => ?_⟩
    · rw [k3 j (by omega), Array.getElem?_setIfInBounds_ne (by omega)]
    · cases j with
      | zero => rw [Nat.add_zero, k3 o (by omega), Array.getElem?_setIfInBounds_self_of_lt (by omega)]; rfl
      | succ j => rw [show o + (j + 1) = o + 1 + j from by omega, k4 j (by simp at hj; omega)]; rfl
theorem same_setCells (b : Nat) : ∀ (vs : List Value) (o : Nat) (w : World), Same (fun k => k ≠ b) w (w.setCells b o vs)
  | [], _, _ => Same.rfl'
  | v :: vs, o, w => (same_setCell w b o v).trans (same_setCells b vs (o + 1) _)
/-- A slice of one's own, wherever it begins. -/
def Rw (e size : Nat) (p : Option Addr) (n c : Nat) (xs : List Value) : Item :=
  ⟨fun g => ∃ o, p = some ⟨g, o, none⟩,
   fun w => xs.length = n * size ∧ n ≤ c ∧ c ≤ maxLen ∧ ((p = none ∧ n = 0 ∧ c = 0) ∨ ∃ g o cur, p = some ⟨g, o, none⟩ ∧ w.heap[g]? = some (.cells cur e (0, 0)) ∧ o + c * size ≤ cur.size ∧ ∀ j u, xs[j]? = some u → cur[o + j]? = some u),
   fun h ⟨k1, k2, k3, k4⟩ => ⟨k1, k2, k3, by
     rcases k4 with k | ⟨g, o, cur, e1, e2, e3⟩
     · exact .inl k
     · exact .inr ⟨g, o, cur, e1, (h.block g ⟨o, e1⟩).trans e2, e3⟩⟩⟩
section
variable {P : Program} {N : Nat} {Q : Exit → Act → World → Prop} {f : Fr} {ds : List Deferred} {w w' : World} {o : Oper} {ops : Array Oper} {L : List Item} {K : Act → World → Prop}
theorem S.rw {k e size n c : Nat} {p : Option Addr} {xs : List Value} (h : S w L) (hk : L[k]? = some (Rw e size p n c xs)) : xs.length = n * size ∧ n ≤ c ∧ c ≤ maxLen ∧ ((p = none ∧ n = 0 ∧ c = 0) ∨ ∃ g o cur, p = some ⟨g, o, none⟩ ∧ w.heap[g]? = some (.cells cur e (0, 0)) ∧ o + c * size ≤ cur.size ∧ ∀ j u, xs[j]? = some u → cur[o + j]? = some u) := h.at hk
theorem S.nilRw (h : S w L) (e size : Nat) : S w (Rw e size none 0 0 [] :: L) :=
  h.cons ⟨by simp, Nat.le_refl _, Nat.zero_le _, .inl ⟨rfl, rfl, rfl⟩⟩ (fun g hg => by obtain ⟨o, ho⟩ := hg; cases ho) (fun x hx g hg => by obtain ⟨o, ho⟩ := hg; cases ho)
theorem S.rwReads {k e size n c : Nat} {p : Option Addr} {xs : List Value} (h : S w L) (hk : L[k]? = some (Rw e size p n c xs)) : Reads w p n c size xs := by
  obtain ⟨k1, k2, k3, k4⟩ := h.rw hk
  refine ⟨k1, k2, fun hn => ?_⟩
  rcases k4 with ⟨_, h0, _⟩ | ⟨g, o, cur, rfl, hg, hs, hc⟩
  · omega
  · exact ⟨_, rfl, fun j u hu => by rw [add_lit', cell_of_row w g _ cur e (0, 0) hg]; exact hc j u hu⟩
theorem S.oldReads {w0 : World} {k size n c : Nat} {p : Option Addr} {xs : List Value} (h : S w L) (hk : L[k]? = some (Old w0 no)) (hr : Reads w0 p n c size xs) : Reads w p n c size xs := by
  obtain ⟨k1, k2, k3⟩ := hr
  refine ⟨k1, k2, fun hn => ?_⟩
  obtain ⟨a, rfl, hc⟩ := k3 hn
  exact ⟨a, rfl, fun j u hu => h.oldCell hk (hc j u hu) id⟩
theorem x_idxP {t e size n c : Nat} {x y : Operand} {k : IntKind} {i : Int} {p : Option Addr} (j : Nat) (hp : ∃ a, p = some a) (ho : o.op = .indexAddr t x y) (hx : evo f x = some (.slice p n c)) (hy : evo f y = some (.int k i)) (hu : P.underlying t = some (.slice e)) (hz : szO P e = some size) (hb : i = (j : Int) ∧ j < n) :
    Ex P N f ds o w (.pointer (p.map fun a => a.add (j * size))) w :=
  ex_of (x := Instr.indexAt t (.slice p n c) (.int k i)) (fun a ha => by unfold execOp; simp only [ho, ha.eval hx, ha.eval hy]) (by
    obtain ⟨rfl, hj⟩ := hb
    obtain ⟨a, rfl⟩ := hp
    unfold Instr.indexAt
    have h1 : (0 : Int) ≤ (j : Int) ∧ (j : Int) < (n : Int) := by omega
    simp only [asIntOf, Sem.run_bind, Sem.run_pure, Result.andThen_ok, run_underlying hu, if_pos h1, Int.toNat_natCast, run_sz hz, Option.map_some])
theorem x_idxR {t e size n c : Nat} {x y : Operand} {k : IntKind} {i : Int} {p : Option Addr} {xs : List Value} (j : Nat) (hr : Reads w p n c size xs) (ho : o.op = .indexAddr t x y) (hx : evo f x = some (.slice p n c)) (hy : evo f y = some (.int k i)) (hu : P.underlying t = some (.slice e)) (hz : szO P e = some size) (hb : i = (j : Int) ∧ j < n) :
    Ex P N f ds o w (.pointer (p.map fun a => a.add (j * size))) w :=
  x_idxP j (by obtain ⟨a, h, _⟩ := hr.2.2 (by omega); exact ⟨a, h⟩) ho hx hy hu hz hb
theorem x_loadRA {t size n c : Nat} {d : TypeDesc} {x : Operand} {p : Option Addr} {xs vs : List Value} (j : Nat) (hr : Reads w p n c size xs) (hj : j < n) (ho : o.op = .load t x) (hx : evo f x = some (.pointer (p.map fun a => a.add (j * size)))) (hu : P.underlying t = some d) (hd : aggB d = true) (hn : szO P t = some size) (hl : vs.length = size) (hv : ∀ i u, vs[i]? = some u → xs[j * size + i]? = some u) :
    Ex P N f ds o w (.agg vs.toArray) w := by
  obtain ⟨a, rfl, hc⟩ := hr.2.2 (by omega)
  exact x_load (p := a.add (j * size)) ho hx (run_loadF hu hd hn hl (fun i u hu => by rw [addr_add]; exact hc _ u (hv i u hu)))
theorem x_loadR1 {t size n c : Nat} {d : TypeDesc} {x : Operand} {p : Option Addr} {xs : List Value} {v : Value} (j : Nat) (hr : Reads w p n c size xs) (hj : j < n) (ho : o.op = .load t x) (hx : evo f x = some (.pointer (p.map fun a => a.add (j * size)))) (hu : P.underlying t = some d) (hd : aggB d = false) (hv : xs[j * size]? = some v) :
    Ex P N f ds o w v w := by
  obtain ⟨a, rfl, hc⟩ := hr.2.2 (by omega)
  exact x_load (p := a.add (j * size)) ho hx (run_load1 hu hd (hc _ v hv))
/-- The address behind a cut from the front. -/
def cutP (p : Option Addr) (l c size : Nat) : Option Addr := if c = l then p else p.map (·.add (l * size))
theorem x_cut {t e size n c : Nat} {x y : Operand} {k : IntKind} {i : Int} {p : Option Addr} (l : Nat) (ho : o.op = .slice t x (some y) none none) (hx : evo f x = some (.slice p n c)) (hy : evo f y = some (.int k i)) (hu : P.underlying t = some (.slice e)) (hz : szO P e = some size) (hb : i = (l : Int) ∧ l ≤ n) :
    Ex P N f ds o w (.slice (cutP p l c size) (n - l) (c - l)) w :=
  ex_of (x := Instr.sliceAt t (.slice p n c) (some (.int k i)) none none) (fun a ha => by unfold execOp; simp only [ho, ha.eval hx, ha.eval hy, Option.map_some, Option.map_none]) (by
    obtain ⟨rfl, hl⟩ := hb
    have he : P.elem t = e := by unfold Program.elem; rw [hu]
    have hu' : P.underlying t = some (.slice (P.elem t)) := by rw [he]; exact hu
    rw [run_sliceAt_slice (P := P) w t _ _ _ _ hu', run_slice_l (P := P) w t p n c hu' k (l : Int) (by omega) (by omega), he, run_sz hz]
    simp only [Result.andThen_ok, sliced, cutP, Int.toNat_natCast])
theorem S.rwDrop {k e size n c : Nat} {p : Option Addr} {xs : List Value} (h : S w L) (hk : L[k]? = some (Rw e size p n c xs)) (l : Nat) (hl : l ≤ n) : S w (L.set k (Rw e size (cutP p l c size) (n - l) (c - l) (xs.drop (l * size)))) := by
  obtain ⟨k1, k2, k3, k4⟩ := h.rw hk
  refine h.turn hk Same.rfl' ⟨by rw [List.length_drop, k1, Nat.sub_mul], by omega, by omega, ?_⟩ (fun g hg => ?_)
  · rcases k4 with ⟨rfl, h0, h1⟩ | ⟨g, o, cur, rfl, hg, hs, hc⟩
    · exact .inl ⟨by unfold cutP; split <;> rfl, by omega, by omega⟩
    · by_cases hcl : c = l
      · refine .inr ⟨g, o, cur, by unfold cutP; rw [if_pos hcl], hg, by rw [hcl, Nat.sub_self, Nat.zero_mul]; rw [hcl] at hs; omega, fun j u hu => ?_⟩
        have hx : xs.drop (l * size) = [] := List.drop_eq_nil_of_le (by rw [k1]; exact Nat.mul_le_mul_right _ (by omega))
        rw [hx] at hu; simp at hu
      · refine .inr ⟨g, o + l * size, cur, by unfold cutP; rw [if_neg hcl, Option.map_some, add_lit'], hg, ?_, fun j u hu => ?_⟩
        · have : l * size + (c - l) * size = c * size := by rw [← Nat.add_mul]; congr 1; omega
          omega
        · rw [List.getElem?_drop] at hu
          rw [Nat.add_assoc]; exact hc _ u hu
  · have hb : ∃ o, p = some ⟨g, o, none⟩ := by
      obtain ⟨o, ho⟩ := hg
      rcases k4 with ⟨rfl, _⟩ | ⟨g', o', cur, rfl, _⟩
      · unfold cutP at ho; split at ho <;> cases ho
      · unfold cutP at ho
        split at ho
        · exact ⟨o, ho⟩
        · rw [Option.map_some, add_lit'] at ho; cases ho; exact ⟨o', rfl⟩
    exact ⟨.inl hb, h.lt hk hb⟩
/-- append of elements that lie somewhere to a slice of one's own. -/
theorem s_appendR {d t e size bytes n m c sc : Nat} {s x : Operand} {z : Value} {xs news : List Value} {p : Option Addr} {ad : Addr} (H : S w L) (k : Nat) (hw : Wt ops f o) (hd : o.dst = some d) (hN : Nat.blt d N = true)
    (ho : o.op = .call { callee := .builtin .append, args := #[s, x], argTypes := #[t, t] }) (hs : evo f s = some (.slice p n sc)) (hx : evo f x = some (.slice (some ad) m c)) (hk : L[k]? = some (Rw e size p n sc xs))
    (ht : P.underlying t = some (.slice e)) (hi : infO P e = some (some z, size, bytes)) (hz : z.cells.size = size) (hsz : 0 < size) (hb0 : 0 < bytes) (hl : news.length = m * size) (hm : 0 < m) (hnews : ∀ j u, news[j]? = some u → w.cell? (ad.add j) = some u) (h1 : news.all (·.oneCell') = true)
    (hb : (n + m) * bytes ≤ 140737488355328)
    (h : ∀ p' c' w', S w' (L.set k (Rw e size p' (n + m) c' (xs ++ news))) → G N K ((d, .slice p' (n + m) c') :: f) ds w') : G N (StepK P ops Q o K) f ds w := by
  obtain ⟨i, hi1, hi2, hi3, hi4⟩ := inf_of hi
  have h63 : n + m ≤ maxLen := by
    have : n + m ≤ (n + m) * bytes := Nat.le_mul_of_pos_right _ hb0
    unfold maxLen; omega
  obtain ⟨k1, k2, k3, k4⟩ := H.rw hk
  have hlen : (xs ++ news).length = (n + m) * size := by rw [List.length_append, k1, hl, Nat.add_mul]
  have fin : ∀ v' w', (Builtin.append_ #[t, t] o.type #[.slice p n sc, .slice (some ad) m c]).run P w = .ok v' w' → w'.ownsRow w.heap.size e size v' (n + m) (xs ++ news) → w.grownBy w' none → G N (StepK P ops Q o K) f ds w := fun v' w' hr hown hg => by
    rcases hown.2 with ⟨_, h0⟩ | ⟨g, cap, cur, rfl, hge, hgg, hle, hmx, hcs, htk⟩
    · omega
    · have hS : S w' (L.set k (Rw e size (some ⟨g, 0, none⟩) (n + m) cap (xs ++ news))) := by
        refine H.turn hk ⟨hg.os, hg.tape, hg.output, hg.size, fun b hb => hg.block b hb.1 (by simp)⟩ ⟨hlen, hle, hmx, .inr ⟨g, 0, cur, rfl, hgg, by omega, fun j u hu => ?_⟩⟩ (fun b hb => ?_)
        · rw [Nat.zero_add, ← Array.getElem?_toList]
          rw [← htk, List.getElem?_take] at hu
          split at hu
          · exact hu
          · cases hu
        · obtain ⟨q, hq⟩ := hb; cases hq
          exact ⟨.inr hge, (Array.getElem?_eq_some_iff.1 hgg).1⟩
      exact s_val hw hd hN (x_builtin (vs := [.slice p n sc, .slice (some ad) m c]) ho (by simp only [Array.toList, evs, hs, hx]) (fun cs => by
        simp only [builtin, Sem.run_bind, hr, Result.andThen_ok, Sem.run_pure])) (h _ _ w' hS)
  rcases k4 with ⟨rfl, rfl, rfl⟩ | ⟨g, off, cur, rfl, hg, hcs, hc⟩
  · have hx0 : xs = [] := List.eq_nil_of_length_eq_zero (by rw [k1, Nat.zero_mul])
    subst hx0
    obtain ⟨v', w', hr, hown, hgw, _, hv⟩ := run_append_own_at (P := P) w w.heap.size t o.type e i z size bytes ht hi1 hi2 hi3 hi4 hz hsz _ 0 [] (World.ownsRow_nil w w.heap.size e size) ad m c news hl hnews (List.all_eq_true.1 h1) h63 hb (Nat.le_refl _)
    exact fin v' w' hr hown hgw
  · by_cases hroom : n + m ≤ sc
    · have hfit : off + n * size + news.length ≤ cur.size := by
        have : n * size + m * size ≤ sc * size := by rw [← Nat.add_mul]; exact Nat.mul_le_mul_right _ hroom
        rw [hl]; omega
      have hcell : ∀ j, j < news.length → (w.cell? ⟨g, off + n * i.size + j, none⟩).isSome = true := fun j hj => by
        rw [hi3, cell_of_row w g _ cur e (0, 0) hg, Array.getElem?_eq_getElem (by omega)]; rfl
      have hfz : ∀ j, j < news.length → w.frozen? ⟨g, off + n * i.size + j, none⟩ = false := fun j hj => by
        simp [World.frozen?, hg]
      have hr := run_append_room_cells (P := P) w t o.type e i ht hi1 g off n sc ad m c news (by rw [hi3]; exact hl) hnews (List.all_eq_true.1 h1) hroom hcell hfz
      rw [hi3] at hr
      obtain ⟨cur', q1, q2, q3, q4⟩ := heap_setCells g news (off + n * size) w cur hg hfit
      have hsame := same_setCells g news (off + n * size) w
      have hS : S (w.setCells g (off + n * size) news) (L.set k (Rw e size (some ⟨g, off, none⟩) (n + m) sc (xs ++ news))) := by
        refine H.turn hk (hsame.less fun b hb he => hb.2 ⟨off, by rw [he]⟩) ⟨hlen, hroom, k3, .inr ⟨g, off, cur', rfl, q1, by rw [q2]; exact hcs, fun j u hu => ?_⟩⟩ (fun b hb => ⟨.inl hb, ?_⟩)
        · rw [List.getElem?_append] at hu
          split at hu
          · rename_i hj
            rw [q3 _ (by rw [k1] at hj; omega)]; exact hc j u hu
          · rename_i hj
            have hj2 := (List.getElem?_eq_some_iff.1 hu).1
            have := q4 (j - xs.length) hj2
            rw [show off + n * size + (j - xs.length) = off + j from by rw [k1] at hj ⊢; omega] at this
            rw [this]; exact hu
        · exact Nat.lt_of_lt_of_le (H.lt hk hb) hsame.size
      exact s_val hw hd hN (x_builtin (vs := [.slice (some ⟨g, off, none⟩) n sc, .slice (some ad) m c]) ho (by simp only [Array.toList, evs, hs, hx]) (fun cs => by
        simp only [builtin, Sem.run_bind, hr, Result.andThen_ok, Sem.run_pure])) (h _ _ _ hS)
    · have hold : ∀ j u, xs[j]? = some u → w.cell? ((⟨g, off, none⟩ : Addr).add j) = some u := fun j u hu => by rw [add_lit', cell_of_row w g _ cur e (0, 0) hg]; exact hc j u hu
      obtain ⟨v', w', hr, hown, hgw⟩ := run_append_arg_grows (P := P) w t o.type e i z size bytes ht hi1 hi2 hi3 hi4 hz hsz ⟨g, off, none⟩ n sc xs k1 hold ad m c news hl hnews (by omega) h63 hb
      exact fin v' w' hr hown hgw
end
/-! ## Calls that take some items and give others back -/
def fps (L : List Item) : Nat → Prop := fun g => ∃ it ∈ L, it.fp g
def pks (ks : List Nat) (L : List Item) : List Item := ks.filterMap (fun k => L[k]?)
theorem S.beginI {w : World} {L : List Item} (h : S w L) : S w (L ++ [Old w (fps L)]) := by
  refine ⟨fun it hit => ?_, List.pairwise_append.2 ⟨h.2, List.pairwise_singleton _ _, fun a ha b hb g hg hg' => ?_⟩⟩
  · rcases List.mem_append.1 hit with hit | hit
    · exact h.1 it hit
    · rw [List.mem_singleton] at hit; subst hit
      exact ⟨Same.rfl', fun g hg => hg.1⟩
  · rw [List.mem_singleton] at hb; subst hb
    exact hg'.2 ⟨a, ha, hg⟩
theorem S.takes {w : World} {L : List Item} (h : S w L) (ks : List Nat) (hn : ks.Nodup) : S w (pks ks L) := by
  refine ⟨fun it hit => ?_, ?_⟩
  · obtain ⟨k, _, hk⟩ := List.mem_filterMap.1 hit
    exact h.1 it (List.mem_of_getElem? hk)
  · unfold pks
    rw [List.pairwise_filterMap]
    refine hn.imp fun {i j} hij a ha b hb g hg => pair_of h.2 ha hb hij g hg
theorem S.absorbI {w w1 : World} {L new : List Item} (h : S w L) (ks : List Nat) (h1 : S w1 (new ++ [Old w (fps (pks ks L))])) : S w1 (new ++ drops ks 0 L) :=
  h.absorbK ks (fun g hg => by
    obtain ⟨it, hit, hf⟩ := hg
    obtain ⟨k, hk, hL⟩ := List.mem_filterMap.1 hit
    exact ⟨k, List.contains_iff_mem.2 hk, it, hL, hf⟩) h1
end Go.Proofs.Ytlajgickimgigaa
