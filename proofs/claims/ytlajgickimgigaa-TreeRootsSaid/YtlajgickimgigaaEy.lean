import Derived.Test.YtlajgickimgigaaEx
set_option linter.unusedSimpArgs false
set_option linter.unusedVariables false
namespace Go.Proofs.Ytlajgickimgigaa
open Go.RowKit

/-! ## A region that draws its order, in general: what may be taken first is taken first; of what is left each order is walked.
   C: the class of worlds in which what is taken first yields its value; T: the operations behind which the class need not hold (they wait for all that hangs on it). -/
section
variable {P : Program} {N : Nat} {ops : Array Oper} {Q : Exit → Act → World → Prop} {md : Region.Mode} {C S' : World → Prop} {T : List Nat} {f : Fr} {ds : List Deferred} {w : World} {listed : Array Bool} {fuel : Nat} {K : Act → World → Prop}
def wpAnyX (P : Program) (md : Region.Mode) (ops : Array Oper) (Q : Exit → Act → World → Prop) (C : World → Prop) (T : List Nat) : Nat → Array Bool → Act → World → Prop
  | 0, listed, a, w => Region.ready md ops listed = [] ∧ Q .normal a w
  | fuel + 1, listed, a, w =>
    (Region.ready md ops listed = [] → Q .normal a w) ∧
    ∀ i ∈ Region.ready md ops listed, wpOp P ops Q i (fun a' w' => (T.contains i = false → C w') ∧ wpAnyX P md ops Q C T fuel (listed.setIfInBounds i true) a' w') a w
theorem wpAny_of_X : ∀ (fuel : Nat) (listed : Array Bool) (a : Act) (w : World), wpAnyX P md ops Q C T fuel listed a w → wpAny P md ops Q fuel listed a w
  | 0, _, _, _, h => h
  | fuel + 1, _, _, _, h => ⟨h.1, fun i hi => wpOp_mono (fun a' w' h' => wpAny_of_X fuel _ a' w' h'.2) (h.2 i hi)⟩
theorem wpAnyX_first {i : Nat} {oi : Oper} {v : Value} (hi : ops[i]? = some oi) (hsel : ∀ (j : Nat) (o : Oper) cs b, ops[j]? = some o → o.op ≠ .select cs b)
    (hQ : ∀ c a w, Q (.panic c) (a.put oi.dst v) w → Q (.panic c) a w) (hC : ∀ w, C w → S' w) (hT : ∀ j oj, ops[j]? = some oj → T.contains j = true → (∃ e ∈ oj.after, Region.binds md e = true ∧ e.on = i) ∨ ∀ w, S' w)
    (hCi : T.contains i = false → ∀ w, S' w → C w) :
    ∀ (fuel : Nat) (listed : Array Bool) (a : Act) (w : World),
      (∀ j oj, ops[j]? = some oj → j ≠ i → listed.getD j true = false → (∀ e ∈ oj.after, Region.binds md e = true → e.on ≠ i) → oi.apart ops oj = true) →
      i ∈ Region.ready md ops listed → YieldsIf P ops S' oi v a → S' w →
      wpAnyX P md ops Q C T fuel (listed.setIfInBounds i true) (a.put oi.dst v) w → wpAnyX P md ops Q C T (fuel + 1) listed a w := by
  intro fuel
  induction fuel with
  | zero =>
    intro listed a w _ hr hy hS H
    refine ⟨fun h => (by rw [h] at hr; cases hr), fun j hj => ?_⟩
    by_cases hji : j = i
    · subst hji; exact hy.wpOp hi hS ⟨fun h => hCi h _ hS, H⟩
    · have := ready_mono hj hji
      rw [H.1] at this
      cases this
  | succ fuel ih =>
    intro listed a w hfree hr hy hS H
    refine ⟨fun h => (by rw [h] at hr; cases hr), fun j hj => ?_⟩
    by_cases hji : j = i
    · subst hji; exact hy.wpOp hi hS ⟨fun h => hCi h _ hS, H⟩
    · have h1 := H.2 j (ready_mono hj hji)
      obtain ⟨hjun, oj, hoj, hall⟩ := mem_ready.1 hj
      have hnot : ∀ e ∈ oj.after, Region.binds md e = true → e.on ≠ i := fun e he hb heq => by
        have h1 := hall e he hb
        have h0 := (mem_ready.1 hr).1
        rw [heq] at h1
        rcases Nat.lt_or_ge i listed.size with h' | h'
        · simp [h'] at h0 h1; rw [h0] at h1; cases h1
        · simp [Array.getElem?_eq_none h'] at h1
      have h2 := wpOp_putIf hoj (hfree j oj hoj hji hjun hnot) (fun cs b => hsel i oi cs b hi) (fun cs b => hsel j oj cs b hoj) hQ hy h1
      have hfree' : ∀ k ok, ops[k]? = some ok → k ≠ i → (listed.setIfInBounds j true).getD k true = false →
          (∀ e ∈ ok.after, Region.binds md e = true → e.on ≠ i) → oi.apart ops ok = true := fun k ok hk hki hun hno => by
        refine hfree k ok hk hki ?_ hno
        by_cases hjk : j = k
        · subst hjk; exact hjun
        · rw [getD_set_ne true hjk] at hun; exact hun
      refine wpOp_mono (fun a' w' h3 => ⟨h3.2.1, ih (listed.setIfInBounds j true) a' w' hfree' (ready_mono hr (Ne.symm hji)) h3.1 ?_ ?_⟩) h2
      · cases hTj : T.contains j with
        | false => exact hC _ (h3.2.1 hTj)
        | true =>
          rcases hT j oj hoj hTj with ⟨e, he, hb, heq⟩ | h
          · exact absurd heq (hnot e he hb)
          · exact h _
      · rw [Array.setIfInBounds_comm _ _ hji]
        exact h3.2.2
/-- Each of T waits for number i. -/
def waits (md : Region.Mode) (ops : Array Oper) (T : List Nat) (i : Nat) : Bool :=
  T.all fun j => match ops[j]? with | some oj => oj.after.any fun e => Region.binds md e && Nat.beq e.on i | none => true
theorem waits_spec {i : Nat} (h : waits md ops T i = true) : ∀ j oj, ops[j]? = some oj → T.contains j = true → ∃ e ∈ oj.after, Region.binds md e = true ∧ e.on = i := fun j oj hj hT => by
  have := List.all_eq_true.1 h j (by simpa using hT)
  simp only [hj] at this
  obtain ⟨e, he, hb⟩ := Array.any_eq_true'.1 this
  simp only [Bool.and_eq_true] at hb
  exact ⟨e, he, hb.1, Nat.eq_of_beq_eq_true hb.2⟩
theorem ex_yields {o : Oper} {v : Value} {a : Act} (ha : Rds N a f ds) (hw : Wt ops f o) (hx : ∀ w, S' w → Ex P N f ds o w v w) : YieldsIf P ops S' o v a := .inl ⟨hw.wanted ha, fun w h => hx w h a ha⟩
theorem wn_yields {o : Oper} {a : Act} (ha : Rds N a f ds) (hw : Wn ops f o) : YieldsIf P ops S' o undef a := .inr ⟨hw.unwanted ha, rfl⟩
/-- A panic out of this region: what is asked behind it hangs on the slots f0 alone, which the region does not write. -/
def PanP (N : Nat) (f0 : Fr) (ds : List Deferred) (Q : Exit → Act → World → Prop) : Exit → Act → World → Prop
  | .panic c, a, w => Rds N a f0 ds ∧ G N (Q (.panic c)) f0 ds w
  | e, a, w => Q e a w
theorem pan_in {f0 : Fr} {c : List PanicEntry} (hs : sub f0 f) (h : G N (Q (.panic c)) f0 ds w) : G N (PanP N f0 ds Q (.panic c)) f ds w := fun a ha => ⟨ha.weak hs, h⟩
theorem pan_put {f0 : Fr} {d : Nat} {v : Value} (hd : gt f0 d = none) {a : Act} (h : Rds N (a.put (some d) v) f0 ds) : Rds N a f0 ds :=
  ⟨by have := h.size; simpa [Act.put] using this, fun t u ht => by
    have := h.get t u ht
    have hne : d ≠ t := fun e => by subst e; rw [hd] at ht; cases ht
    simpa [Act.put, hne] using this, h.defers⟩
theorem g_any {id : Nat} {l : List Oper} {L : List Item} (f0 : Fr) (C : World → Prop) (T : List Nat) (hm : P.follows .mixedOrders = true) (H : S w L) (h : ∀ w, S w L → G N (wpAnyX P .any l.toArray (PanP N f0 ds Q) C T l.length (Array.replicate l.length false)) f ds w) : G N ((Code.region id l.toArray true).wp P Q) f ds w := fun a ha => by
  refine wp_mono (Q := PanP N f0 ds Q) (wp_region_any hm (wpAny_of_X (C := C) (T := T) _ _ _ _ ?_)) (fun e a w h => by cases e <;> first | exact h | exact h.2 _ h.1)
  have := h _ (H.drawn (w.drawn + 1)) a ha
  simpa using this
theorem a_take {f0 : Fr} {d : Nat} {o : Oper} {v : Value} (i : Nat) (hi : ops[i]? = some o) (hw : Wt ops f o) (hd : o.dst = some d) (hN : Nat.blt d N = true) (h0 : gt f0 d = none) (hs : Region.noSelect ops = true) (hf : Region.free md ops listed i = true) (hr : (Region.ready md ops listed).contains i = true)
    (hT : waits md ops T i = true) (hC : C w) (hx : ∀ w, C w → Ex P N f ds o w v w)
    (h : G N (wpAnyX P md ops (PanP N f0 ds Q) C T fuel (listed.setIfInBounds i true)) ((d, v) :: f) ds w) : G N (wpAnyX P md ops (PanP N f0 ds Q) C T (fuel + 1) listed) f ds w := fun a ha =>
  wpAnyX_first (S' := C) hi (Region.noSelect_spec hs) (fun c a w h => ⟨pan_put h0 (by rw [← hd]; exact h.1), h.2⟩) (fun _ h => h) (fun j oj hj hTj => .inl (waits_spec hT j oj hj hTj)) (fun _ _ h => h) fuel listed a w (Region.free_spec hi hf) (by simpa using hr) (ex_yields ha hw hx) hC
    (by rw [hd]; exact h _ (ha.put d hN v))
/-- What yields its value in whatever world; behind it the class is asked only if it is asked at all. -/
theorem a_pure {f0 : Fr} {d : Nat} {o : Oper} {v : Value} (i : Nat) (hi : ops[i]? = some o) (hw : Wt ops f o) (hd : o.dst = some d) (hN : Nat.blt d N = true) (h0 : gt f0 d = none) (hs : Region.noSelect ops = true) (hf : Region.free md ops listed i = true) (hr : (Region.ready md ops listed).contains i = true)
    (hCi : T.contains i = true ∨ ∀ w, C w) (hx : ∀ w, Ex P N f ds o w v w)
    (h : G N (wpAnyX P md ops (PanP N f0 ds Q) C T fuel (listed.setIfInBounds i true)) ((d, v) :: f) ds w) : G N (wpAnyX P md ops (PanP N f0 ds Q) C T (fuel + 1) listed) f ds w := fun a ha =>
  wpAnyX_first (S' := fun _ => True) hi (Region.noSelect_spec hs) (fun c a w h => ⟨pan_put h0 (by rw [← hd]; exact h.1), h.2⟩) (fun _ _ => trivial) (fun j oj hj hTj => .inr fun _ => trivial) (fun h w _ => by rcases hCi with h' | h'; (rw [h] at h'; cases h'); exact h' w) fuel listed a w (Region.free_spec hi hf) (by simpa using hr) (ex_yields ha hw (fun w _ => hx w)) trivial
    (by rw [hd]; exact h _ (ha.put d hN v))
theorem a_not {f0 : Fr} {d : Nat} {o : Oper} (i : Nat) (hi : ops[i]? = some o) (hw : Wn ops f o) (hd : o.dst = some d) (hN : Nat.blt d N = true) (h0 : gt f0 d = none) (hs : Region.noSelect ops = true) (hf : Region.free md ops listed i = true) (hr : (Region.ready md ops listed).contains i = true)
    (hT : waits md ops T i = true) (hC : C w)
    (h : G N (wpAnyX P md ops (PanP N f0 ds Q) C T fuel (listed.setIfInBounds i true)) ((d, undef) :: f) ds w) : G N (wpAnyX P md ops (PanP N f0 ds Q) C T (fuel + 1) listed) f ds w := fun a ha =>
  wpAnyX_first (S' := C) hi (Region.noSelect_spec hs) (fun c a w h => ⟨pan_put h0 (by rw [← hd]; exact h.1), h.2⟩) (fun _ h => h) (fun j oj hj hTj => .inl (waits_spec hT j oj hj hTj)) (fun _ _ h => h) fuel listed a w (Region.free_spec hi hf) (by simpa using hr) (wn_yields ha hw) hC
    (by rw [hd]; exact h _ (ha.put d hN _))
/-- What is asked behind one of those that come up. -/
def AK (P : Program) (md : Region.Mode) (ops : Array Oper) (Q : Exit → Act → World → Prop) (C : World → Prop) (T : List Nat) (fuel : Nat) (listed : Array Bool) (i : Nat) : Act → World → Prop :=
  fun a' w' => (T.contains i = false → C w') ∧ wpAnyX P md ops Q C T fuel (listed.setIfInBounds i true) a' w'
theorem a_k {i : Nat} (hC : C w) (h : G N (wpAnyX P md ops Q C T fuel (listed.setIfInBounds i true)) f ds w) : G N (AK P md ops Q C T fuel listed i) f ds w := fun a ha => ⟨fun _ => hC, h a ha⟩
theorem a_kt {i : Nat} (hT : T.contains i = true) (h : G N (wpAnyX P md ops Q C T fuel (listed.setIfInBounds i true)) f ds w) : G N (AK P md ops Q C T fuel listed i) f ds w := fun a ha => ⟨fun h0 => absurd (hT.symm.trans h0) (by decide), h a ha⟩
theorem a_one {i : Nat} {o : Oper} (hr : Region.ready md ops listed = [i]) (hi : ops[i]? = some o) (h : G N (StepK P ops Q o (AK P md ops Q C T fuel listed i)) f ds w) : G N (wpAnyX P md ops Q C T (fuel + 1) listed) f ds w := fun a ha =>
  ⟨fun h0 => absurd (hr.symm.trans h0) (by simp), fun j hj => by
    rw [hr, List.mem_singleton] at hj
    subst hj
    exact o_of hi h a ha⟩
theorem a_two {i j : Nat} {o o' : Oper} (hr : Region.ready md ops listed = [i, j]) (hi : ops[i]? = some o) (hj : ops[j]? = some o') (h : G N (StepK P ops Q o (AK P md ops Q C T fuel listed i)) f ds w) (h' : G N (StepK P ops Q o' (AK P md ops Q C T fuel listed j)) f ds w) : G N (wpAnyX P md ops Q C T (fuel + 1) listed) f ds w := fun a ha =>
  ⟨fun h0 => absurd (hr.symm.trans h0) (by simp), fun k hk => by
    rw [hr] at hk
    simp only [List.mem_cons, List.not_mem_nil, or_false] at hk
    rcases hk with rfl | rfl
    · exact o_of hi h a ha
    · exact o_of hj h' a ha⟩
theorem a_three {i j k : Nat} {o o' o'' : Oper} (hr : Region.ready md ops listed = [i, j, k]) (hi : ops[i]? = some o) (hj : ops[j]? = some o') (hk : ops[k]? = some o'') (h : G N (StepK P ops Q o (AK P md ops Q C T fuel listed i)) f ds w) (h' : G N (StepK P ops Q o' (AK P md ops Q C T fuel listed j)) f ds w) (h'' : G N (StepK P ops Q o'' (AK P md ops Q C T fuel listed k)) f ds w) : G N (wpAnyX P md ops Q C T (fuel + 1) listed) f ds w := fun a ha =>
  ⟨fun h0 => absurd (hr.symm.trans h0) (by simp), fun m hm => by
    rw [hr] at hm
    simp only [List.mem_cons, List.not_mem_nil, or_false] at hm
    rcases hm with rfl | rfl | rfl
    · exact o_of hi h a ha
    · exact o_of hj h' a ha
    · exact o_of hk h'' a ha⟩
theorem a_done {f0 : Fr} (hr : Region.ready md ops listed = []) (h : G N (Q .normal) f ds w) : G N (wpAnyX P md ops (PanP N f0 ds Q) C T fuel listed) f ds w := fun a ha => by
  cases fuel with
  | zero => exact ⟨hr, h a ha⟩
  | succ n => exact ⟨fun _ => h a ha, by rw [hr]; simp⟩
end
end Go.Proofs.Ytlajgickimgigaa
