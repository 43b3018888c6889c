import Derived.Test.YtlajgickimgigaaEt
import Derived.RangeFuncNested
import Derived.RangeFuncBound
import Derived.RangeFuncCalls
import Derived.RangeFuncLeaves
import Derived.RangeFuncFrom
import Derived.OrdersIn
import Derived.TacticsIn
set_option linter.unusedSimpArgs false
set_option linter.unusedVariables false
namespace Go.Proofs.Ytlajgickimgigaa
open Go.RowKit

/-! ## Drawn regions: what waits for an operation by way of others -/
section
variable {P : Program} {N : Nat} {ops : Array Oper} {Q : Exit → Act → World → Prop} {md : Region.Mode} {C S' : World → Prop} {T : List Nat} {f : Fr} {ds : List Deferred} {w : World} {listed : Array Bool} {fuel : Nat} {K : Act → World → Prop}
def depsF (md : Region.Mode) (i : Nat) : List Oper → List Bool → List Bool
  | [], acc => acc
  | o :: r, acc => depsF md i r (acc ++ [o.after.any fun e => Region.binds md e && (Nat.beq e.on i || acc.getD e.on false)])
/-- What is listed has all listed that it waits for. -/
def Closed (md : Region.Mode) (ops : Array Oper) (listed : Array Bool) : Prop := ∀ j oj, ops[j]? = some oj → listed.getD j true = true → ∀ e ∈ oj.after, Region.binds md e = true → listed.getD e.on false = true
def closedB (md : Region.Mode) (ops : Array Oper) (listed : Array Bool) : Bool :=
  (List.range ops.size).all fun j => match ops[j]? with | some oj => !listed.getD j true || oj.after.all (fun e => !Region.binds md e || listed.getD e.on false) | none => true
theorem closedB_spec (h : closedB md ops listed = true) : Closed md ops listed := fun j oj hj hl e he hb => by
  have h1 := List.all_eq_true.1 h j (List.mem_range.2 (Array.getElem?_eq_some_iff.1 hj).1)
  simp only [hj, hl, Bool.not_true, Bool.false_or] at h1
  have h2 := Array.all_eq_true'.1 h1 e he
  simpa [hb] using h2
theorem getD_set_self_true (listed : Array Bool) (j : Nat) : (listed.setIfInBounds j true).getD j true = true := by
  by_cases h : j < listed.size
  · simp [h]
  · simp [h]
theorem Closed.set {j : Nat} (h : Closed md ops listed) (hj : j ∈ Region.ready md ops listed) : Closed md ops (listed.setIfInBounds j true) := fun k ok hk hl e he hb => by
  refine getD_set_true ?_
  by_cases hkj : j = k
  · subst hkj
    obtain ⟨_, oj, hoj, hall⟩ := mem_ready.1 hj
    rw [hoj] at hk; cases hk
    exact hall e he hb
  · rw [getD_set_ne true hkj] at hl
    exact h k ok hk hl e he hb
theorem depsF_spec {i : Nat} (hcl : Closed md ops listed) (hi : listed.getD i false = false) : ∀ (l : List Oper) (acc : List Bool), (∀ j, l[j]? = ops[acc.length + j]?) → (∀ j, acc.getD j false = true → listed.getD j true = false) →
    ∀ j, (depsF md i l acc).getD j false = true → listed.getD j true = false
  | [], acc, _, ha => ha
  | o :: r, acc, hl, ha => by
    unfold depsF
    refine depsF_spec hcl hi r _ (fun j => ?_) (fun j hj => ?_)
    · have := hl (j + 1)
      rw [List.getElem?_cons_succ] at this
      rw [this, List.length_append, List.length_singleton]
      congr 1; omega
    · by_cases h1 : j < acc.length
      · refine ha j ?_
        rw [List.getD_eq_getElem?_getD, List.getElem?_append_left h1] at hj
        rw [List.getD_eq_getElem?_getD]; exact hj
      · by_cases h2 : j = acc.length
        · subst h2
          have h0 : ops[acc.length]? = some o := by have := hl 0; simpa using this.symm
          rw [List.getD_eq_getElem?_getD, List.getElem?_append_right (Nat.le_refl _), Nat.sub_self] at hj
          simp only [List.getElem?_cons_zero, Option.getD_some] at hj
          cases hq : listed.getD acc.length true with
          | false => rfl
          | true =>
            obtain ⟨e, he, hb⟩ := Array.any_eq_true'.1 hj
            simp only [Bool.and_eq_true, Bool.or_eq_true] at hb
            have h3 := hcl _ o h0 hq e he hb.1
            rcases hb.2 with h4 | h4
            · rw [Nat.eq_of_beq_eq_true h4] at h3
              rw [h3] at hi; cases hi
            · have h5 := ha _ h4
              have h6 : listed.getD e.on true = true := by
                rw [Array.getD_eq_getD_getElem?] at h3 ⊢
                cases hx : listed[e.on]? with
                | none => rw [hx] at h3; cases h3
                | some b => rw [hx] at h3; exact h3
              rw [h6] at h5; cases h5
        · rw [List.getD_eq_getElem?_getD, List.getElem?_eq_none (by simp; omega)] at hj
          cases hj
/-- Each of T waits for number i, by itself or by way of others. -/
def waitsC (md : Region.Mode) (ops : Array Oper) (T : List Nat) (i : Nat) : Bool := let d := depsF md i ops.toList []; T.all fun j => d.getD j false
/-- As wpAnyX, with two classes: C, which holds as long as none of T came; C0, which holds at all times. -/
def wpAnyY (P : Program) (md : Region.Mode) (ops : Array Oper) (Q : Exit → Act → World → Prop) (C C0 : World → Prop) (T : List Nat) : Nat → Array Bool → Act → World → Prop
  | 0, listed, a, w => Region.ready md ops listed = [] ∧ Q .normal a w
  | fuel + 1, listed, a, w =>
    (Region.ready md ops listed = [] → Q .normal a w) ∧
    ∀ i ∈ Region.ready md ops listed, wpOp P ops Q i (fun a' w' => ((T.contains i = false → C w → C w') ∧ (C0 w → C0 w')) ∧ wpAnyY P md ops Q C C0 T fuel (listed.setIfInBounds i true) a' w') a w
theorem wpAny_of_Y {C0 : World → Prop} : ∀ (fuel : Nat) (listed : Array Bool) (a : Act) (w : World), wpAnyY P md ops Q C C0 T fuel listed a w → wpAny P md ops Q fuel listed a w
  | 0, _, _, _, h => h
  | fuel + 1, _, _, _, h => ⟨h.1, fun i hi => wpOp_mono (fun a' w' h' => wpAny_of_Y fuel _ a' w' h'.2) (h.2 i hi)⟩
theorem wpAnyY_first {C0 : World → Prop} {i : Nat} {oi : Oper} {v : Value} (hi : ops[i]? = some oi) (hsel : ∀ (j : Nat) (o : Oper) cs b, ops[j]? = some o → o.op ≠ .select cs b)
    (hQ : ∀ c a w, Q (.panic c) (a.put oi.dst v) w → Q (.panic c) a w) (hT : (S' = C ∧ waitsC md ops T i = true) ∨ S' = C0 ∨ ∀ w, S' w) :
    ∀ (fuel : Nat) (listed : Array Bool) (a : Act) (w : World), Closed md ops listed →
      (∀ j oj, ops[j]? = some oj → j ≠ i → listed.getD j true = false → (∀ e ∈ oj.after, Region.binds md e = true → e.on ≠ i) → oi.apart ops oj = true) →
      i ∈ Region.ready md ops listed → YieldsIf P ops S' oi v a → S' w →
      wpAnyY P md ops Q C C0 T fuel (listed.setIfInBounds i true) (a.put oi.dst v) w → wpAnyY P md ops Q C C0 T (fuel + 1) listed a w := by
  intro fuel
  induction fuel with
  | zero =>
    intro listed a w hcl _ hr hy hS H
    refine ⟨fun h => (by rw [h] at hr; cases hr), fun j hj => ?_⟩
    by_cases hji : j = i
    · subst hji; exact hy.wpOp hi hS ⟨⟨fun _ h => h, fun h => h⟩, H⟩
    · have := ready_mono hj hji
      rw [H.1] at this
      cases this
  | succ fuel ih =>
    intro listed a w hcl hfree hr hy hS H
    refine ⟨fun h => (by rw [h] at hr; cases hr), fun j hj => ?_⟩
    by_cases hji : j = i
    · subst hji; exact hy.wpOp hi hS ⟨⟨fun _ h => h, fun h => h⟩, H⟩
    · have h1 := H.2 j (ready_mono hj hji)
      obtain ⟨hjun, oj, hoj, hall⟩ := mem_ready.1 hj
      have hi0 : listed.getD i false = false := by
        have h0 := (mem_ready.1 hr).1
        rw [Array.getD_eq_getD_getElem?] at h0 ⊢
        cases hx : listed[i]? with
        | none => rfl
        | some b => rw [hx] at h0; exact h0
      have hnot : ∀ e ∈ oj.after, Region.binds md e = true → e.on ≠ i := fun e he hb heq => by
        have h1 := hall e he hb
        rw [heq, hi0] at h1; cases h1
      have hTj : waitsC md ops T i = true → T.contains j = false := fun hT => by
        cases hc : T.contains j with
        | false => rfl
        | true =>
          have hd := List.all_eq_true.1 hT j (by simpa using hc)
          have hcl2 : Closed md ops (listed.setIfInBounds j true) := hcl.set hj
          have hi2 : (listed.setIfInBounds j true).getD i false = false := by rw [getD_set_ne false hji]; exact hi0
          have := depsF_spec hcl2 hi2 ops.toList [] (fun k => by simp) (fun k hk => by simp at hk) j hd
          rw [getD_set_self_true] at this; cases this
      have h2 := wpOp_putIf hoj (hfree j oj hoj hji hjun hnot) (fun cs b => hsel i oi cs b hi) (fun cs b => hsel j oj cs b hoj) hQ hy h1
      have hfree' : ∀ k ok, ops[k]? = some ok → k ≠ i → (listed.setIfInBounds j true).getD k true = false →
          (∀ e ∈ ok.after, Region.binds md e = true → e.on ≠ i) → oi.apart ops ok = true := fun k ok hk hki hun hno => by
        refine hfree k ok hk hki ?_ hno
        by_cases hjk : j = k
        · subst hjk; exact hjun
        · rw [getD_set_ne true hjk] at hun; exact hun
      refine wpOp_mono (fun a' w' h3 => ⟨h3.2.1, ih (listed.setIfInBounds j true) a' w' (hcl.set hj) hfree' (ready_mono hr (Ne.symm hji)) h3.1 ?_ ?_⟩) h2
      · rcases hT with ⟨rfl, hT⟩ | rfl | hT
        · exact h3.2.1.1 (hTj hT) hS
        · exact h3.2.1.2 hS
        · exact hT w'
      · rw [Array.setIfInBounds_comm _ _ hji]
        exact h3.2.2
theorem y_take {C0 : World → Prop} {f0 : Fr} {d : Nat} {o : Oper} {v : Value} (i : Nat) (hi : ops[i]? = some o) (hw : Wt ops f o) (hd : o.dst = some d) (hN : Nat.blt d N = true) (h0 : gt f0 d = none) (hs : Region.noSelect ops = true) (hf : Region.free md ops listed i = true) (hr : (Region.ready md ops listed).contains i = true)
    (hT : waitsC md ops T i = true) (hcl : closedB md ops listed = true) (hC : C w) (hx : ∀ w, C w → Ex P N f ds o w v w)
    (h : G N (wpAnyY P md ops (PanP N f0 ds Q) C C0 T fuel (listed.setIfInBounds i true)) ((d, v) :: f) ds w) : G N (wpAnyY P md ops (PanP N f0 ds Q) C C0 T (fuel + 1) listed) f ds w := fun a ha =>
  wpAnyY_first hi (Region.noSelect_spec hs) (fun c a w h => ⟨pan_put h0 (by rw [← hd]; exact h.1), h.2⟩) (.inl ⟨rfl, hT⟩) fuel listed a w (closedB_spec hcl) (Region.free_spec hi hf) (by simpa using hr) (ex_yields ha hw hx) hC
    (by rw [hd]; exact h _ (ha.put d hN v))
theorem y_take0 {C0 : World → Prop} {f0 : Fr} {d : Nat} {o : Oper} {v : Value} (i : Nat) (hi : ops[i]? = some o) (hw : Wt ops f o) (hd : o.dst = some d) (hN : Nat.blt d N = true) (h0 : gt f0 d = none) (hs : Region.noSelect ops = true) (hf : Region.free md ops listed i = true) (hr : (Region.ready md ops listed).contains i = true)
    (hcl : closedB md ops listed = true) (hC : C0 w) (hx : ∀ w, C0 w → Ex P N f ds o w v w)
    (h : G N (wpAnyY P md ops (PanP N f0 ds Q) C C0 T fuel (listed.setIfInBounds i true)) ((d, v) :: f) ds w) : G N (wpAnyY P md ops (PanP N f0 ds Q) C C0 T (fuel + 1) listed) f ds w := fun a ha =>
  wpAnyY_first hi (Region.noSelect_spec hs) (fun c a w h => ⟨pan_put h0 (by rw [← hd]; exact h.1), h.2⟩) (.inr (.inl rfl)) fuel listed a w (closedB_spec hcl) (Region.free_spec hi hf) (by simpa using hr) (ex_yields ha hw hx) hC
    (by rw [hd]; exact h _ (ha.put d hN v))
theorem y_pure {C0 : World → Prop} {f0 : Fr} {d : Nat} {o : Oper} {v : Value} (i : Nat) (hi : ops[i]? = some o) (hw : Wt ops f o) (hd : o.dst = some d) (hN : Nat.blt d N = true) (h0 : gt f0 d = none) (hs : Region.noSelect ops = true) (hf : Region.free md ops listed i = true) (hr : (Region.ready md ops listed).contains i = true)
    (hcl : closedB md ops listed = true) (hx : ∀ w, Ex P N f ds o w v w)
    (h : G N (wpAnyY P md ops (PanP N f0 ds Q) C C0 T fuel (listed.setIfInBounds i true)) ((d, v) :: f) ds w) : G N (wpAnyY P md ops (PanP N f0 ds Q) C C0 T (fuel + 1) listed) f ds w := fun a ha =>
  wpAnyY_first (S' := fun _ => True) hi (Region.noSelect_spec hs) (fun c a w h => ⟨pan_put h0 (by rw [← hd]; exact h.1), h.2⟩) (.inr (.inr fun _ => trivial)) fuel listed a w (closedB_spec hcl) (Region.free_spec hi hf) (by simpa using hr) (ex_yields ha hw fun w _ => hx w) trivial
    (by rw [hd]; exact h _ (ha.put d hN v))
theorem y_not {C0 : World → Prop} {f0 : Fr} {d : Nat} {o : Oper} (i : Nat) (hi : ops[i]? = some o) (hw : Wn ops f o) (hd : o.dst = some d) (hN : Nat.blt d N = true) (h0 : gt f0 d = none) (hs : Region.noSelect ops = true) (hf : Region.free md ops listed i = true) (hr : (Region.ready md ops listed).contains i = true)
    (hcl : closedB md ops listed = true)
    (h : G N (wpAnyY P md ops (PanP N f0 ds Q) C C0 T fuel (listed.setIfInBounds i true)) ((d, undef) :: f) ds w) : G N (wpAnyY P md ops (PanP N f0 ds Q) C C0 T (fuel + 1) listed) f ds w := fun a ha =>
  wpAnyY_first (S' := fun _ => True) hi (Region.noSelect_spec hs) (fun c a w h => ⟨pan_put h0 (by rw [← hd]; exact h.1), h.2⟩) (.inr (.inr fun _ => trivial)) fuel listed a w (closedB_spec hcl) (Region.free_spec hi hf) (by simpa using hr) (wn_yields ha hw) trivial
    (by rw [hd]; exact h _ (ha.put d hN _))
/-- What is asked behind one of those that come up, out of the world w0. -/
def YK (P : Program) (md : Region.Mode) (ops : Array Oper) (Q : Exit → Act → World → Prop) (C C0 : World → Prop) (T : List Nat) (fuel : Nat) (listed : Array Bool) (i : Nat) (w0 : World) : Act → World → Prop :=
  fun a' w' => ((T.contains i = false → C w0 → C w') ∧ (C0 w0 → C0 w')) ∧ wpAnyY P md ops Q C C0 T fuel (listed.setIfInBounds i true) a' w'
theorem y_k {C0 : World → Prop} {i : Nat} {w0 : World} (hC : C w) (hC0 : C0 w) (h : G N (wpAnyY P md ops Q C C0 T fuel (listed.setIfInBounds i true)) f ds w) : G N (YK P md ops Q C C0 T fuel listed i w0) f ds w := fun a ha => ⟨⟨fun _ _ => hC, fun _ => hC0⟩, h a ha⟩
theorem y_kt {C0 : World → Prop} {i : Nat} {w0 : World} (hT : T.contains i = true) (hC0 : C0 w) (h : G N (wpAnyY P md ops Q C C0 T fuel (listed.setIfInBounds i true)) f ds w) : G N (YK P md ops Q C C0 T fuel listed i w0) f ds w := fun a ha => ⟨⟨fun h0 => absurd (hT.symm.trans h0) (by decide), fun _ => hC0⟩, h a ha⟩
theorem y_one {C0 : World → Prop} {i : Nat} {o : Oper} (hr : Region.ready md ops listed = [i]) (hi : ops[i]? = some o) (h : G N (StepK P ops Q o (YK P md ops Q C C0 T fuel listed i w)) f ds w) : G N (wpAnyY P md ops Q C C0 T (fuel + 1) listed) f ds w := fun a ha =>
  ⟨fun h0 => absurd (hr.symm.trans h0) (by simp), fun j hj => by
    rw [hr, List.mem_singleton] at hj
    subst hj
    exact o_of hi h a ha⟩
theorem y_two {C0 : World → Prop} {i j : Nat} {o o' : Oper} (hr : Region.ready md ops listed = [i, j]) (hi : ops[i]? = some o) (hj : ops[j]? = some o') (h : G N (StepK P ops Q o (YK P md ops Q C C0 T fuel listed i w)) f ds w) (h' : G N (StepK P ops Q o' (YK P md ops Q C C0 T fuel listed j w)) f ds w) : G N (wpAnyY P md ops Q C C0 T (fuel + 1) listed) f ds w := fun a ha =>
  ⟨fun h0 => absurd (hr.symm.trans h0) (by simp), fun k hk => by
    rw [hr] at hk
    simp only [List.mem_cons, List.not_mem_nil, or_false] at hk
    rcases hk with rfl | rfl
    · exact o_of hi h a ha
    · exact o_of hj h' a ha⟩
theorem y_three {C0 : World → Prop} {i j k : Nat} {o o' o'' : Oper} (hr : Region.ready md ops listed = [i, j, k]) (hi : ops[i]? = some o) (hj : ops[j]? = some o') (hk : ops[k]? = some o'') (h : G N (StepK P ops Q o (YK P md ops Q C C0 T fuel listed i w)) f ds w) (h' : G N (StepK P ops Q o' (YK P md ops Q C C0 T fuel listed j w)) f ds w) (h'' : G N (StepK P ops Q o'' (YK P md ops Q C C0 T fuel listed k w)) f ds w) : G N (wpAnyY P md ops Q C C0 T (fuel + 1) listed) f ds w := fun a ha =>
  ⟨fun h0 => absurd (hr.symm.trans h0) (by simp), fun m hm => by
    rw [hr] at hm
    simp only [List.mem_cons, List.not_mem_nil, or_false] at hm
    rcases hm with rfl | rfl | rfl
    · exact o_of hi h a ha
    · exact o_of hj h' a ha
    · exact o_of hk h'' a ha⟩
theorem y_done {C0 : World → Prop} {f0 : Fr} (hr : Region.ready md ops listed = []) (h : G N (Q .normal) f ds w) : G N (wpAnyY P md ops (PanP N f0 ds Q) C C0 T fuel listed) f ds w := fun a ha => by
  cases fuel with
  | zero => exact ⟨hr, h a ha⟩
  | succ n => exact ⟨fun _ => h a ha, by rw [hr]; simp⟩
theorem g_anyY {id : Nat} {l : List Oper} {L : List Item} (f0 : Fr) (C C0 : World → Prop) (T : List Nat) (hm : P.follows .mixedOrders = true) (H : S w L) (h : ∀ w, S w L → G N (wpAnyY P .any l.toArray (PanP N f0 ds Q) C C0 T l.length (Array.replicate l.length false)) f ds w) : G N ((Code.region id l.toArray true).wp P Q) f ds w := fun a ha => by
  refine wp_mono (Q := PanP N f0 ds Q) (wp_region_any hm (wpAny_of_Y (C := C) (C0 := C0) (T := T) _ _ _ _ ?_)) (fun e a w h => by cases e <;> first | exact h | exact h.2 _ h.1)
  have := h _ (H.drawn (w.drawn + 1)) a ha
  simpa using this
end
/-! ## Rounds of a range over a function: the same steps inside a fence that lets all by -/
abbrev WF (r : Option Nat) : Fence := { Fence.wide with round := r }
theorem ci_of {r : Option Nat} {n : Nat} {P : Program} {g : FuncId} {args : Array Value} {w : World} {R : Ending → World → Prop} (h : Calls P g args w R) : CallsIn (WF r) n P g args w R := (callsIn_wide (n := n)).2 h
theorem of_ci {r : Option Nat} {n : Nat} {P : Program} {g : FuncId} {args : Array Value} {w : World} {R : Ending → World → Prop} (h : CallsIn (WF r) n P g args w R) : Calls P g args w R := (callsIn_wide (n := n)).1 h
theorem ri_of {r : Option Nat} {n : Nat} {P : Program} {row : String} {args : Array Value} {w : World} {R : Value → World → Prop} (h : Rows P row args w R) : RowsIn (WF r) n P row args w R := fun c cs _ => by
  obtain ⟨v, w', h1, h2⟩ := h c cs
  exact ⟨v, w', h1, stepsIn_wide.2 h2⟩
def isDefer (o : Oper) : Bool := match o.op with | .defer _ => true | _ => false
theorem isDefer_spec {o : Oper} (h : isDefer o = false) : ∀ c, o.op ≠ .defer c := fun c e => by
  unfold isDefer at h; rw [e] at h; cases h
theorem wpIn_of {r : Option Nat} {n : Nat} {P : Program} {o : Oper} {a : Act} {w : World} {K : Act → World → Prop} {Q : Exit → Act → World → Prop} (hd : isDefer o = false) (h : o.wp P a w K Q) : o.wpIn (WF r) n P a w K Q := by
  refine ⟨fun _ _ => trivial, ?_⟩
  rw [Oper.semAt_eq _ _ _ (isDefer_spec hd)]
  unfold Oper.wp at h
  generalize (execOp a.eval o).run P w = res at h ⊢
  cases res with
  | ok x w' =>
    cases x with
    | value v => exact h
    | skip => exact h
    | defer d => exact h
    | enter f args => exact ⟨(fun h0 => by cases h0), ci_of h⟩
    | row s args => exact ⟨(fun h0 => by cases h0), ri_of h⟩
    | _ => exact h.elim
  | halt x w' =>
    cases x with
    | panic v => exact h
    | _ => exact h.elim
section
variable {P : Program} {N : Nat} {Q : Exit → Act → World → Prop} {f : Fr} {ds : List Deferred} {w : World} {r : Option Nat} {n : Nat} {ops : Array Oper} {rest : List Oper} {o : Oper} {L : List Item}
namespace R
theorem g_seq {x y : Code} (h : G N (x.wpIn (WF r) n P (Exit.then (y.wpIn (WF r) n P Q) Q)) f ds w) : G N ((Code.seq x y).wpIn (WF r) n P Q) f ds w := fun a ha => wpIn_seq (h a ha)
theorem g_skip (h : G N (Q .normal) f ds w) : G N (Code.skip.wpIn (WF r) n P Q) f ds w := fun a ha => wpIn_skip (h a ha)
theorem g_block {i : Nat} {c : Code} (h : G N (c.wpIn (WF r) n P (Exit.inBlock i Q)) f ds w) : G N ((Code.block i c).wpIn (WF r) n P Q) f ds w := fun a ha => wpIn_block (h a ha)
theorem g_exit {i : Nat} (h : G N (Q (.exit i)) f ds w) : G N ((Code.exit i).wpIn (WF r) n P Q) f ds w := fun a ha => wpIn_exit (h a ha)
theorem g_ret (h : G N (Q .ret) f ds w) : G N (Code.ret.wpIn (WF r) n P Q) f ds w := fun a ha => wpIn_ret (h a ha)
theorem g_label {l : Nat} (h : G N (Q .normal) f ds w) : G N ((Code.label l).wpIn (WF r) n P Q) f ds w := fun a ha => wpIn_label (h a ha)
theorem g_cond_t {c : Operand} {x y : Code} {b : Bool} (hc : evo f c = some (.bool b)) (hb : b = true) (ht : G N (x.wpIn (WF r) n P Q) f ds w) : G N ((Code.cond c x y).wpIn (WF r) n P Q) f ds w :=
  fun a ha => wpIn_cond_true (by rw [ha.eval hc, hb]) (ht a ha)
theorem g_cond_f {c : Operand} {x y : Code} {b : Bool} (hc : evo f c = some (.bool b)) (hb : b = false) (ht : G N (y.wpIn (WF r) n P Q) f ds w) : G N ((Code.cond c x y).wpIn (WF r) n P Q) f ds w :=
  fun a ha => wpIn_cond_false (by rw [ha.eval hc, hb]) (ht a ha)
theorem loop_ix {ι : Type} {c : Code} {a : Act} (I : ι → Act → World → Prop) (μ : ι → Nat) (i0 : ι) (h0 : I i0 a w)
    (round : ∀ i a w, I i a w → c.wpIn (WF r) n P (Exit.then (fun a' w' => ∃ j, I j a' w' ∧ μ j < μ i) Q) a w) : (Code.loop c).wpIn (WF r) n P Q a w := by
  intro b k cs hro hb hr
  have key : ∀ m i a w, μ i = m → I i a w →
      ∃ e a' w', Q e a' w' ∧ ArrivesIn (Machine.fenced P (WF r)) P (lone (b.atR a (.code c :: .inLoop c :: k)) cs w) b k cs e a' w' := by
    intro m
    induction m using Nat.strongRecOn with
    | _ m ih =>
      intro i a w hn hI
      obtain ⟨e, a₁, w₁, hq, harr⟩ := round i a w hI b (.inLoop c :: k) cs hro hb hr
      cases e with
      | normal =>
        obtain ⟨j, hI₁, hlt⟩ := hq
        obtain ⟨e₂, a₂, w₂, hq₂, harr₂⟩ := ih (μ j) (hn ▸ hlt) j a₁ w₁ rfl hI₁
        exact ⟨e₂, a₂, w₂, hq₂, .of_steps (StepsIn.trans harr (.one (fenced_calm hb hr rfl) stepR_inLoop)) harr₂⟩
      | exit id => exact ⟨_, a₁, w₁, hq, .pass (x := .inLoop c) rfl (fun _ _ => .inl (by simp)) harr⟩
      | goto l => exact ⟨_, a₁, w₁, hq, .pass (x := .inLoop c) rfl (fun _ _ => .inl (by simp)) harr⟩
      | ret => exact ⟨_, a₁, w₁, hq, .pass (x := .inLoop c) rfl (fun _ _ => .inl (by simp)) harr⟩
      | panic ch => exact ⟨_, a₁, w₁, hq, .pass (x := .inLoop c) rfl (fun _ _ => .inl (by simp)) harr⟩
      | outgrown => exact ⟨_, a₁, w₁, hq, .pass (x := .inLoop c) rfl (fun _ _ => .inl (by simp)) harr⟩
  obtain ⟨e, a', w', hq, harr⟩ := key _ i0 a w rfl h0
  exact ⟨e, a', w', hq, .of_steps (.one (fenced_calm hb hr rfl) stepR_loop) harr⟩
theorem g_loop {ι : Type} {c : Code} (F : ι → Fr) (I : ι → World → Prop) (μ : ι → Nat) (i0 : ι) (hs : sub (F i0) f) (h0 : I i0 w)
    (round : ∀ i w, I i w → G N (c.wpIn (WF r) n P (Exit.then (fun a' w' => ∃ j, (Rds N a' (F j) ds ∧ I j w') ∧ μ j < μ i) Q)) (F i) ds w) : G N ((Code.loop c).wpIn (WF r) n P Q) f ds w := fun a ha =>
  loop_ix (fun i a w => Rds N a (F i) ds ∧ I i w) μ i0 ⟨ha.weak hs, h0⟩ (fun i a w ⟨h1, h2⟩ => round i w h2 a h1)
theorem g_cut {ι : Type} {c : Code} {K : Act → World → Prop} (F : ι → Fr) (I : ι → World → Prop)
    (hc : G N (c.wpIn (WF r) n P (Exit.then (fun a' w' => ∃ j, Rds N a' (F j) ds ∧ I j w') Q)) f ds w) (hk : ∀ i w, I i w → G N K (F i) ds w) : G N (c.wpIn (WF r) n P (Exit.then K Q)) f ds w := fun a ha =>
  wpIn_mono (hc a ha) fun e a' w' h => by
    cases e with
    | normal => obtain ⟨j, h1, h2⟩ := h; exact hk j w' h2 a' h1
    | _ => exact h
theorem g_region {id : Nat} {l : List Oper} (h : G N (wpListIn (WF r) n P l.toArray Q l) f ds w) : G N ((Code.region id l.toArray false).wpIn (WF r) n P Q) f ds w := fun a ha => wpIn_region_lit (h a ha)
theorem g_nil (h : G N (Q .normal) f ds w) : G N (wpListIn (WF r) n P ops Q []) f ds w := fun a ha => h a ha
theorem l_of (hd : isDefer o = false) (hL : ¬ LetsOut Q) (h : G N (StepK P ops Q o (wpListIn (WF r) n P ops Q rest)) f ds w) : G N (wpListIn (WF r) n P ops Q (o :: rest)) f ds w := fun a ha => by
  have h1 := h a ha
  unfold StepK at h1
  unfold wpListIn
  split
  · rename_i hw
    rw [if_pos hw] at h1
    rcases h1 with h1 | ⟨_, h1⟩
    · exact wpIn_of hd h1
    · exact absurd h1 hL
  · rename_i hw
    rw [if_neg hw] at h1
    exact ⟨fun _ _ => trivial, h1⟩
theorem any_in {md : Region.Mode} (hd : ∀ o ∈ ops, isDefer o = false) (hL : ¬ LetsOut Q) : ∀ (fuel : Nat) (listed : Array Bool) (a : Act) (w : World), wpAny P md ops Q fuel listed a w → wpAnyIn (WF r) n P md ops Q fuel listed a w
  | 0, _, _, _, h => h
  | fuel + 1, listed, a, w, h => by
    refine ⟨h.1, fun i hi => ?_⟩
    have h1 := h.2 i hi
    unfold wpOp at h1
    unfold wpOpIn
    cases ho : ops[i]? with
    | none => rw [ho] at h1; exact any_in hd hL fuel _ _ _ h1
    | some o =>
      rw [ho] at h1
      simp only at h1 ⊢
      have hm : isDefer o = false := hd o (Array.mem_of_getElem? ho)
      split
      · rename_i hw
        rw [if_pos hw] at h1
        rcases h1 with h1 | ⟨_, h1⟩
        · exact Oper.wpIn_mono (fun a w => any_in hd hL fuel _ a w) (wpIn_of hm h1)
        · exact absurd h1 hL
      · rename_i hw
        rw [if_neg hw] at h1
        exact ⟨fun _ _ => trivial, any_in hd hL fuel _ _ _ h1⟩
def noDefer (l : List Oper) : Bool := l.all fun o => !isDefer o
theorem g_anyY {id : Nat} {l : List Oper} {L : List Item} (f0 : Fr) (C C0 : World → Prop) (T : List Nat) (hm : P.follows .mixedOrders = true) (hd : noDefer l = true) (hL : ¬ LetsOut Q) (H : S w L) (h : ∀ w, S w L → G N (wpAnyY P .any l.toArray (PanP N f0 ds Q) C C0 T l.length (Array.replicate l.length false)) f ds w) : G N ((Code.region id l.toArray true).wpIn (WF r) n P Q) f ds w := fun a ha => by
  refine wpIn_mono (Q := PanP N f0 ds Q) (wpIn_region_any hm (any_in (Q := PanP N f0 ds Q) (fun o ho => ?_) (fun hc => hL hc) _ _ _ _ (wpAny_of_Y (C := C) (C0 := C0) (T := T) _ _ _ _ ?_))) (fun e a w h => by cases e <;> first | exact h | exact h.2 _ h.1)
  · have := List.all_eq_true.1 hd o (by simpa using ho)
    simpa using this
  · have := h _ (H.drawn (w.drawn + 1)) a ha
    simpa using this
end R
/-- Into a function whose body holds a range over a function. -/
theorem enter_m {g : FuncId} {fn : Func} {c : Code} {args : Array Value} {R' : Ending → World → Prop} (N : Nat) (hf : P.funcs[g]? = some fn) (hb : fn.body = some c) (hN : fn.ntmps = N) (hA : Nat.ble args.size N = true)
    (h : G N (c.wpIn (WF none) 9 P (bodyPostM (WF none) 9 P fn R')) (argsFr 0 args.toList) [] w) : Calls P g args w R' := by
  refine of_ci (r := none) (n := 9) (callsIn_of_wp_marks hf hb trivial (h _ ⟨?_, fun t v ht => ?_, rfl⟩) rfl)
  · have : args.size ≤ N := Nat.le_of_ble_eq_true hA
    simp [hN]; omega
  · obtain ⟨_, h2⟩ := argsFr_get _ 0 t v ht
    have h3 : args[t]? = some v := by simpa using h2
    have h4 : t < args.size := (Array.getElem?_eq_some_iff.1 h3).1
    show (args ++ _)[t]? = _
    rw [Array.getElem?_append_left h4]; exact h3
end
end Go.Proofs.Ytlajgickimgigaa
