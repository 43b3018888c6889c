import Derived.Test.YtlajgickimgigaaEh
import Derived.WideLaws
import Derived.Laws.Strings
import Derived.LaidEql
set_option linter.unusedSimpArgs false
set_option linter.unusedVariables false
namespace Go.Proofs.Ytlajgickimgigaa
open Go.RowKit

section
variable {P : Program} {N : Nat} {Q : Exit → Act → World → Prop} {f : Fr} {ds : List Deferred} {w w' : World} {o : Oper} {ops : Array Oper} {rest : List Oper} {L : List Item}

/-! ## What an operation does, from a frame -/
def Ex (P : Program) (N : Nat) (f : Fr) (ds : List Deferred) (o : Oper) (w : World) (v : Value) (w' : World) : Prop := ∀ a, Rds N a f ds → (execOp a.eval o).run P w = .ok (.value v) w'
def ExU (P : Program) (N : Nat) (f : Fr) (ds : List Deferred) (o : Oper) (w : World) (w' : World) : Prop := ∀ a, Rds N a f ds → (execOp a.eval o).run P w = .ok .skip w'
def ExC (P : Program) (N : Nat) (f : Fr) (ds : List Deferred) (o : Oper) (w : World) (g : FuncId) (vs : List Value) (w' : World) : Prop := ∀ a, Rds N a f ds → (execOp a.eval o).run P w = .ok (.enter g vs.toArray) w'
def ExP (P : Program) (N : Nat) (f : Fr) (ds : List Deferred) (o : Oper) (w : World) (v : Value) (w' : World) : Prop := ∀ a, Rds N a f ds → (execOp a.eval o).run P w = .halt (.panic v) w'
def ExD (P : Program) (N : Nat) (f : Fr) (ds : List Deferred) (o : Oper) (w : World) (d : Deferred) (w' : World) : Prop := ∀ a, Rds N a f ds → (execOp a.eval o).run P w = .ok (.defer d) w'
/-- The operation is carried out: no guard, or a guard that says yes. -/
def Wt (ops : Array Oper) (f : Fr) (o : Oper) : Prop := o.guard = none ∨ ∃ j b oj dj, o.guard = some (j, b) ∧ ops[j]? = some oj ∧ oj.dst = some dj ∧ gt f dj = some (.bool b)
theorem wt0 (h : o.guard = none) : Wt ops f o := .inl h
theorem wt1 {j : Nat} {b b' : Bool} {oj : Oper} {dj : Nat} (h : o.guard = some (j, b)) (h1 : ops[j]? = some oj) (h2 : oj.dst = some dj) (h3 : gt f dj = some (.bool b')) (h4 : b' = b) : Wt ops f o :=
  .inr ⟨j, b, oj, dj, h, h1, h2, h4 ▸ h3⟩
/-- The guard says no. -/
def Wn (ops : Array Oper) (f : Fr) (o : Oper) : Prop := ∃ j b b' oj dj, o.guard = some (j, b) ∧ ops[j]? = some oj ∧ oj.dst = some dj ∧ (gt f dj = some (.bool b') ∧ b' ≠ b ∨ gt f dj = some undef)
theorem wn1 {j : Nat} {b b' : Bool} {oj : Oper} {dj : Nat} (h : o.guard = some (j, b)) (h1 : ops[j]? = some oj) (h2 : oj.dst = some dj) (h3 : gt f dj = some (.bool b')) (h4 : b' = !b) : Wn ops f o :=
  ⟨j, b, b', oj, dj, h, h1, h2, .inl ⟨h3, by rw [h4]; cases b <;> simp⟩⟩
theorem wn2 {j : Nat} {b : Bool} {oj : Oper} {dj : Nat} (h : o.guard = some (j, b)) (h1 : ops[j]? = some oj) (h2 : oj.dst = some dj) (h3 : gt f dj = some undef) : Wn ops f o :=
  ⟨j, b, true, oj, dj, h, h1, h2, .inr h3⟩
theorem Wt.wanted (h : Wt ops f o) {a : Act} (ha : Rds N a f ds) : Region.wanted o (yielded ops a.tmps) = true := by
  rcases h with h | ⟨j, b, oj, dj, h, h1, h2, h3⟩
  · simp [Region.wanted, h]
  · have := ha.get dj _ h3
    simp [Region.wanted, h, yielded, h1, h2, this]
theorem Wn.unwanted (h : Wn ops f o) {a : Act} (ha : Rds N a f ds) : Region.wanted o (yielded ops a.tmps) = false := by
  obtain ⟨j, b, b', oj, dj, h, h1, h2, h3⟩ := h
  rcases h3 with ⟨h3, h4⟩ | h3
  · have := ha.get dj _ h3
    simp [Region.wanted, h, yielded, h1, h2, this, h4]
  · have := ha.get dj _ h3
    simp [Region.wanted, h, yielded, h1, h2, this, undef]
theorem put_none {a : Act} {v : Value} (hd : o.dst = none) : a.put o.dst v = a := by rw [hd]; rfl

/-! ## Steps of a region -/
theorem g_region {id : Nat} {l : List Oper} (h : G N (wpList P l.toArray Q l) f ds w) : G N ((Code.region id l.toArray false).wp P Q) f ds w := fun a ha => wp_region_lit (h a ha)
theorem g_nil (h : G N (Q .normal) f ds w) : G N (wpList P ops Q []) f ds w := fun a ha => wpList_nil (h a ha)
theorem g_end {K : Act → World → Prop} (h : G N K f ds w) : G N (wpList P ops (Exit.then K Q) []) f ds w := fun a ha => wpList_nil (h a ha)
/-- One operation of a region, and what is asked behind it. -/
def StepK (P : Program) (ops : Array Oper) (Q : Exit → Act → World → Prop) (o : Oper) (K : Act → World → Prop) (a : Act) (w : World) : Prop :=
  if Region.wanted o (yielded ops a.tmps) then o.wp P a w K Q ∨ (o.asks P a w ∧ LetsOut Q) else K (a.put o.dst undef) w
theorem l_of (h : G N (StepK P ops Q o (wpList P ops Q rest)) f ds w) : G N (wpList P ops Q (o :: rest)) f ds w := fun a ha => by
  unfold wpList; exact h a ha
theorem o_of {i : Nat} {K : Act → World → Prop} (hi : ops[i]? = some o) (h : G N (StepK P ops Q o K) f ds w) : G N (wpOp P ops Q i K) f ds w := fun a ha => by
  unfold wpOp; simp only [hi]; exact h a ha
section
variable {K : Act → World → Prop}
theorem s_of (hw : Wt ops f o) (h : ∀ a, Rds N a f ds → o.wp P a w K Q) : G N (StepK P ops Q o K) f ds w := fun a ha => by
  unfold StepK; rw [if_pos (hw.wanted ha)]; exact .inl (h a ha)
theorem s_val {d : Nat} {v : Value} (hw : Wt ops f o) (hd : o.dst = some d) (hN : Nat.blt d N = true) (hx : Ex P N f ds o w v w') (h : G N K ((d, v) :: f) ds w') : G N (StepK P ops Q o K) f ds w :=
  s_of hw fun a ha => by
    unfold Oper.wp
    rw [hx a ha, Oper.upon_value, hd]
    exact h _ (ha.put d hN v)
theorem s_unit (hw : Wt ops f o) (hd : o.dst = none) (hx : ExU P N f ds o w w') (h : G N K f ds w') : G N (StepK P ops Q o K) f ds w :=
  s_of hw fun a ha => by
    unfold Oper.wp
    rw [hx a ha, Oper.upon_skip, put_none hd]
    exact h _ ha
theorem s_val0 {v : Value} (hw : Wt ops f o) (hd : o.dst = none) (hx : Ex P N f ds o w v w') (h : G N K f ds w') : G N (StepK P ops Q o K) f ds w :=
  s_of hw fun a ha => by
    unfold Oper.wp
    rw [hx a ha, Oper.upon_value, put_none hd]
    exact h _ ha
theorem s_panic {v : Value} (hw : Wt ops f o) (hx : ExP P N f ds o w v w') (h : G N (Q (.panic [{ v, recovered := false }])) f ds w') : G N (StepK P ops Q o K) f ds w :=
  s_of hw fun a ha => by
    unfold Oper.wp
    rw [hx a ha, Oper.upon_panic]
    exact h _ ha
theorem s_defer {d : Deferred} (hw : Wt ops f o) (hd : o.dst = none) (hx : ExD P N f ds o w d w') (h : G N K f (d :: ds) w') : G N (StepK P ops Q o K) f ds w :=
  s_of hw fun a ha => by
    unfold Oper.wp
    rw [hx a ha, Oper.upon_defer, hd]
    exact (h _ ⟨ha.size, ha.get, by show d :: a.defers = _; rw [ha.defers]⟩)
theorem s_not {d : Nat} (hw : Wn ops f o) (hd : o.dst = some d) (hN : Nat.blt d N = true) (h : G N K ((d, undef) :: f) ds w) : G N (StepK P ops Q o K) f ds w := fun a ha => by
  unfold StepK
  rw [if_neg (by rw [hw.unwanted ha]; simp), hd]
  exact h _ (ha.put d hN _)
theorem s_not0 (hw : Wn ops f o) (hd : o.dst = none) (h : G N K f ds w) : G N (StepK P ops Q o K) f ds w := fun a ha => by
  unfold StepK
  rw [if_neg (by rw [hw.unwanted ha]; simp), put_none hd]
  exact h _ ha
/-- How a call ends. -/
def Back (N : Nat) (o : Oper) (K : Act → World → Prop) (Q : Exit → Act → World → Prop) (f : Fr) (ds : List Deferred) : Ending → World → Prop
  | .returned v, w => G N (fun a w => K (a.put o.dst v) w) f ds w
  | .panicked c, w => G N (Q (.panic c)) f ds w
  | .outgrown, _ => LetsOut Q
theorem s_call {g : FuncId} {vs : List Value} {R : Ending → World → Prop} (hw : Wt ops f o) (hx : ExC P N f ds o w g vs w') (hc : Calls P g vs.toArray w' R) (h : ∀ e w'', R e w'' → Back N o K Q f ds e w'') : G N (StepK P ops Q o K) f ds w :=
  s_of hw fun a ha => by
    unfold Oper.wp
    rw [hx a ha, Oper.upon_enter]
    refine hc.mono fun e w'' he => ?_
    have := h e w'' he
    cases e with
    | returned v => exact this a ha
    | panicked c => exact this a ha
    | outgrown => exact this
theorem b_ret {d : Nat} {v : Value} (hd : o.dst = some d) (hN : Nat.blt d N = true) (h : G N K ((d, v) :: f) ds w) : Back N o K Q f ds (.returned v) w := fun a ha => by
  show K (a.put o.dst v) w
  rw [hd]; exact h _ (ha.put d hN v)
theorem b_ret0 {v : Value} (hd : o.dst = none) (h : G N K f ds w) : Back N o K Q f ds (.returned v) w := fun a ha => by
  show K (a.put o.dst v) w
  rw [put_none hd]; exact h _ ha
theorem b_panic {c : List PanicEntry} (h : G N (Q (.panic c)) f ds w) : Back N o K Q f ds (.panicked c) w := h

end
/-! ## A region that draws its order and whose operations keep to the class 'S · L' -/
theorem g_quiet {id : Nat} {l : List Oper} (hm : P.follows .mixedOrders = true) (hB : Region.lexB .any l.toArray = true) (hS : S w L)
    (h : GQ N (wpQuiet P l.toArray (fun w => S w L) (fun a' => ∀ w', S w' L → Q .normal a' w') l) f ds) : G N ((Code.region id l.toArray true).wp P Q) f ds w := fun a ha =>
  wp_region_quiet (C := fun w => S w L) hm hB (hS.drawn _) (by simpa using h a ha)
theorem q_nil (h : ∀ w, S w L → G N (Q .normal) f ds w) : GQ N (wpQuiet P ops (fun w => S w L) (fun a' => ∀ w', S w' L → Q .normal a' w') []) f ds := fun a ha => wpQuiet_nil fun w' hw' => h w' hw' a ha
theorem q_of {QQ : Act → Prop} {v : Value} {d : Nat} (hw : Wt ops f o) (hd : o.dst = some d) (hN : Nat.blt d N = true) (hx : ∀ a, Rds N a f ds → ∀ w, S w L → o.quietAt P a (fun w => S w L) w v)
    (h : GQ N (wpQuiet P ops (fun w => S w L) QQ rest) ((d, v) :: f) ds) : GQ N (wpQuiet P ops (fun w => S w L) QQ (o :: rest)) f ds := fun a ha =>
  wpQuiet_step fun K hK => by
    rw [if_pos (hw.wanted ha)]
    exact ⟨v, fun w hw => hx a ha w hw, by rw [hd]; exact hK _ (h _ (ha.put d hN v))⟩
theorem q_val {QQ : Act → Prop} {v : Value} {d : Nat} (hw : Wt ops f o) (hd : o.dst = some d) (hN : Nat.blt d N = true) (hx : ∀ w, S w L → Ex P N f ds o w v w)
    (h : GQ N (wpQuiet P ops (fun w => S w L) QQ rest) ((d, v) :: f) ds) : GQ N (wpQuiet P ops (fun w => S w L) QQ (o :: rest)) f ds :=
  q_of hw hd hN (fun a ha w hS => by unfold Oper.quietAt; rw [hx w hS a ha]; exact ⟨rfl, rfl⟩) h
theorem q_call {QQ : Act → Prop} {v : Value} {d : Nat} {g : FuncId} {vs : List Value} (hw : Wt ops f o) (hd : o.dst = some d) (hN : Nat.blt d N = true) (hx : ∀ w, S w L → ExC P N f ds o w g vs w)
    (hc : ∀ w, S w L → Calls P g vs.toArray w (fun e w' => e = .returned v ∧ S w' L))
    (h : GQ N (wpQuiet P ops (fun w => S w L) QQ rest) ((d, v) :: f) ds) : GQ N (wpQuiet P ops (fun w => S w L) QQ (o :: rest)) f ds :=
  q_of hw hd hN (fun a ha w hS => by unfold Oper.quietAt; rw [hx w hS a ha]; exact ⟨rfl, hc w hS⟩) h
theorem q_not {QQ : Act → Prop} {d : Nat} (hw : Wn ops f o) (hd : o.dst = some d) (hN : Nat.blt d N = true)
    (h : GQ N (wpQuiet P ops (fun w => S w L) QQ rest) ((d, undef) :: f) ds) : GQ N (wpQuiet P ops (fun w => S w L) QQ (o :: rest)) f ds := fun a ha =>
  wpQuiet_step fun K hK => by
    rw [if_neg (by rw [hw.unwanted ha]; simp), hd]
    exact hK _ (h _ (ha.put d hN _))

/-! ## The end of a body -/
def resOk (P : Program) (f : Fr) (w : World) : List ResultVar → List Value → Prop
  | [], [] => True
  | .tmp t :: r, v :: vs => gt f t = some v ∧ resOk P f w r vs
  | .cell a t :: r, v :: vs => (∃ ad, gt f a = some (.pointer (some ad)) ∧ (loadVar t ad).run P w = .ok v w) ∧ resOk P f w r vs
  | _, _ => False
def rdRes (tm : Array Value) : ResultVar → Sem Value
  | .tmp t => pure (tm.getD t undef)
  | .cell a t => do loadVar t (← asAddr (tm.getD a undef))
theorem resOk_run {a : Act} (ha : Rds N a f ds) : ∀ {l : List ResultVar} {vs : List Value}, resOk P f w l vs → (l.mapM (rdRes a.tmps)).run P w = Result.ok vs w
  | [], [], _ => rfl
  | [], _ :: _, h => h.elim
  | .tmp t :: r, v :: vs, ⟨h1, h2⟩ => by
    have e : a.tmps.getD t undef = v := by rw [Array.getD_eq_getD_getElem?, ha.get t v h1]; rfl
    simp only [List.mapM_cons, rdRes, e, Sem.run_bind, Sem.run_pure, Result.andThen_ok, resOk_run ha h2]
  | .cell b t :: r, v :: vs, ⟨⟨ad, h1, h3⟩, h2⟩ => by
    have e : a.tmps.getD b undef = .pointer (some ad) := by rw [Array.getD_eq_getD_getElem?, ha.get b _ h1]; rfl
    simp only [List.mapM_cons, rdRes, e, Sem.run_bind, Sem.run_pure, Result.andThen_ok, resOk_run ha h2, asAddr, h3]
  | .tmp t :: r, [], h => (show False from h).elim
  | .cell b t :: r, [], h => (show False from h).elim
theorem results_eq (fn : Func) (tm : Array Value) : results fn tm = (do let vs ← fn.results.mapM (rdRes tm); pure (if h : vs.size = 1 then vs[0] else Value.tuple vs)) := by
  unfold results
  congr 2
def tupled : List Value → Value
  | [v] => v
  | vs => .tuple vs.toArray
theorem results_run {fn : Func} {rs : List ResultVar} {vs : List Value} {a : Act} (ha : Rds N a f ds) (hr : fn.results = rs.toArray) (h : resOk P f w rs vs) : (results fn a.tmps).run P w = .ok (tupled vs) w := by
  rw [results_eq, hr]
  have := resOk_run ha h
  have e2 : (rs.toArray.mapM (rdRes a.tmps)).run P w = .ok vs.toArray w := by
    rw [List.mapM_toArray]
    simp [this]
  simp only [Sem.run_bind, e2, Result.andThen_ok, Sem.run_pure]
  match vs with
  | [] => rfl
  | [v] => rfl
  | u :: v :: r => simp [tupled]
theorem fin_ret {fn : Func} {R : Ending → World → Prop} (rs : List ResultVar) (vs : List Value) (hr : fn.results = rs.toArray) (h : resOk P f w rs vs) (hR : R (.returned (tupled vs)) w) : G N (bodyPost P fn R .ret) f [] w := fun a ha =>
  ⟨ha.defers, _, results_run ha hr h, hR⟩
theorem fin_end {fn : Func} {R : Ending → World → Prop} (rs : List ResultVar) (vs : List Value) (hr : fn.results = rs.toArray) (h : resOk P f w rs vs) (hR : R (.returned (tupled vs)) w) : G N (bodyPost P fn R .normal) f [] w := fun a ha =>
  ⟨ha.defers, _, results_run ha hr h, hR⟩
theorem fin_panic {fn : Func} {R : Ending → World → Prop} {c : List PanicEntry} (hR : R (.panicked c) w) : G N (bodyPost P fn R (.panic c)) f [] w := fun a ha => ⟨ha.defers, hR⟩
end
end Go.Proofs.Ytlajgickimgigaa
