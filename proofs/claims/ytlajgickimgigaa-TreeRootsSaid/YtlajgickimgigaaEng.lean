import Derived.Tactics
import Derived.Deep.Quiet
import Derived.Deep.Draws
import Derived.OrdersHeld
import Derived.Below
import Derived.Laws.Rows
import Derived.Laws.CopyRow
import Derived.Laws.Tables
import Derived.IntWalk
import Derived.Laws.Entries
import Derived.Laws.World
import Derived.KernelRfl
set_option linter.unusedSimpArgs false
set_option linter.unusedVariables false
namespace Go.Proofs.Ytlajgickimgigaa
open Go.RowKit

/-! ## Frames as lists of the slots that are known -/
abbrev Fr := List (Nat × Value)
theorem beq_ne {d t : Nat} (e : ¬ d = t) : Nat.beq d t = false := by
  cases h : Nat.beq d t
  · rfl
  · exact absurd (Nat.eq_of_beq_eq_true h) e
def gt : Fr → Nat → Option Value
  | [], _ => none
  | (i, v) :: r, t => bif Nat.beq i t then some v else gt r t
def evo (f : Fr) : Operand → Option Value
  | .tmp t => gt f t
  | .const v => some v
  | .global g => some (.pointer (some ⟨g, 0, none⟩))
  | .func i => some (.func (.func i) #[] #[])
def evs (f : Fr) : List Operand → Option (List Value)
  | [] => some []
  | x :: r => match evo f x, evs f r with | some v, some vs => some (v :: vs) | _, _ => none
/-- The act a has N temporaries, of which the listed ones hold the listed values. -/
structure Rds (N : Nat) (a : Act) (f : Fr) (ds : List Deferred) : Prop where
  size : a.tmps.size = N
  get : ∀ t v, gt f t = some v → a.tmps[t]? = some v
  defers : a.defers = ds
theorem Rds.eval {N : Nat} {a : Act} {f : Fr} {ds : List Deferred} (h : Rds N a f ds) {x : Operand} {v : Value} (hx : evo f x = some v) : a.eval x = v := by
  cases x with
  | tmp t => have := h.get t v hx; simp [Act.eval, Array.getD_eq_getD_getElem?, this]
  | const u => simpa [evo, Act.eval] using hx
  | global g => simpa [evo, Act.eval] using hx
  | func i => simpa [evo, Act.eval] using hx
theorem Rds.evals {N : Nat} {a : Act} {f : Fr} {ds : List Deferred} (h : Rds N a f ds) : ∀ {xs : List Operand} {vs : List Value}, evs f xs = some vs → xs.map a.eval = vs
  | [], vs, hx => by simpa [evs] using hx
  | x :: r, vs, hx => by
    unfold evs at hx
    split at hx
    · rename_i v ws hv hw
      cases hx
      simp [h.eval hv, h.evals hw]
    · cases hx
theorem Rds.evalsA {N : Nat} {a : Act} {f : Fr} {ds : List Deferred} (h : Rds N a f ds) {xs : Array Operand} {vs : List Value} (hx : evs f xs.toList = some vs) : xs.map a.eval = vs.toArray := by
  have := h.evals hx; rw [← this, ← List.map_toArray]
theorem Rds.put {N : Nat} {a : Act} {f : Fr} {ds : List Deferred} (h : Rds N a f ds) (d : Nat) (hd : Nat.blt d N = true) (v : Value) : Rds N (a.put (some d) v) ((d, v) :: f) ds := by
  have hd' : d < N := Nat.le_of_ble_eq_true hd
  refine ⟨by simp [Act.put, h.size], fun t u hu => ?_, h.defers⟩
  simp only [gt] at hu
  by_cases e : d = t
  · subst e
    simp at hu
    subst hu
    simp [Act.put, h.size, hd']
  · rw [show Nat.beq d t = false from beq_ne e] at hu
    simp only [cond_false] at hu
    simp [Act.put, e, h.get t u hu]
def sub : Fr → Fr → Prop
  | [], _ => True
  | (t, v) :: r, f => gt f t = some v ∧ sub r f
theorem sub_get : ∀ {f' f : Fr}, sub f' f → ∀ t v, gt f' t = some v → gt f t = some v
  | [], _, _, t, v, h => by cases h
  | (i, u) :: r, f, hs, t, v, h => by
    simp only [gt] at h
    by_cases e : i = t
    · subst e; simp at h; subst h; exact hs.1
    · rw [show Nat.beq i t = false from beq_ne e] at h
      exact sub_get hs.2 t v h
theorem Rds.weak {N : Nat} {a : Act} {f f' : Fr} {ds : List Deferred} (h : Rds N a f ds) (hs : sub f' f) : Rds N a f' ds :=
  ⟨h.size, fun t v ht => h.get t v (sub_get hs t v ht), h.defers⟩
def argsFr : Nat → List Value → Fr
  | _, [] => []
  | i, v :: r => (i, v) :: argsFr (i + 1) r
theorem argsFr_get : ∀ (l : List Value) (i t : Nat) (v : Value), gt (argsFr i l) t = some v → i ≤ t ∧ l[t - i]? = some v
  | [], i, t, v, h => by cases h
  | u :: r, i, t, v, h => by
    simp only [argsFr, gt] at h
    by_cases e : i = t
    · subst e; simp at h; subst h; simp
    · rw [show Nat.beq i t = false from beq_ne e] at h
      obtain ⟨h1, h2⟩ := argsFr_get r (i + 1) t v h
      refine ⟨by omega, ?_⟩
      rw [show t - i = (t - (i + 1)) + 1 from by omega, List.getElem?_cons_succ]
      exact h2

/-- What is asked at every act that reads as the frame does. -/
def G (N : Nat) (K : Act → World → Prop) (f : Fr) (ds : List Deferred) (w : World) : Prop := ∀ a, Rds N a f ds → K a w
def GQ (N : Nat) (K : Act → Prop) (f : Fr) (ds : List Deferred) : Prop := ∀ a, Rds N a f ds → K a
theorem g_weak {N : Nat} {K : Act → World → Prop} {f : Fr} {ds : List Deferred} {w : World} (f' : Fr) (hs : sub f' f) (h : G N K f' ds w) : G N K f ds w := fun a ha => h a (ha.weak hs)
theorem q_weak {N : Nat} {K : Act → Prop} {f : Fr} {ds : List Deferred} (f' : Fr) (hs : sub f' f) (h : GQ N K f' ds) : GQ N K f ds := fun a ha => h a (ha.weak hs)

section
variable {P : Program} {N : Nat} {Q : Exit → Act → World → Prop} {f : Fr} {ds : List Deferred} {w : World}
theorem enter {g : FuncId} {fn : Func} {c : Code} {args : Array Value} {R : Ending → World → Prop} (N : Nat) (hf : P.funcs[g]? = some fn) (hb : fn.body = some c) (hN : fn.ntmps = N) (hA : Nat.ble args.size N = true)
    (h : G N (c.wp P (bodyPost P fn R)) (argsFr 0 args.toList) [] w) : Calls P g args w R := by
  refine calls_of_wp hf hb (h _ ⟨?_, fun t v ht => ?_, rfl⟩)
  · have : args.size ≤ N := Nat.le_of_ble_eq_true hA
    simp [hN]; omega
  · obtain ⟨_, h2⟩ := argsFr_get _ 0 t v ht
    have h3 : args[t]? = some v := by simpa using h2
    have h4 : t < args.size := (Array.getElem?_eq_some_iff.1 h3).1
    show (args ++ _)[t]? = _
    rw [Array.getElem?_append_left h4]; exact h3
theorem enter_d {g : FuncId} {fn : Func} {c : Code} {args : Array Value} {R : Ending → World → Prop} (N : Nat) (hf : P.funcs[g]? = some fn) (hb : fn.body = some c) (hN : fn.ntmps = N) (hA : Nat.ble args.size N = true)
    (h : G N (c.wp P (bodyPostD P fn R)) (argsFr 0 args.toList) [] w) : Calls P g args w R := by
  refine calls_of_wp_defers hf hb (h _ ⟨?_, fun t v ht => ?_, rfl⟩)
  · have : args.size ≤ N := Nat.le_of_ble_eq_true hA
    simp [hN]; omega
  · obtain ⟨_, h2⟩ := argsFr_get _ 0 t v ht
    have h3 : args[t]? = some v := by simpa using h2
    have h4 : t < args.size := (Array.getElem?_eq_some_iff.1 h3).1
    show (args ++ _)[t]? = _
    rw [Array.getElem?_append_left h4]; exact h3
theorem g_seq {x y : Code} (h : G N (x.wp P (Exit.then (y.wp P Q) Q)) f ds w) : G N ((Code.seq x y).wp P Q) f ds w := fun a ha => wp_seq (h a ha)
theorem g_skip (h : G N (Q .normal) f ds w) : G N (Code.skip.wp P Q) f ds w := fun a ha => wp_skip (h a ha)
theorem g_then {K : Act → World → Prop} (h : G N K f ds w) : G N (Exit.then K Q .normal) f ds w := h
theorem g_then_ret {K : Act → World → Prop} (h : G N (Q .ret) f ds w) : G N (Exit.then K Q .ret) f ds w := h
theorem g_then_exit {K : Act → World → Prop} {i : Nat} (h : G N (Q (.exit i)) f ds w) : G N (Exit.then K Q (.exit i)) f ds w := h
theorem g_then_panic {K : Act → World → Prop} {i : List PanicEntry} (h : G N (Q (.panic i)) f ds w) : G N (Exit.then K Q (.panic i)) f ds w := h
theorem g_in {i : Nat} (h : G N (Q .normal) f ds w) : G N (Exit.inBlock i Q .normal) f ds w := h
theorem g_in_ret {i : Nat} (h : G N (Q .ret) f ds w) : G N (Exit.inBlock i Q .ret) f ds w := h
theorem g_in_panic {i : Nat} {c : List PanicEntry} (h : G N (Q (.panic c)) f ds w) : G N (Exit.inBlock i Q (.panic c)) f ds w := h
theorem g_in_hit {i : Nat} (h : G N (Q .normal) f ds w) : G N (Exit.inBlock i Q (.exit i)) f ds w := fun a ha => by
  show if i = i then _ else _
  rw [if_pos rfl]; exact h a ha
theorem g_in_miss {i j : Nat} (hne : Nat.beq j i = false) (h : G N (Q (.exit j)) f ds w) : G N (Exit.inBlock i Q (.exit j)) f ds w := fun a ha => by
  show if j = i then _ else _
  rw [if_neg (fun e => by rw [e] at hne; simp [Nat.beq_refl] at hne)]; exact h a ha
theorem g_block {i : Nat} {c : Code} (h : G N (c.wp P (Exit.inBlock i Q)) f ds w) : G N ((Code.block i c).wp P Q) f ds w := fun a ha => wp_block (h a ha)
theorem g_exit {i : Nat} (h : G N (Q (.exit i)) f ds w) : G N ((Code.exit i).wp P Q) f ds w := fun a ha => wp_exit (h a ha)
theorem g_ret (h : G N (Q .ret) f ds w) : G N (Code.ret.wp P Q) f ds w := fun a ha => wp_ret (h a ha)
theorem g_label {l : Nat} (h : G N (Q .normal) f ds w) : G N ((Code.label l).wp P Q) f ds w := fun a ha => wp_label (h a ha)
theorem g_cond {c : Operand} {x y : Code} {b : Bool} (hc : evo f c = some (.bool b)) (ht : b = true → G N (x.wp P Q) f ds w) (hf : b = false → G N (y.wp P Q) f ds w) : G N ((Code.cond c x y).wp P Q) f ds w :=
  fun a ha => wp_cond_split (ha.eval hc) (fun e => ht e a ha) (fun e => hf e a ha)
theorem g_cond_t {c : Operand} {x y : Code} {b : Bool} (hc : evo f c = some (.bool b)) (hb : b = true) (ht : G N (x.wp P Q) f ds w) : G N ((Code.cond c x y).wp P Q) f ds w :=
  fun a ha => wp_cond_true (by rw [ha.eval hc, hb]) (ht a ha)
theorem g_cond_f {c : Operand} {x y : Code} {b : Bool} (hc : evo f c = some (.bool b)) (hb : b = false) (ht : G N (y.wp P Q) f ds w) : G N ((Code.cond c x y).wp P Q) f ds w :=
  fun a ha => wp_cond_false (by rw [ha.eval hc, hb]) (ht a ha)
theorem wp_loop_ix {ι : Type} {c : Code} {a : Act} (I : ι → Act → World → Prop) (μ : ι → Nat) (i0 : ι) (h0 : I i0 a w)
    (round : ∀ i a w, I i a w → c.wp P (Exit.then (fun a' w' => ∃ j, I j a' w' ∧ μ j < μ i) Q) a w) : (Code.loop c).wp P Q a w := by
  intro b k cs
  have key : ∀ n i a w, μ i = n → I i a w →
      ∃ e a' w', Q e a' w' ∧ Arrives P (lone (b.at a (.code c :: .inLoop c :: k)) cs w) b k cs e a' w' := by
    intro n
    induction n using Nat.strongRecOn with
    | _ n ih =>
      intro i a w hn hI
      obtain ⟨e, a₁, w₁, hq, harr⟩ := round i a w hI b (.inLoop c :: k) cs
      cases e with
      | normal =>
        obtain ⟨j, hI₁, hlt⟩ := hq
        obtain ⟨e₂, a₂, w₂, hq₂, harr₂⟩ := ih (μ j) (hn ▸ hlt) j a₁ w₁ rfl hI₁
        exact ⟨e₂, a₂, w₂, hq₂, .of_steps (Steps.trans harr (.one step_inLoop)) harr₂⟩
      | exit id => exact ⟨_, a₁, w₁, hq, .pass (x := .inLoop c) rfl (fun _ _ => .inl (by simp)) harr⟩
      | goto l => exact ⟨_, a₁, w₁, hq, .pass (x := .inLoop c) rfl (fun _ _ => .inl (by simp)) harr⟩
      | ret => exact ⟨_, a₁, w₁, hq, .pass (x := .inLoop c) rfl (fun _ _ => .inl (by simp)) harr⟩
      | panic ch => exact ⟨_, a₁, w₁, hq, .pass (x := .inLoop c) rfl (fun _ _ => .inl (by simp)) harr⟩
      | outgrown => exact ⟨_, a₁, w₁, hq, .pass (x := .inLoop c) rfl (fun _ _ => .inl (by simp)) harr⟩
  obtain ⟨e, a', w', hq, harr⟩ := key _ i0 a w rfl h0
  exact ⟨e, a', w', hq, .of_steps (.one step_loop) harr⟩
/-- A loop: what the frame holds and what holds of the world, by an index; each round lowers the measure. -/
theorem g_loop {ι : Type} {c : Code} (F : ι → Fr) (I : ι → World → Prop) (μ : ι → Nat) (i0 : ι) (hs : sub (F i0) f) (h0 : I i0 w)
    (round : ∀ i w, I i w → G N (c.wp P (Exit.then (fun a' w' => ∃ j, (Rds N a' (F j) ds ∧ I j w') ∧ μ j < μ i) Q)) (F i) ds w) : G N ((Code.loop c).wp P Q) f ds w := fun a ha =>
  wp_loop_ix (fun i a w => Rds N a (F i) ds ∧ I i w) μ i0 ⟨ha.weak hs, h0⟩ (fun i a w ⟨h1, h2⟩ => round i w h2 a h1)
theorem g_round {ι : Type} {F : ι → Fr} {I : ι → World → Prop} {μ : ι → Nat} {i : ι} (j : ι) (hs : sub (F j) f) (h : I j w) (hμ : μ j < μ i) :
    G N (fun a' w' => ∃ j, (Rds N a' (F j) ds ∧ I j w') ∧ μ j < μ i) f ds w := fun _ ha => ⟨j, ⟨ha.weak hs, h⟩, hμ⟩
/-- A cut: what holds behind a piece of code, by an index. -/
theorem g_cut {ι : Type} {c : Code} {K : Act → World → Prop} (F : ι → Fr) (I : ι → World → Prop)
    (hc : G N (c.wp P (Exit.then (fun a' w' => ∃ j, Rds N a' (F j) ds ∧ I j w') Q)) f ds w) (hk : ∀ i w, I i w → G N K (F i) ds w) : G N (c.wp P (Exit.then K Q)) f ds w := fun a ha =>
  wp_mono (hc a ha) fun e a' w' h => by
    cases e with
    | normal => obtain ⟨j, h1, h2⟩ := h; exact hk j w' h2 a' h1
    | _ => exact h
theorem g_mid {ι : Type} {F : ι → Fr} {I : ι → World → Prop} (j : ι) (hs : sub (F j) f) (h : I j w) :
    G N (fun a' w' => ∃ j, Rds N a' (F j) ds ∧ I j w') f ds w := fun _ ha => ⟨j, ha.weak hs, h⟩
end
end Go.Proofs.Ytlajgickimgigaa
