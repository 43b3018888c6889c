import Derived.Test.YtlajgickimgigaaEr
import Derived.Recover
set_option linter.unusedSimpArgs false
set_option linter.unusedVariables false
namespace Go.Proofs.Ytlajgickimgigaa
open Go.RowKit

/-! ## Calls that turn some blocks: by their places in the list -/
def drops (ks : List Nat) : Nat → List Item → List Item
  | _, [] => []
  | i, it :: L => if ks.contains i then drops ks (i + 1) L else it :: drops ks (i + 1) L
theorem drops_sub (ks : List Nat) : ∀ (L : List Item) (i : Nat), (drops ks i L).Sublist L
  | [], _ => List.Sublist.refl _
  | it :: L, i => by
    unfold drops
    split
    · exact (drops_sub ks L (i + 1)).cons it
    · exact (drops_sub ks L (i + 1)).cons_cons it
theorem mem_drops (ks : List Nat) : ∀ (L : List Item) (i : Nat) (x : Item), x ∈ drops ks i L → ∃ j, ks.contains (i + j) = false ∧ L[j]? = some x
  | [], _, x, h => by unfold drops at h; cases h
  | it :: L, i, x, h => by
    unfold drops at h
    split at h
    · obtain ⟨j, h1, h2⟩ := mem_drops ks L (i + 1) x h
      exact ⟨j + 1, by rw [show i + (j + 1) = i + 1 + j from by omega]; exact h1, h2⟩
    · rename_i hc
      rcases List.mem_cons.1 h with rfl | h
      · exact ⟨0, by simpa using hc, rfl⟩
      · obtain ⟨j, h1, h2⟩ := mem_drops ks L (i + 1) x h
        exact ⟨j + 1, by rw [show i + (j + 1) = i + 1 + j from by omega]; exact h1, h2⟩
theorem S.absorbK {w w1 : World} {L new : List Item} {X : Nat → Prop} (h : S w L) (ks : List Nat) (hX : ∀ g, X g → ∃ k, ks.contains k = true ∧ ∃ it, L[k]? = some it ∧ it.fp g) (h1 : S w1 (new ++ [Old w X])) : S w1 (new ++ drops ks 0 L) := by
  refine h.absorbX (drops_sub ks L 0) (fun it hit g hg hx => ?_) h1
  obtain ⟨j, hj, hL⟩ := mem_drops ks L 0 it hit
  obtain ⟨k, hk, it', hk', hf⟩ := hX g hx
  exact pair_of h.2 hL hk' (fun e => by subst e; rw [Nat.zero_add] at hj; rw [hj] at hk; cases hk) g hg hf
/-- To begin, with two blocks told. -/
theorem S.begin2 {w : World} {g g' : Nat} {o o' : Obj} (h : w.heap[g]? = some o) (h' : w.heap[g']? = some o') (hne : g ≠ g') : S w [Ob g o, Ob g' o', Old w (fun i => i = g ∨ i = g')] := by
  have h1 : S w [Old w (fun i => i = g ∨ i = g')] := ⟨fun it hit => by
    rw [List.mem_singleton] at hit; subst hit
    exact ⟨Same.rfl', fun g hg => hg.1⟩, List.pairwise_singleton _ _⟩
  refine (h1.cons (it := Ob g' o') h' (fun i hi => by cases hi; exact (Array.getElem?_eq_some_iff.1 h').1) (fun x hx i hi => ?_)).cons (it := Ob g o) h (fun i hi => by cases hi; exact (Array.getElem?_eq_some_iff.1 h).1) (fun x hx i hi => ?_)
  · rw [List.mem_singleton] at hx; subst hx; cases hi; exact fun hx => hx.2 (.inr rfl)
  · cases hi
    rcases List.mem_cons.1 hx with rfl | hx
    · exact fun e => hne e
    · rw [List.mem_singleton] at hx; subst hx; exact fun hx => hx.2 (.inl rfl)

/-- To begin, with some blocks told. -/
theorem S.beginL {w : World} : ∀ (gs : List (Nat × Obj)), (∀ p ∈ gs, w.heap[p.1]? = some p.2) → (gs.map Prod.fst).Nodup → ∀ (X : Nat → Prop), (∀ i, X i ↔ i ∈ gs.map Prod.fst) → S w (gs.map (fun p => Ob p.1 p.2) ++ [Old w X])
  | gs, h, hn, X, hX => by
    have h1 : S w [Old w X] := ⟨fun it hit => by
      rw [List.mem_singleton] at hit; subst hit
      exact ⟨Same.rfl', fun g hg => hg.1⟩, List.pairwise_singleton _ _⟩
    have key : ∀ l : List (Nat × Obj), (∀ p ∈ l, w.heap[p.1]? = some p.2) → (l.map Prod.fst).Nodup → (∀ i ∈ l.map Prod.fst, X i) → S w (l.map (fun p => Ob p.1 p.2) ++ [Old w X]) := by
      intro l
      induction l with
      | nil => exact fun _ _ _ => h1
      | cons p l ih =>
        intro hl hnl hXl
        simp only [List.map_cons, List.nodup_cons, List.cons_append] at hnl ⊢
        refine (ih (fun q hq => hl q (List.mem_cons_of_mem _ hq)) hnl.2 (fun i hi => hXl i (by simp only [List.map_cons]; exact List.mem_cons_of_mem _ hi))).cons (hl p (List.mem_cons_self ..)) (fun i hi => ?_) (fun x hx i hi => ?_)
        · cases hi; exact (Array.getElem?_eq_some_iff.1 (hl p (List.mem_cons_self ..))).1
        · cases hi
          rcases List.mem_append.1 hx with hx | hx
          · obtain ⟨q, hq, rfl⟩ := List.mem_map.1 hx
            exact fun e => hnl.1 (List.mem_map.2 ⟨q, hq, (show q.1 = p.1 from e.symm)⟩)
          · rw [List.mem_singleton] at hx; subst hx
            exact fun hx => hx.2 (hXl _ (by simp))
    exact key gs h hn (fun i hi => (hX i).2 hi)
theorem S.ne {w : World} {L : List Item} (h : S w L) {i j g g' : Nat} {o o' : Obj} (hi : L[i]? = some (Ob g o)) (hj : L[j]? = some (Ob g' o')) (hne : i ≠ j) : g ≠ g' := fun e => pair_of h.2 hi hj hne g rfl e
/-- A slice that is only read: its block, so much of it as reads. -/
def RO (p : Option Addr) (n c size : Nat) (xs : List Value) : Item :=
  ⟨fun g => 0 < n ∧ ∃ o, p = some ⟨g, o, none⟩, fun w => xs.length = n * size ∧ n ≤ c ∧ (0 < n → ∃ g o, p = some ⟨g, o, none⟩ ∧ ∀ j u, xs[j]? = some u → w.cell? ⟨g, o + j, none⟩ = some u), fun h ⟨k1, k2, k3⟩ => ⟨k1, k2, fun hn => by
    obtain ⟨g, o, e, hc⟩ := k3 hn
    exact ⟨g, o, e, fun j u hu => (World.cell?_of_block (h.block g ⟨hn, o, e⟩)).trans (hc j u hu)⟩⟩⟩
theorem S.ro {w : World} {L : List Item} {k : Nat} {p : Option Addr} {n c size : Nat} {xs : List Value} (h : S w L) (hk : L[k]? = some (RO p n c size xs)) : xs.length = n * size ∧ n ≤ c ∧ (0 < n → ∃ g o, p = some ⟨g, o, none⟩ ∧ ∀ j u, xs[j]? = some u → w.cell? ⟨g, o + j, none⟩ = some u) := h.at hk
theorem S.absorbNew {w w' : World} {L : List Item} (h : S w L) (hb : Below w.heap.size w w') (it : Item) (hok : it.ok w') (hfp : ∀ g, it.fp g → w.heap.size ≤ g ∧ g < w'.heap.size) : S w' (it :: L) :=
  (h.absorb (new := []) (S.of_below hb)).cons hok (fun g hg => (hfp g hg).2) (fun x hx g hg hx' => absurd ((h.1 x hx).2 g hx') (by have := (hfp g hg).1; omega))
section
variable {P : Program} {N : Nat} {Q : Exit → Act → World → Prop} {f : Fr} {ds : List Deferred} {w w' : World} {o : Oper} {ops : Array Oper} {L : List Item} {K : Act → World → Prop}
theorem x_indexRun {t : TypeId} {x y : Operand} {v i u : Value} (ho : o.op = .index t x y) (hx : evo f x = some v) (hy : evo f y = some i) (hr : ∀ w, (Instr.index t v i).run P w = .ok u w) : Ex P N f ds o w u w :=
  ex_of (x := Instr.index t v i) (fun a ha => by unfold execOp; simp only [ho, ha.eval hx, ha.eval hy]) (hr w)
/-- A store of one cell, the place a letter. -/
theorem s_store1 {t : TypeId} {x y : Operand} {g i : Nat} {cs : Array Value} {e : TypeId} {v : Value} (H : S w L) (k : Nat) (hw : Wt ops f o) (hd : o.dst = none) (ho : o.op = .store t x y) (hx : evo f x = some (.pointer (some ⟨g, i, none⟩)))
    (hy : evo f y = some v) (hk : L[k]? = some (Ob g (.cells cs e (0, 0)))) (hn : szO P t = some 1) (hv : v.cells = #[v]) (h1 : v.oneCell' = true) (hi : i < cs.size)
    (h : ∀ w', S w' (L.set k (Ob g (.cells (cs.setIfInBounds i v) e (0, 0)))) → G N K f ds w') : G N (StepK P ops Q o K) f ds w := by
  have hr := run_storeR (P := P) (t := t) (g := g) (i := i) (v := v) (H.ob hk) (by rw [hv]; exact hn) (by rw [hv]; exact hi) (by rw [hv]; simpa using h1)
  rw [hv] at hr
  have hc : (cs.toList.take i ++ (#[v] : Array Value).toList ++ cs.toList.drop (i + (#[v] : Array Value).size)).toArray = cs.setIfInBounds i v := by
    apply Array.ext'
    simp only [Array.toList_setIfInBounds, List.size_toArray, List.length_cons, List.length_nil]
    rw [List.set_eq_take_append_cons_drop, if_pos (by simpa using hi)]
    simp
  rw [hc] at hr
  exact s_unit hw hd (exu_store ho hx hy hr) (h _ (H.setRow hk _))
end
/-! ## Deferred calls -/
section
variable {P : Program} {N : Nat} {f : Fr} {ds : List Deferred} {w : World}
/-- What recover hands back, and how the caller goes on. -/
def recV : FrameMode → Value × FrameMode
  | .panicking ({ v, recovered := false, goexit := false } :: older) => (v, .panicking ({ v, recovered := true } :: older))
  | u => (.nilIface, u)
theorem recoverD_eq (c : Frame) (cs : List Frame) : recoverD (c :: cs) = none ∧ recV c.mode = (.nilIface, c.mode) ∨ recoverD (c :: cs) = some ((recV c.mode).1, { c with mode := (recV c.mode).2 } :: cs) := by
  obtain ⟨fn, tmps, todo, defers, mode, kind, roundOf⟩ := c
  cases mode with
  | run => exact .inl ⟨rfl, rfl⟩
  | returning => exact .inl ⟨rfl, rfl⟩
  | panicking l =>
    cases l with
    | nil => exact .inl ⟨rfl, rfl⟩
    | cons e older =>
      obtain ⟨v, r, g⟩ := e
      cases r <;> cases g
      · exact .inr rfl
      · exact .inl ⟨rfl, rfl⟩
      · exact .inl ⟨rfl, rfl⟩
      · exact .inl ⟨rfl, rfl⟩
/-- A deferred function whose first statement is 'x := recover()'. -/
theorem callsD_rec {g : FuncId} {fn : Func} {args : Array Value} {u : FrameMode} {R : Ending → FrameMode → World → Prop} {id : Nat} {o1 o2 : Oper} {rest : Code} {d1 d2 : Nat} {t1 : TypeId} (N : Nat)
    (hf : P.funcs[g]? = some fn) (hb : fn.body = some (.seq (.region id #[o1, o2] false) rest)) (hN : fn.ntmps = N) (hA : Nat.ble args.size N = true)
    (h1 : o1 = { dst := some d1, op := .call { callee := .builtin .recover, args := #[], argTypes := #[] }, type := t1, pos := o1.pos, after := o1.after, guard := none })
    (hg2 : o2.guard = none) (ho2 : o2.op = .assign (.tmp d1)) (hd2 : o2.dst = some d2) (hn1 : Nat.blt d1 N = true) (hn2 : Nat.blt d2 N = true)
    (h : G N (rest.wp P (bodyPost P fn (fun e w' => R e (recV u).2 w'))) ((d2, (recV u).1) :: (d1, (recV u).1) :: argsFr 0 args.toList) [] w) : CallsD P g args u w R := by
  refine callsD_of_wpS hf hb (fun c₀ cs hu => ?_)
  refine wpS_seq (wpS_region ?_)
  -- the frame at the start
  have hr0 : Rds N { tmps := args ++ Array.replicate (fn.ntmps - args.size) undef, defers := [] } (argsFr 0 args.toList) [] := by
    have hsz : args.size ≤ N := Nat.le_of_ble_eq_true hA
    refine ⟨by simp [hN]; omega, fun t v ht => ?_, rfl⟩
    obtain ⟨_, h2⟩ := argsFr_get _ 0 t v ht
    have h3 : args[t]? = some v := by simpa using h2
    have h4 : t < args.size := (Array.getElem?_eq_some_iff.1 h3).1
    show (args ++ _)[t]? = _
    rw [Array.getElem?_append_left h4]; exact h3
  generalize ({ tmps := args ++ Array.replicate (fn.ntmps - args.size) undef, defers := [] } : Act) = a0 at hr0 ⊢
  -- what is left behind the two operations
  have key : ∀ (v : Value) (u' : FrameMode), recV u = (v, u') → ∀ cs', cs' = { c₀ with mode := u' } :: cs →
      wpOpsS P #[o1, o2] (Exit.thenS (rest.wpS P (bodyPostS P fn c₀ cs R)) (bodyPostS P fn c₀ cs R)) [1] (a0.put (some d1) v) cs' w := by
    intro v u' hv cs' hcs
    have e1 : (#[o1, o2] : Array Oper)[1]? = some o2 := rfl
    simp only [wpOpsS, e1, Region.wanted, hg2, if_true]
    have hr1 := hr0.put d1 hn1 v
    have hx : (execOp (a0.put (some d1) v).eval o2).run P w = .ok (.value v) w := x_assign (P := P) ho2 (show evo ((d1, v) :: argsFr 0 args.toList) (.tmp d1) = some v by simp [evo, gt, Nat.beq_refl]) _ hr1
    rw [hx]
    simp only [Oper.upon, hd2]
    have hr2 := hr1.put d2 hn2 v
    rw [hv] at h
    show Code.wpS P rest (bodyPostS P fn c₀ cs R) _ cs' w
    refine wpS_of_wp (wp_mono (h _ hr2) (fun e a w hq => ?_))
    subst hcs
    cases e with
    | normal => exact ⟨hq.1, u', rfl, hq.2⟩
    | ret => exact ⟨hq.1, u', rfl, hq.2⟩
    | panic c => exact ⟨hq.1, u', rfl, hq.2⟩
    | outgrown => exact ⟨u', hq⟩
    | exit _ => exact hq
    | goto _ => exact hq
  have e0 : (#[o1, o2] : Array Oper)[0]? = some o1 := rfl
  have hx0 : (execOp a0.eval o1).run P w = .ok .recover w := by rw [h1]; rfl
  have hgd : o1.guard = none := by rw [h1]
  have hdd : o1.dst = some d1 := by rw [h1]
  show wpOpsS P #[o1, o2] _ [0, 1] a0 (c₀ :: cs) w
  unfold wpOpsS
  simp only [e0, Region.wanted, hgd, if_true, hx0, hdd]
  rcases recoverD_eq c₀ cs with ⟨h3, h4⟩ | h3
  · rw [h3]
    exact key _ _ (by rw [← hu]; exact h4) _ rfl
  · rw [h3]
    rw [hu]
    exact key _ _ rfl _ rfl
/-- A deferred function that does not recover. -/
theorem callsD_plain {g : FuncId} {fn : Func} {c : Code} {args : Array Value} {u : FrameMode} {R : Ending → World → Prop} (N : Nat) (hf : P.funcs[g]? = some fn) (hb : fn.body = some c) (hN : fn.ntmps = N) (hA : Nat.ble args.size N = true)
    (h : G N (c.wp P (bodyPost P fn R)) (argsFr 0 args.toList) [] w) : CallsD P g args u w (fun e u' w' => u' = u ∧ R e w') := by
  refine callsD_of_wp hf hb (h _ ⟨?_, fun t v ht => ?_, rfl⟩)
  · have : args.size ≤ N := Nat.le_of_ble_eq_true hA
    simp [hN]; omega
  · obtain ⟨_, h2⟩ := argsFr_get _ 0 t v ht
    have h3 : args[t]? = some v := by simpa using h2
    have h4 : t < args.size := (Array.getElem?_eq_some_iff.1 h3).1
    show (args ++ _)[t]? = _
    rw [Array.getElem?_append_left h4]; exact h3
theorem CallsD.mono {g : FuncId} {args : Array Value} {u : FrameMode} {R R' : Ending → FrameMode → World → Prop} (h : CallsD P g args u w R) (hr : ∀ e u' w', R e u' w' → R' e u' w') : CallsD P g args u w R' :=
  fun c cs hu => let ⟨e, u', w', fr, r, rest⟩ := h c cs hu; ⟨e, u', w', fr, hr _ _ _ r, rest⟩
/-- What is left of a body: the deferred calls. -/
def GL (N : Nat) (P : Program) (fn : Func) (R : Ending → World → Prop) (f : Fr) (ds : List Deferred) (u : FrameMode) (w : World) : Prop := ∀ a, Rds N a f a.defers → Leaves P fn a.tmps R ds u w
theorem fin_dret {fn : Func} {R : Ending → World → Prop} (h : GL N P fn R f ds .returning w) : G N (bodyPostD P fn R .ret) f ds w := fun a ha => by
  have := h a ⟨ha.size, ha.get, rfl⟩
  show Leaves P fn a.tmps R a.defers .returning w
  rw [ha.defers]; exact this
theorem fin_dend {fn : Func} {R : Ending → World → Prop} (h : GL N P fn R f ds .returning w) : G N (bodyPostD P fn R .normal) f ds w := fun a ha => by
  have := h a ⟨ha.size, ha.get, rfl⟩
  show Leaves P fn a.tmps R a.defers .returning w
  rw [ha.defers]; exact this
theorem fin_dpanic {fn : Func} {R : Ending → World → Prop} {c : List PanicEntry} (h : GL N P fn R f ds (.panicking c) w) : G N (bodyPostD P fn R (.panic c)) f ds w := fun a ha => by
  have := h a ⟨ha.size, ha.get, rfl⟩
  show Leaves P fn a.tmps R a.defers (.panicking c) w
  rw [ha.defers]; exact this
theorem gl_step {fn : Func} {R : Ending → World → Prop} {u : FrameMode} {g : FuncId} {args cap : Array Value} {RD : Ending → FrameMode → World → Prop} (hu : u ≠ .run) (hg : callable P g = true) (hc : CallsD P g (args ++ cap) u w RD)
    (h : ∀ e u' w', RD e u' w' → match e with | .returned _ => GL N P fn R f ds (settle u') w' | .panicked c => GL N P fn R f ds (raised u' c) w' | .outgrown => R .outgrown w') :
    GL N P fn R f ({ target := .fn (.func g) cap, args := args } :: ds) u w := fun a ha => by
  refine ⟨hu, .func g, cap, g, args ++ cap, rfl, ?_, hc.mono fun e u' w' hR => ?_⟩
  · show (callFunc g (args ++ cap)).run P w = _
    exact run_callFunc hg _
  · have := h e u' w' hR
    cases e with
    | returned v => exact this a ha
    | panicked c => exact this a ha
    | outgrown => exact this
theorem gl_ret {fn : Func} {R : Ending → World → Prop} (rs : List ResultVar) (vs : List Value) (hr : fn.results = rs.toArray) (h : resOk P f w rs vs) (hR : R (.returned (tupled vs)) w) : GL N P fn R f [] .returning w := fun a ha =>
  ⟨_, results_run ha hr h, hR⟩
theorem gl_panic {fn : Func} {R : Ending → World → Prop} {c : List PanicEntry} (hR : R (.panicked c) w) : GL N P fn R f [] (.panicking c) w := fun a ha => hR
end
section
variable {P : Program} {N : Nat} {f : Fr} {ds : List Deferred} {w : World} {o : Oper}
theorem xd_defer {x : Operand} {g : FuncId} {args : Array Operand} {ts : Array TypeId} {captured : Array Value} {vs : List Value} (ho : o.op = .defer { callee := .value x, args := args, argTypes := ts }) (hx : evo f x = some (.func (.func g) #[] captured)) (hv : evs f args.toList = some vs) :
    ExD P N f ds o w { target := .fn (.func g) captured, args := vs.toArray } w := fun a ha => by
  unfold execOp
  have he : args.map a.eval = vs.toArray := ha.evalsA hv
  simp only [ho, resolve, ha.eval hx, Deferred.ofValue, Sem.run_bind, Sem.run_pure, Result.andThen_ok, he, Array.empty_append]
theorem xp_panic {x : Operand} {t : TypeId} {v : Value} (ho : o.op = .panic x) (hx : evo f x = some (.iface t v)) : ExP P N f ds o w (.iface t v) w := fun a ha => by
  unfold execOp
  simp only [ho, ha.eval hx, Instr.panic, goPanic, Sem.run_bind]
  rfl
theorem x_makeInterface {t : TypeId} {x : Operand} {v : Value} {d : TypeDesc} (ho : o.op = .makeInterface t x) (hx : evo f x = some v) (hu : P.underlying t = some d) (hd : (match d with | .interface _ => true | _ => false) = false) : Ex P N f ds o w (.iface t v) w :=
  ex_of (x := Instr.makeInterface t v) (fun a ha => by unfold execOp; simp only [ho, ha.eval hx]) (by
    unfold Instr.makeInterface
    simp only [Sem.run_bind, run_underlying hu, Result.andThen_ok]
    cases d <;> simp at hd <;> rfl)
/-- x.(T), comma ok, at a value of that very type; T is no interface. -/
theorem x_assertOk {x : Operand} {xt t : TypeId} {v : Value} {d : TypeDesc} (ho : o.op = .typeAssert x xt t true) (hx : evo f x = some (.iface t v)) (hu : P.underlying t = some d) (hd : (match d with | .interface _ => true | _ => false) = false) : Ex P N f ds o w (.tuple #[v, .bool true]) w :=
  ex_of (x := Instr.typeAssert (.iface t v) xt t true) (fun a ha => by unfold execOp; simp only [ho, ha.eval hx]) (by
    unfold Instr.typeAssert
    simp only [Sem.run_bind, run_underlying hu, Result.andThen_ok]
    cases d <;> simp at hd <;> simp)
section
variable {t tt : TypeId} {v : Value} {xo yo : Operand} {c : Value}
theorem b_neqHeld (h : P.underlying t = some (.interface (P.methodsAt t))) : Bin P .neq t xo yo (.iface tt v) .nilIface w (.bool true) := by
  have h0 : (eqGuard .neq t xo yo (.iface tt v) .nilIface).run P w = .ok () w := rfl
  unfold Bin; rw [Sem.run_bind, h0]; exact run_neq_held_nil w t tt v h
theorem b_eqlHeld (h : P.underlying t = some (.interface (P.methodsAt t))) : Bin P .eql t xo yo (.iface tt v) .nilIface w (.bool false) := by
  have h0 : (eqGuard .eql t xo yo (.iface tt v) .nilIface).run P w = .ok () w := rfl
  unfold Bin; rw [Sem.run_bind, h0]; exact run_eql_held_nil w t tt v h
theorem guard_nil {op : BinOp} : (eqGuard op t xo (.const c) .nilIface .nilIface).run P w = .ok () w := by
  unfold eqGuard
  cases op <;> cases xo <;> rfl
theorem b_neqNil (h : P.underlying t = some (.interface (P.methodsAt t))) : Bin P .neq t xo (.const c) .nilIface .nilIface w (.bool false) := by
  unfold Bin; rw [Sem.run_bind, guard_nil]; exact run_neq_nil_nil w t h
theorem b_eqlNil (h : P.underlying t = some (.interface (P.methodsAt t))) : Bin P .eql t xo (.const c) .nilIface .nilIface w (.bool true) := by
  unfold Bin; rw [Sem.run_bind, guard_nil]; exact run_eql_nil_nil w t h
end
end
end Go.Proofs.Ytlajgickimgigaa
