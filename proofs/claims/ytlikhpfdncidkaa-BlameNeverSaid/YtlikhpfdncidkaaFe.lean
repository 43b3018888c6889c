import Derived.Test.YtlikhpfdncidkaaFd
set_option linter.unusedSimpArgs false
set_option linter.unusedVariables false
namespace Go.Proofs.Ytlikhpfdncidkaa
open Go.RowKit

/-! ## A function that defers and ranges over a function -/
/-- How a frame leaves: deferred functions and marks, in whatever order. -/
def LeavesW (P : Program) (fn : Func) (tmps : Array Value) (R : Ending → World → Prop) : List Deferred → FrameMode → World → Prop
  | [], u, w => Leaves P fn tmps R [] u w
  | d :: ds, u, w => u ≠ .run ∧
      ((∃ r w', d.target = .collected r ∧ (Instr.takeDeferred r).run P w = .ok [] w' ∧ LeavesW P fn tmps R ds u w') ∨
       (∃ fv cap f args, d.target = .fn fv cap ∧ (invoke d.target d.args).run P w = .ok (.enter f args) w ∧
        CallsD P f args u w fun
          | .returned _, u', w' => LeavesW P fn tmps R ds (settle u') w'
          | .panicked chain, u', w' => LeavesW P fn tmps R ds (raised u' chain) w'
          | .outgrown, _, w' => R .outgrown w'))
section
variable {P : Program}
theorem leaves_stepsW {fn : Func} {tmps : Array Value} {R : Ending → World → Prop} : ∀ (ds : List Deferred) (u : FrameMode) (w : World) (fr : Frame)
    (cs : List Frame), fr.mode = u → fr.defers = ds → fr.tmps = tmps → P.funcs[fr.fn]? = some fn → fr.kind = .normal → LeavesW P fn tmps R ds u w →
    ∃ e w' fr', R e w' ∧ Comes P (lone fr cs w) (lone fr' cs w') e ∧ fr'.fn = fr.fn ∧ fr'.leaving P w' e := by
  intro ds
  induction ds with
  | nil => exact fun u w fr cs hu hd ht hf hk h => leaves_steps [] u w fr cs hu hd ht hf hk h
  | cons d ds ih =>
    intro u w fr cs hu hd ht hf hk h
    obtain ⟨hrun, h⟩ := h
    rcases h with ⟨r, w', htar, htake, hrest⟩ | ⟨fv, cap, f, args, htar, hinv, hcall⟩
    · have h1 := step_collected (cs := cs) (hu ▸ hrun) hd htar htake
      obtain ⟨e', w'', fr', hR', hs', hfn', hl'⟩ := ih u w' { fr with defers := [] ++ ds } cs hu rfl ht hf hk hrest
      exact ⟨e', w'', fr', hR', Comes.of_steps (.one h1) hs', hfn', hl'⟩
    · have h1 := step_defer (cs := cs) (hu ▸ hrun) hd htar hinv
      obtain ⟨e, u', w', frX, hR, hsteps, hkX, hgo⟩ := hcall { fr with defers := ds } cs hu
      cases e with
      | returned v =>
        have h2 := step_going_returned (c := { { fr with defers := ds } with mode := u' }) (cs := cs) hkX hgo
        obtain ⟨e', w'', fr', hR', hs', hfn', hl'⟩ := ih (settle u') w' { { { fr with defers := ds } with mode := u' } with mode := settle u' } cs rfl rfl ht hf hk hR
        exact ⟨e', w'', fr', hR', Comes.of_steps (.head h1 (Steps.trans hsteps (.one h2))) hs', hfn', hl'⟩
      | panicked chain =>
        have h2 := step_going_panicked (c := { { fr with defers := ds } with mode := u' }) (cs := cs) hgo
        obtain ⟨e', w'', fr', hR', hs', hfn', hl'⟩ := ih (raised u' chain) w' { { { fr with defers := ds } with mode := u' } with mode := raised u' chain } cs rfl rfl ht hf hk hR
        exact ⟨e', w'', fr', hR', Comes.of_steps (.head h1 (Steps.trans hsteps (.one h2))) hs', hfn', hl'⟩
      | outgrown => exact ⟨.outgrown, w', fr, hR, Outgrown.of_steps (.one h1) hsteps, rfl, trivial⟩
def bodyPostW (P : Program) (fn : Func) (R : Ending → World → Prop) : Exit → Act → World → Prop
  | .normal, a, w | .ret, a, w => LeavesW P fn a.tmps R a.defers .returning w
  | .panic chain, a, w => LeavesW P fn a.tmps R a.defers (.panicking chain) w
  | .outgrown, _, w => R .outgrown w
  | _, _, _ => False
theorem calls_of_wp_W {n : Nat} {f : FuncId} {fn : Func} {c : Code} {args : Array Value} {w : World} {R : Ending → World → Prop}
    (hf : P.funcs[f]? = some fn) (hb : fn.body = some c)
    (h : c.wpIn Fence.wide n P (bodyPostW P fn R) { tmps := args ++ Array.replicate (fn.ntmps - args.size) undef, defers := [] } w) : Calls P f args w R := by
  intro cs
  let b : Frame := { (default : Frame) with fn := f, kind := .normal, roundOf := none }
  have henter : Frame.enter P f args .normal =
      b.atR { tmps := args ++ Array.replicate (fn.ntmps - args.size) undef, defers := [] } [.code c] := by
    simp [Frame.enter, Frame.atR, hf, hb, b]
  have hr : Fence.wide.room (cs.length + 1 + n) := room_wide _
  have hF : Fence.wide.fn b.fn := trivial
  obtain ⟨e, a', w', hq, harr⟩ := h b [] cs rfl hF hr
  rw [← henter] at harr
  cases e with
  | normal =>
    obtain ⟨e', w'', fr', hR, hs, hfn, hl⟩ := leaves_stepsW a'.defers .returning w' { b.atR a' [] with mode := .returning } cs rfl rfl rfl hf rfl hq
    exact ⟨e', w'', fr', hR, Comes.of_steps (stepsIn_wide.1 (StepsIn.trans harr (.one (fenced_calm (fr := b.atR a' []) hF hr rfl) (stepR_end rfl)))) hs, hfn, hl⟩
  | ret =>
    obtain ⟨todo, hs₀⟩ := harr.1 rfl
    obtain ⟨e', w'', fr', hR, hs, hfn, hl⟩ := leaves_stepsW a'.defers .returning w' { b.atR a' todo with mode := .returning } cs rfl rfl rfl hf rfl hq
    exact ⟨e', w'', fr', hR, Comes.of_steps (stepsIn_wide.1 hs₀) hs, hfn, hl⟩
  | panic chain =>
    obtain ⟨todo, hs₀⟩ := harr
    obtain ⟨e', w'', fr', hR, hs, hfn, hl⟩ := leaves_stepsW a'.defers (.panicking chain) w' { b.atR a' todo with mode := .panicking chain } cs rfl rfl rfl hf rfl hq
    exact ⟨e', w'', fr', hR, Comes.of_steps (stepsIn_wide.1 hs₀) hs, hfn, hl⟩
  | exit id => exact hq.elim
  | goto l => exact hq.elim
  | outgrown => exact ⟨.outgrown, w', b, hq, harr.resolve_left (by simp [b]), rfl, trivial⟩
end
section
variable {P : Program} {N : Nat} {f : Fr} {ds : List Deferred} {w : World} {L : List Item}
theorem enter_w {g : FuncId} {fn : Func} {c : Code} {args : Array Value} {R' : Ending → World → Prop} (N : Nat) (hf : P.funcs[g]? = some fn) (hb : fn.body = some c) (hN : fn.ntmps = N) (hA : Nat.ble args.size N = true)
    (h : G N (c.wpIn (WF none) 9 P (bodyPostW P fn R')) (argsFr 0 args.toList) [] w) : Calls P g args w R' := by
  refine calls_of_wp_W (n := 9) hf hb (h _ ⟨?_, fun t v ht => ?_, rfl⟩)
  · have : args.size ≤ N := Nat.le_of_ble_eq_true hA
    simp [hN]; omega
  · obtain ⟨_, h2⟩ := argsFr_get _ 0 t v ht
    have h3 : args[t]? = some v := by simpa using h2
    have h4 : t < args.size := (Array.getElem?_eq_some_iff.1 h3).1
    show (args ++ _)[t]? = _
    rw [Array.getElem?_append_left h4]; exact h3
/-- What is left of a body: the deferred calls and marks. -/
def GLW (N : Nat) (P : Program) (fn : Func) (R : Ending → World → Prop) (f : Fr) (ds : List Deferred) (u : FrameMode) (w : World) : Prop := ∀ a, Rds N a f a.defers → LeavesW P fn a.tmps R ds u w
theorem fin_wret {fn : Func} {R : Ending → World → Prop} (h : GLW N P fn R f ds .returning w) : G N (bodyPostW P fn R .ret) f ds w := fun a ha => by
  have := h a ⟨ha.size, ha.get, rfl⟩
  show LeavesW P fn a.tmps R a.defers .returning w
  rw [ha.defers]; exact this
theorem fin_wend {fn : Func} {R : Ending → World → Prop} (h : GLW N P fn R f ds .returning w) : G N (bodyPostW P fn R .normal) f ds w := fun a ha => by
  have := h a ⟨ha.size, ha.get, rfl⟩
  show LeavesW P fn a.tmps R a.defers .returning w
  rw [ha.defers]; exact this
theorem fin_wpanic {fn : Func} {R : Ending → World → Prop} {c : List PanicEntry} (h : GLW N P fn R f ds (.panicking c) w) : G N (bodyPostW P fn R (.panic c)) f ds w := fun a ha => by
  have := h a ⟨ha.size, ha.get, rfl⟩
  show LeavesW P fn a.tmps R a.defers (.panicking c) w
  rw [ha.defers]; exact this
theorem glw_step {fn : Func} {R : Ending → World → Prop} {u : FrameMode} {g : FuncId} {args cap : Array Value} {RD : Ending → FrameMode → World → Prop} (hu : u ≠ .run) (hg : callable P g = true) (hc : CallsD P g (args ++ cap) u w RD)
    (h : ∀ e u' w', RD e u' w' → match e with | .returned _ => GLW N P fn R f ds (settle u') w' | .panicked c => GLW N P fn R f ds (raised u' c) w' | .outgrown => R .outgrown w') :
    GLW N P fn R f ({ target := .fn (.func g) cap, args := args } :: ds) u w := fun a ha => by
  refine ⟨hu, .inr ⟨.func g, cap, g, args ++ cap, rfl, ?_, hc.mono fun e u' w' hR => ?_⟩⟩
  · show (callFunc g (args ++ cap)).run P w = _
    exact run_callFunc hg _
  · have := h e u' w' hR
    cases e with
    | returned v => exact this a ha
    | panicked c => exact this a ha
    | outgrown => exact this
theorem glw_mark {fn : Func} {R : Ending → World → Prop} {u : FrameMode} {D k : Nat} (hu : u ≠ .run) (H : S w L) (hk : L[k]? = some (Ob D (.deferred (some [])))) (h : ∀ w', S w' (L.set k (Ob D (.deferred none))) → GLW N P fn R f ds u w') :
    GLW N P fn R f (mark D :: ds) u w := fun a ha => by
  have hD : w.heap[D]? = some (.deferred (some [])) := H.ob hk
  have hlt : D < w.heap.size := (Array.getElem?_eq_some_iff.1 hD).1
  have hS := H.write hk (same_putObj w D (.deferred none)) (World.putObj_heap_same hlt)
  exact ⟨hu, .inl ⟨D, _, rfl, run_takeDeferred hD, h _ hS a ha⟩⟩
theorem glw_ret {fn : Func} {R : Ending → World → Prop} (rs : List ResultVar) (vs : List Value) (hr : fn.results = rs.toArray) (h : resOk P f w rs vs) (hR : R (.returned (tupled vs)) w) : GLW N P fn R f [] .returning w := fun a ha =>
  ⟨_, results_run ha hr h, hR⟩
theorem glw_panic {fn : Func} {R : Ending → World → Prop} {c : List PanicEntry} (hR : R (.panicked c) w) : GLW N P fn R f [] (.panicking c) w := fun a ha => hR
theorem l_defer {n : Nat} {Q : Exit → Act → World → Prop} {ops : Array Oper} {rest : List Oper} {o : Oper} {w' : World} {d : Deferred} (hw : Wt ops f o) (hd : o.dst = none) (hx : ExD P N f ds o w d w') (h : G N (wpListIn (WF none) n P ops Q rest) f (d :: ds) w') : G N (wpListIn (WF none) n P ops Q (o :: rest)) f ds w := fun a ha => by
  unfold wpListIn
  rw [if_pos (hw.wanted ha)]
  refine ⟨fun _ _ => trivial, ?_⟩
  rw [Oper.semAt_none, hx a ha, Oper.uponIn_defer, put_none hd]
  exact h _ ⟨ha.size, ha.get, by rw [← ha.defers]⟩
end
end Go.Proofs.Ytlikhpfdncidkaa
