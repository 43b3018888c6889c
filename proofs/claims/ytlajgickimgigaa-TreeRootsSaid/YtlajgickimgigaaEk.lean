import Derived.Test.YtlajgickimgigaaEg
set_option linter.unusedSimpArgs false
set_option linter.unusedVariables false
namespace Go.Proofs.Ytlajgickimgigaa
open Go.RowKit

/-! ## A range over a function: the caller -/
/-- From block B on the item tells of cells alone. -/
def Item.okB (it : Item) (B : Nat) : Prop := ∀ W g, it.ok W → it.fp g → B ≤ g → ∀ o, W.heap[g]? = some o → o.isCells = true
theorem okB_ob (g : Nat) (cs : Array Value) (e : TypeId) (fr : Nat × Nat) (B : Nat) : (Ob g (.cells cs e fr)).okB B := fun W k h hk _ o ho => by
  cases hk
  have h' : W.heap[g]? = some (.cells cs e fr) := h
  rw [h'] at ho; cases ho; rfl
theorem okB_rw (e size : Nat) (p : Option Addr) (n c : Nat) (xs : List Value) (B : Nat) : (Rw e size p n c xs).okB B := fun W k h hk _ o ho => by
  obtain ⟨q, hq⟩ := hk
  obtain ⟨_, _, _, h4⟩ := h
  rcases h4 with ⟨h4, _⟩ | ⟨g, o', cur, e1, e2, _⟩
  · rw [hq] at h4; cases h4
  · rw [hq] at e1; cases e1
    rw [e2] at ho; cases ho; rfl
theorem okB_old (w0 : World) (X : Nat → Prop) (B : Nat) (h : w0.heap.size ≤ B) : (Old w0 X).okB B := fun W k _ hk hB => by
  have := hk.1; omega
theorem S.grown {w w' : World} {L : List Item} {B : Nat} {row : Option Nat} (h : S w L) (hL : ∀ it ∈ L, it.okB B) (hg : w.grownBy w' row) (hr : ∀ r, row = some r → B ≤ r ∧ ∃ o : Obj, w.heap[r]? = some o ∧ o.isCells = false) : S w' L :=
  ⟨fun it hit => ⟨it.loc ⟨hg.os, hg.tape, hg.output, hg.size, fun g hf => hg.block g ((h.1 it hit).2 g hf) (fun e => by
    obtain ⟨hB, o, ho, hc⟩ := hr g e.symm
    have := hL it hit w g (h.1 it hit).1 hf hB o ho
    rw [hc] at this; cases this)⟩ (h.1 it hit).1, fun g hf => Nat.lt_of_lt_of_le ((h.1 it hit).2 g hf) hg.size⟩, h.2⟩
/-- Whatever is no cells, from block B on. -/
def NC (B : Nat) (W : World) : Item :=
  ⟨fun g => B ≤ g ∧ ∃ o : Obj, W.heap[g]? = some o ∧ o.isCells = false, fun W' => Same (fun g => B ≤ g ∧ ∃ o : Obj, W.heap[g]? = some o ∧ o.isCells = false) W W', fun h k => k.trans h⟩
theorem S.keep {w : World} {L : List Item} (h : S w L) (B : Nat) (hL : ∀ it ∈ L, it.okB B) : S w (NC B w :: L) :=
  h.cons Same.rfl' (fun g hg => by obtain ⟨_, o, ho, _⟩ := hg; exact (Array.getElem?_eq_some_iff.1 ho).1) (fun it hit g hg hf => by
    obtain ⟨hB, o, ho, hc⟩ := hg
    have := hL it hit w g (h.1 it hit).1 hf hB o ho
    rw [hc] at this; cases this)
theorem S.kept {w w' : World} {L : List Item} {k B : Nat} (h : S w' L) (hk : L[k]? = some (NC B w)) : KeepsFrom B w w' :=
  have h' : Same _ w w' := h.at hk
  ⟨h'.size, fun g o hB ho hc => (h'.block g ⟨hB, o, ho, hc⟩).trans ho⟩
def mark (D : Nat) : Deferred := { target := .collected D, args := #[] }
def lay : List Tmp → List Value → Fr → Fr
  | p :: ps, v :: vs, f => lay ps vs ((p, v) :: f)
  | _, _, f => f
theorem Rds.putL {N : Nat} : ∀ {ps : List Tmp} {vs : List Value} {a : Act} {f : Fr} {ds : List Deferred}, Rds N a f ds → (ps.all fun p => Nat.blt p N) = true → ps.length = vs.length →
    Rds N { tmps := (ps.zip vs).foldl (fun t (p, v) => t.setIfInBounds p v) a.tmps, defers := a.defers } (lay ps vs f) ds
  | [], [], a, f, ds, h, _, _ => h
  | p :: ps, v :: vs, a, f, ds, h, hN, hl => by
    simp only [List.all_cons, Bool.and_eq_true] at hN
    have := Rds.putL (ps := ps) (vs := vs) (h.put p hN.1 v) hN.2 (by simpa using hl)
    exact this
  | [], _ :: _, _, _, _, _, _, hl => by cases hl
  | _ :: _, [], _, _, _, _, _, hl => by cases hl
theorem Rds.putA {N : Nat} {ps : Array Tmp} {vs : Array Value} {a : Act} {f : Fr} {ds : List Deferred} (h : Rds N a f ds) (hN : (ps.toList.all fun p => Nat.blt p N) = true) (hl : vs.size = ps.size) :
    Rds N { tmps := (ps.zip vs).foldl (fun t (p, v) => t.setIfInBounds p v) a.tmps, defers := [] } (lay ps.toList vs.toList f) [] := by
  have h0 : Rds N { tmps := a.tmps, defers := [] } f [] := ⟨h.size, h.get, rfl⟩
  have := h0.putL (ps := ps.toList) (vs := vs.toList) hN (by simp [hl])
  rw [← Array.foldl_toList, Array.toList_zip]; exact this
section
variable {P : Program} {N : Nat} {Q : Exit → Act → World → Prop} {f : Fr} {ds : List Deferred} {w : World} {n : Nat} {ops : Array Oper} {rest : List Oper} {o : Oper} {L : List Item}
/-- What is asked where a round ends. -/
def RoundK {α : Type} (B : Nat) (Kp : World → World → Prop) (J Jx : List α → List Item → Prop) (xs : List α) (W : World) : Exit → Act → World → Prop :=
  ownPostG B Kp (fun pre W => ∃ Lx, J pre Lx ∧ S W Lx) (fun c pre W => c = .ret ∧ ∃ Lx, Jx pre Lx ∧ S W Lx) xs W
theorem roundK_no {α : Type} {B : Nat} {Kp : World → World → Prop} {J Jx : List α → List Item → Prop} {xs : List α} {W : World} : ¬ LetsOut (RoundK B Kp J Jx xs W) := fun ⟨_, _, h⟩ => h
theorem r_stop {α : Type} {B : Nat} {Kp : World → World → Prop} {J Jx : List α → List Item → Prop} {xs : List α} {W : World} {Lx : List Item} (k : Nat) (H : S w L) (hk : L[k]? = some (NC B W)) (hJ : Jx xs Lx) (hS : S w Lx) : G N (RoundK B Kp J Jx xs W .ret) f ds w :=
  fun _ _ => ⟨H.kept hk, rfl, Lx, hJ, hS⟩
theorem r_next {α : Type} {B : Nat} {Kp : World → World → Prop} {J Jx : List α → List Item → Prop} {xs : List α} {W : World} {Lx : List Item} (k : Nat) (H : S w L) (hk : L[k]? = some (NC B W)) (hKp : Kp W w) (hJ : J xs Lx) (hS : S w Lx) : G N (RoundK B Kp J Jx xs W .normal) f ds w :=
  fun _ _ => ⟨H.kept hk, hKp, Lx, hJ, hS⟩
/-- What is asked behind the assignment to the loop's variables. -/
def AssignK {α ι : Type} (N B : Nat) (Kp : World → World → Prop) (J : List α → List Item → Prop) (FA : α → ι → Fr) (LA : α → ι → List Item) (pre : List α) (x : α) (W : World) (a' : Act) (W' : World) : Prop :=
  KeepsFrom B W W' ∧ Kp W W' ∧ (∃ Lx, J pre Lx ∧ S W' Lx) ∧ ∃ i, Rds N a' (FA x i) [] ∧ S W' (LA x i)
theorem r_assign {α ι : Type} {B : Nat} {Kp : World → World → Prop} {J : List α → List Item → Prop} {FA : α → ι → Fr} {LA : α → ι → List Item} {pre : List α} {x : α} {W : World} {Lx : List Item} (i : ι) (k : Nat) (H : S w L) (hk : L[k]? = some (NC B W)) (hs : sub (FA x i) f) (hKp : Kp W w) (hJ : J pre Lx) (hS : S w Lx) (hA : S w (LA x i)) :
    G N (AssignK N B Kp J FA LA pre x W) f [] w := fun a ha => ⟨H.kept hk, hKp, ⟨Lx, hJ, hS⟩, i, ha.weak hs, hA⟩
theorem g_range {α ι : Type} {x : Operand} {ps : Array Tmp} {assign body : Code} {gf : Nat} {lb : Array Value} {encs : α → Array Value} {Kp : World → World → Prop} {S' Sp : List α → Prop} {M : Nat}
    (hn : 1 ≤ n) (hx : evo f x = some (.func (.func gf) #[] lb)) (hc : callable P gf = true) (hseq : SeqStopsK (WF none) (n - 1) P gf lb encs Kp S' Sp M w)
    (hKt : ∀ {A B C : World}, Kp A B → Kp B C → Kp A C) (hKb : ∀ (W : World) (l : Nat) (o o' : Obj), w.heap.size ≤ l → W.heap[l]? = some o → o.isCells = false → o.isWalk = false → Kp W (W.putObj l o'))
    (hps : ∀ x, (encs x).size = ps.size) (hpN : (ps.toList.all fun p => Nat.blt p N) = true) (J Jx : List α → List Item → Prop) (FA : α → ι → Fr) (LA : α → ι → List Item)
    (hJ : ∀ pre Lx, J pre Lx → ∀ it ∈ Lx, it.okB w.heap.size) (hJx : ∀ pre Lx, Jx pre Lx → ∀ it ∈ Lx, it.okB w.heap.size) (hLA : ∀ x i, ∀ it ∈ LA x i, it.okB w.heap.size) {L0 : List Item} (h0 : J [] L0) (H : S w L0)
    (hassign : ∀ (l : Nat) (pre : List α) (x : α) (Lx : List Item) (W : World), J pre Lx → S W (NC w.heap.size W :: Lx) → G N (assign.wpIn (WF (some l)) (n - 1 - 1) P (Exit.then (AssignK N w.heap.size Kp J FA LA pre x W) (fun _ _ _ => False))) (lay ps.toList (encs x).toList f) [] W)
    (hbody : ∀ (l : Nat) (pre : List α) (x : α) (i : ι) (Lx : List Item) (W : World), J pre Lx → pre.length < M → S W (NC w.heap.size W :: LA x i) → G N (body.wpIn (WF (some l)) (n - 1 - 1) P (RoundK w.heap.size Kp J Jx (pre ++ [x]) W)) (FA x i) [] W)
    (hdone : ∀ (D : Nat) (xs : List α) (Lx : List Item) (W : World), w.heap.size ≤ D → S' xs → J xs Lx → S W (Ob D (.deferred (some [])) :: Lx) → G N (Q .normal) f (mark D :: ds) W)
    (hstop : ∀ (D : Nat) (pre : List α) (Lx : List Item) (W : World), w.heap.size ≤ D → Sp pre → Jx pre Lx → S W (Ob D (.deferred (some [])) :: Lx) → G N (Q .ret) f (mark D :: ds) W) :
    G N ((Code.rangeFunc x ps assign body).wpIn (WF none) n P Q) f ds w := fun a ha => by
  have hobD : ∀ {D : Nat} {Lx : List Item} {W : World}, w.heap.size ≤ D → (∀ it ∈ Lx, it.okB w.heap.size) → S W Lx → W.heap[D]? = some (.deferred (some [])) → S W (Ob D (.deferred (some [])) :: Lx) := fun hD hok hS hd =>
    hS.cons hd (fun g hg => by cases hg; exact (Array.getElem?_eq_some_iff.1 hd).1) (fun it hit g hg hf => by
      cases hg
      have := hok it hit _ _ (hS.1 it hit).1 hf hD _ hd
      cases this)
  refine wpIn_rangeFunc_ownH (F := WF none) (w0 := w) rfl hn (ha.eval hx) trivial (fun args w => run_callFunc hc args) hseq (fun h k => hKt h k) hKb (Below.refl _ _) hps
    (fun pre W => ∃ Lx, J pre Lx ∧ S W Lx) (fun c pre W => c = .ret ∧ ∃ Lx, Jx pre Lx ∧ S W Lx) ?_ ?_ ⟨L0, h0, H⟩ (fun x a' W => ∃ i, Rds N a' (FA x i) [] ∧ S W (LA x i)) ?_ ?_ ?_ ?_ ?_
  · rintro pre W W' row ⟨Lx, h1, h2⟩ hg hr
    exact ⟨Lx, h1, h2.grown (hJ pre Lx h1) hg hr⟩
  · rintro c pre W W' row ⟨hc, Lx, h1, h2⟩ hg hr
    exact ⟨hc, Lx, h1, h2.grown (hJx pre Lx h1) hg hr⟩
  · rintro x a' u W W' row ⟨i, h1, h2⟩ hg hr
    exact ⟨i, h1, h2.grown (hLA x i) hg hr⟩
  · rintro l pre x W K ⟨Lx, h1, h2⟩ hK
    refine wpIn_mono (hassign l pre x Lx W h1 (h2.keep _ (hJ pre Lx h1)) _ (ha.putA hpN (hps x))) (fun e a' W' h => ?_)
    cases e with
    | normal => obtain ⟨k1, k2, k3, k4⟩ := h; exact hK a' W' k1 k2 k3 k4
    | _ => exact h.elim
  · rintro l pre x a' W _ _ ⟨Lx, q1, _⟩ ⟨i, h1, h2⟩ hlt
    exact hbody l pre x i Lx W q1 hlt (h2.keep _ (hLA x i)) a' h1
  · rintro D xs W hD hS ⟨Lx, h1, h2⟩ hd
    exact hdone D xs Lx W hD hS h1 (hobD hD (hJ xs Lx h1) h2 hd) _ ⟨ha.size, ha.get, by rw [← ha.defers]; rfl⟩
  · rintro D c pre W hD hS ⟨rfl, Lx, h1, h2⟩ hd
    exact wpIn_ret (hstop D pre Lx W hD hS h1 (hobD hD (hJx pre Lx h1) h2 hd) _ ⟨ha.size, ha.get, by rw [← ha.defers]; rfl⟩)
theorem same_putObj (w : World) (g : Nat) (o : Obj) : Same (fun k => k ≠ g) w (w.putObj g o) := ⟨rfl, rfl, rfl, by simp, fun k hk => World.putObj_heap_other hk⟩
/-- The end of a body in which a range over a function stood: its mark is taken up. -/
theorem fin_mark {fn : Func} {R : Ending → World → Prop} {D : Nat} (H : S w L) (k : Nat) (hk : L[k]? = some (Ob D (.deferred (some [])))) (rs : List ResultVar) (vs : List Value) (hr : fn.results = rs.toArray)
    (h : ∀ w', S w' (L.set k (Ob D (.deferred none))) → resOk P f w' rs vs ∧ R (.returned (tupled vs)) w') : G N (bodyPostM (WF none) n P fn R .ret) f [mark D] w := fun a ha => by
  show LeavesInM (WF none) n P fn a.tmps R a.defers .returning w
  rw [ha.defers]
  have hD : w.heap[D]? = some (.deferred (some [])) := H.ob hk
  have hlt : D < w.heap.size := (Array.getElem?_eq_some_iff.1 hD).1
  have hS := H.write hk (same_putObj w D (.deferred none)) (World.putObj_heap_same hlt)
  obtain ⟨h1, h2⟩ := h _ hS
  exact ⟨by simp, .inl ⟨D, _, rfl, run_takeDeferred hD, _, results_run ha hr h1, h2⟩⟩
theorem fin_plain {fn : Func} {R : Ending → World → Prop} (rs : List ResultVar) (vs : List Value) (hr : fn.results = rs.toArray) (h : resOk P f w rs vs) (hR : R (.returned (tupled vs)) w) : G N (bodyPostM (WF none) n P fn R .ret) f [] w := fun a ha => by
  show LeavesInM (WF none) n P fn a.tmps R a.defers .returning w
  rw [ha.defers]
  exact ⟨_, results_run ha hr h, hR⟩
/-- A call of yield, in an iterator. -/
theorem l_yield {d l : Nat} {x : Operand} {args : Array Operand} {ts : Array TypeId} {vs : List Value} {R' : Ending → World → Prop} (hw : Wt ops f o) (hd : o.dst = some d) (hN : Nat.blt d N = true) (ho : o.op = .call { callee := .value x, args := args, argTypes := ts }) (hx : evo f x = some (.func (.yield l) #[] #[])) (hv : evs f args.toList = some vs)
    (hY : YieldAt (WF none) (n - 1) P l vs.toArray w R') (h : ∀ e w', R' e w' → ∃ v, e = .returned v ∧ G N (wpListIn (WF none) n P ops Q rest) ((d, v) :: f) ds w') : G N (wpListIn (WF none) n P ops Q (o :: rest)) f ds w := fun a ha => by
  unfold wpListIn
  rw [if_pos (hw.wanted ha)]
  refine ⟨fun _ _ => trivial, ?_⟩
  rw [Oper.semAt_none]
  obtain ⟨fn, tmps, assign, body, hy, hR⟩ := hY
  have he : args.map a.eval = vs.toArray := ha.evalsA hv
  have hrun : (execOp a.eval o).run P w = .ok (.round l fn tmps assign body) w := by
    unfold execOp
    simp only [ho, resolve, ha.eval hx, Deferred.ofValue, Sem.run_bind, Sem.run_pure, Result.andThen_ok, invoke, he]
    simpa using hy
  rw [hrun, Oper.uponIn_round]
  refine ⟨(fun h0 => by cases h0), hR.mono fun e w' hr => ?_⟩
  obtain ⟨v, rfl, hg⟩ := h e w' hr
  show wpListIn (WF none) n P ops Q rest (a.put o.dst v) w'
  rw [hd]; exact hg _ (ha.put d hN v)
/-- Into an iterator. -/
theorem enter_ci {g : FuncId} {fn : Func} {c : Code} {args : Array Value} {R' : Ending → World → Prop} (N : Nat) (hf : P.funcs[g]? = some fn) (hb : fn.body = some c) (hN : fn.ntmps = N) (hA : Nat.ble args.size N = true)
    (h : G N (c.wpIn (WF none) n P (bodyPost P fn R')) (argsFr 0 args.toList) [] w) : CallsIn (WF none) n P g args w R' := by
  refine callsIn_of_wp hf hb trivial (h _ ⟨?_, fun t v ht => ?_, rfl⟩) rfl
  · have : args.size ≤ N := Nat.le_of_ble_eq_true hA
    simp [hN]; omega
  · obtain ⟨_, h2⟩ := argsFr_get _ 0 t v ht
    have h3 : args[t]? = some v := by simpa using h2
    have h4 : t < args.size := (Array.getElem?_eq_some_iff.1 h3).1
    show (args ++ _)[t]? = _
    rw [Array.getElem?_append_left h4]; exact h3
/-- What an iterator's own steps leave: of what the caller says nothing turns. -/
theorem S.grownOld {w0 : World} {k : Nat} (h : S w L) (hk : L[k]? = some (Old w0 no)) : w0.grownBy w none := by
  have h' : Same _ w0 w := h.at hk
  exact ⟨h'.os, h'.tape, h'.output, h'.size, fun g hg _ => h'.block g ⟨hg, id⟩⟩
end
end Go.Proofs.Ytlajgickimgigaa
