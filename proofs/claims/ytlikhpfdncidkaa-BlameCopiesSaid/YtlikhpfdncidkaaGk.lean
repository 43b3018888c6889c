import Derived.Test.YtlikhpfdncidkaaFk
import Derived.Test.YtlikhpfdncidkaaSo
import Derived.LaidEqlPtr
set_option linter.unusedSimpArgs false
set_option linter.unusedVariables false
namespace Go.Proofs.Ytlikhpfdncidkaa
open Go.RowKit

/-! ## Rows of values, and functions that compare -/
/-- The cells of a row. -/
def mV {β : Type} (ev : β → Value) (l : List β) : List Value := l.flatMap fun x => (ev x).cells.toList
/-- A function value that compares: what it returns; X is what it reads. -/
structure Cmps (P : Program) (g : Nat) (fi ca : Array Value) (X : Item) {β : Type} (ev : β → Value) (c : β → β → Int) (l : List β) : Prop where
  ok : callable P g = true
  does : ∀ x ∈ l, ∀ y ∈ l, ∀ w, S w [X] → Calls P g (fi.toList ++ [ev x, ev y] ++ ca.toList).toArray w fun e w' => e = .returned (.int .i64 (c x y)) ∧ S w' ([X] ++ [Old w (fps [X])])
end Go.Proofs.Ytlikhpfdncidkaa
namespace Go.Proofs.Ytlikhpfdncidkaa
open Go.RowKit

/-! ## A range over a function: what the iterator asks is asked of the world; what the assignment makes is told -/
/-- The iterator's word. At each yield the world is the base, the iterator's memory (one item) and the caller's (one item); the caller gives the first two back as they were. -/
def IterW {α : Type} (n : Nat) (P : Program) (g : Nat) (lb : Array Value) (encs : α → Array Value) (base : Item) (Φ : List α → α → Item → Prop) (Ok : List α → World → Prop) (S' Sp : List α → Prop) (I0 : Item) : Prop :=
  ∀ (l : Nat) (J Jx : List α → Item → Prop) (W : World) (C : Item), (∀ pre C W, J pre C → C.ok W → Ok pre W) →
    (∀ pre x W1 I C, J pre C → Φ pre x I → S W1 [base, I, C] → YieldAt (WF none) (n - 1) P l (encs x) W1 fun e W' =>
      (e = .returned (.bool true) ∧ ∃ C', J (pre ++ [x]) C' ∧ S W' [base, I, C']) ∨ (e = .returned (.bool false) ∧ ∃ C', Jx (pre ++ [x]) C' ∧ S W' [base, I, C'])) →
    J [] C → S W [base, I0, C] →
    CallsIn (WF none) n P g (#[.func (.yield l) #[] #[]] ++ lb) W fun e W' => (∃ v, e = .returned v) ∧ ((∃ xs C, S' xs ∧ J xs C ∧ S W' [base, C]) ∨ (∃ pre C, Sp pre ∧ Jx pre C ∧ S W' [base, C]))
/-- What is asked behind the assignment. -/
def AssignW {ι : Type} (N : Nat) (FA : ι → Fr) (LA : ι → List Item) (L : List Item) (a : Act) (w : World) : Prop := ∃ i, Rds N a (FA i) [] ∧ S w (LA i ++ L)
section
variable {P : Program} {N : Nat} {Q : Exit → Act → World → Prop} {f : Fr} {ds : List Deferred} {w : World} {n : Nat} {ops : Array Oper} {rest : List Oper} {o : Oper} {L : List Item}
theorem rw_assign {ι : Type} {FA : ι → Fr} {LA : ι → List Item} (i : ι) (hs : sub (FA i) f) (H : S w (LA i ++ L)) : G N (AssignW N FA LA L) f [] w := fun a ha => ⟨i, ha.weak hs, H⟩
theorem g_rangeW {α ι : Type} {x : Operand} {ps : Array Tmp} {assign body : Code} {gf : Nat} {lb : Array Value} {encs : α → Array Value} {base I0 : Item} {Φ : List α → α → Item → Prop} {Ok : List α → World → Prop} {S' Sp : List α → Prop} {L0 : List Item}
    (hn : 1 ≤ n) (hx : evo f x = some (.func (.func gf) #[] lb)) (hc : callable P gf = true) (hit : IterW (n - 1) P gf lb encs base Φ Ok S' Sp I0)
    (hps : ∀ x, (encs x).size = ps.size) (hpN : (ps.toList.all fun p => Nat.blt p N) = true) (J Jx : List α → List Item → Prop) (FA : α → ι → Fr) (LA : α → ι → List Item) (hOk : ∀ pre Lx W, J pre Lx → S W Lx → Ok pre W) (h0 : J [] L0) (H : S w (base :: I0 :: L0))
    (hassign : ∀ (l : Nat) (x : α) (Lx : List Item) (W : World), S W Lx → G N (assign.wpIn (WF (some l)) (n - 1 - 1) P (Exit.then (AssignW N (FA x) (LA x) Lx) (fun _ _ _ => False))) (lay ps.toList (encs x).toList f) [] W)
    (hbody : ∀ (l : Nat) (pre : List α) (x : α) (i : ι) (I K : Item) (Lx : List Item) (W : World), J pre Lx → Φ pre x I → S W (base :: I :: K :: Big (LA x i) :: Lx) → G N (body.wpIn (WF (some l)) (n - 1 - 1) P (RoundS J Jx base I K (pre ++ [x]))) (FA x i) [] W)
    (hdone : ∀ (D : Nat) (xs : List α) (Lx : List Item) (W : World), S' xs → J xs Lx → S W (Ob D (.deferred (some [])) :: base :: Lx) → G N (Q .normal) f (mark D :: ds) W)
    (hstop : ∀ (D : Nat) (pre : List α) (Lx : List Item) (W : World), Sp pre → Jx pre Lx → S W (Ob D (.deferred (some [])) :: base :: Lx) → G N (Q .ret) f (mark D :: ds) W) :
    G N ((Code.rangeFunc x ps assign body).wpIn (WF none) n P Q) f ds w := fun a ha => by
  refine wpIn_rangeFunc ?_
  intro fn hfn
  obtain ⟨rec, hrec⟩ : ∃ rec : LoopState → Option Code → Loop, rec = fun st pe => { state := st, pending := pe, fn, tmps := a.tmps, params := ps, assign, body, defers := w.heap.size } := ⟨_, rfl⟩
  have HW := (H.alloc (.deferred (some []))).alloc (.loop (rec .ready none))
  rw [World.size_alloc] at HW
  let D := w.heap.size
  let dI := Ob D (.deferred (some []))
  let lI := fun st pe => Ob (D + 1) (.loop (rec st pe))
  have HC : S ((w.alloc (.deferred (some []))).alloc (.loop (rec .ready none))) [base, I0, Big (dI :: lI .ready none :: L0)] := by
    have h1 : S ((w.alloc (.deferred (some []))).alloc (.loop (rec .ready none))) ((dI :: lI .ready none :: L0) ++ [base, I0]) := HW.perm (by
      refine List.Perm.trans (List.Perm.swap ..) ?_
      simp only [List.cons_append]
      refine .cons _ (.cons _ ?_)
      exact (List.perm_append_comm (l₁ := [base, I0]) (l₂ := L0)))
    exact h1.big.perm (List.perm_append_comm (l₁ := [_]) (l₂ := [base, I0]))
  obtain ⟨W1, hW1⟩ : ∃ W1, W1 = (w.alloc (.deferred (some []))).alloc (.loop (rec .ready none)) := ⟨_, rfl⟩
  rw [← hW1] at HC
  refine ⟨D + 1, [mark D], W1, { target := .fn (.func gf) lb, args := #[.func (.yield (D + 1)) #[] #[]] }, W1, gf, #[.func (.yield (D + 1)) #[] #[]] ++ lb, W1, ?_, ?_, ?_, ?_, fun _ => hn, ?_⟩
  · rw [hW1, hrec]; exact run_enterLoop_outer _ _ _ _ _
  · simp only [resolve, ha.eval hx]
    simp [go_sem]
  · intro f' hf'; simp [Target.leads] at hf'; subst hf'; trivial
  · simp [invoke, go_sem, run_callFunc hc]
  · have eqK : ∀ {W : World} {I : Item} {st : LoopState} {pe : Option Code} {Lx : List Item}, S W [base, I, Big (dI :: lI st pe :: Lx)] → S W (base :: I :: Big [dI, lI st pe] :: Lx) := fun {W I st pe Lx} h => by
      have h1 := (h.perm (List.perm_append_comm (l₁ := [base, I]) (l₂ := [_]))).unbig
      have h2 : S W ([dI, lI st pe] ++ (Lx ++ [base, I])) := h1
      refine h2.big.perm ?_
      have : (Big [dI, lI st pe] :: (Lx ++ [base, I])).Perm ([base, I] ++ (Big [dI, lI st pe] :: Lx)) := List.perm_append_comm (l₁ := Big [dI, lI st pe] :: Lx) (l₂ := [base, I])
      exact this
    have eqK' : ∀ {W : World} {I : Item} {st : LoopState} {pe : Option Code} {Lx : List Item}, S W (base :: I :: Big [dI, lI st pe] :: Lx) → S W [base, I, Big (dI :: lI st pe :: Lx)] := fun {W I st pe Lx} h => by
      have h1 : S W (Big [dI, lI st pe] :: (Lx ++ [base, I])) := h.perm (List.perm_append_comm (l₁ := [base, I]) (l₂ := Big [dI, lI st pe] :: Lx))
      have h2 : S W ((dI :: lI st pe :: Lx) ++ [base, I]) := h1.unbig
      exact h2.big.perm (List.perm_append_comm (l₁ := [_]) (l₂ := [base, I]))
    have eqO : ∀ {W : World} {I : Item} {st : LoopState} {pe : Option Code} {Lx : List Item}, S W (base :: I :: Big [dI, lI st pe] :: Lx) → S W (lI st pe :: (dI :: Lx ++ [base, I])) := fun {W I st pe Lx} h => by
      have h1 : S W (Big [dI, lI st pe] :: (Lx ++ [base, I])) := h.perm (List.perm_append_comm (l₁ := [base, I]) (l₂ := Big [dI, lI st pe] :: Lx))
      exact h1.unbig.perm (List.Perm.swap ..)
    have eqO' : ∀ {W : World} {I : Item} {st : LoopState} {pe : Option Code} {Lx : List Item}, S W (lI st pe :: (dI :: Lx ++ [base, I])) → S W (base :: I :: Big [dI, lI st pe] :: Lx) := fun {W I st pe Lx} h => by
      have h1 : S W ([dI, lI st pe] ++ (Lx ++ [base, I])) := h.perm (List.Perm.swap ..)
      exact h1.big.perm (List.perm_append_comm (l₁ := Big [dI, lI st pe] :: Lx) (l₂ := [base, I]))
    refine (hit (D + 1) (fun pre C => ∃ Lx, C = Big (dI :: lI .ready none :: Lx) ∧ J pre Lx) (fun pre C => ∃ Lx, C = Big (dI :: lI .done (some .ret) :: Lx) ∧ Jx pre Lx) _ _ (fun pre C W h hC => by obtain ⟨Lx, rfl, h⟩ := h; exact hOk pre Lx W h (show S W _ from hC).tail.tail) ?_ ⟨L0, rfl, h0⟩ HC).mono ?_
    · rintro pre x W I C ⟨Lx, rfl, hJ⟩ hΦ hS
      have hS1 := eqK hS
      have hl : W.heap[D + 1]? = some (.loop (rec .ready none)) := (eqO hS1).ob (k := 0) rfl
      have hy := run_yield (P := P) (args := encs x) hl (by rw [hrec]; exact hps x)
      rw [hrec] at hy
      refine ⟨fn, _, assign, body, hy, roundIn_of_wpIn hfn ?_⟩
      refine wpIn_mono (hassign _ x _ W hS1 _ (ha.putA hpN (hps x))) (fun e a' W' h => ?_)
      cases e with
      | normal =>
        obtain ⟨i, k1, k20⟩ := h
        have k2 : S W' (base :: I :: Big [dI, lI .ready none] :: Big (LA x i) :: Lx) := by
          have h7 := k20.big
          refine h7.perm ?_
          refine (List.Perm.swap ..).trans (.cons _ ((List.Perm.swap ..).trans (.cons _ (List.Perm.swap ..))))
        have hl2 : W'.heap[D + 1]? = some (.loop (rec .ready none)) := (eqO k2).ob (k := 0) rfl
        refine ⟨_, run_beginRound hl2 (by rw [hrec]), ?_⟩
        have hb : S (W'.putObj (D + 1) (.loop { rec .ready none with state := .busy })) (base :: I :: Big [dI, lI .busy none] :: Big (LA x i) :: Lx) := by
          have := (eqO k2).putObj (k := 0) (D := D + 1) (o' := .loop { rec .ready none with state := .busy }) rfl
          refine eqO' ?_
          subst hrec
          exact this
        refine wpIn_mono (hbody _ pre x i I _ Lx _ hJ hΦ hb a' k1) (fun e a3 W3 hp => ?_)
        have fin : ∀ (jump : Option Code) (Ly : List Item), S W3 (base :: I :: Big [dI, lI .busy none] :: Ly) →
            ∃ W4, (Instr.endRound (D + 1) jump).run P W3 = .ok (.bool jump.isNone) W4 ∧ S W4 [base, I, Big (dI :: lI (if jump.isNone then .ready else .done) jump :: Ly)] := fun jump Ly h3 => by
          have hl3 : W3.heap[D + 1]? = some (.loop (rec .busy none)) := (eqO h3).ob (k := 0) rfl
          refine ⟨_, run_endRound (P := P) jump hl3, eqK' (eqO' ?_)⟩
          have := (eqO h3).putObj (k := 0) (D := D + 1) (o' := .loop { rec .busy none with state := if jump.isNone then .ready else .done, pending := jump }) rfl
          subst hrec
          exact this
        cases e with
        | normal =>
          obtain ⟨Ly, j1, j2⟩ := hp
          obtain ⟨W4, r1, r2⟩ := fin none Ly j2
          exact ⟨_, _, r1, .inl ⟨rfl, _, ⟨Ly, rfl, j1⟩, r2⟩⟩
        | ret =>
          obtain ⟨Ly, j1, j2⟩ := hp
          obtain ⟨W4, r1, r2⟩ := fin (some .ret) Ly j2
          exact ⟨_, _, r1, .inr ⟨rfl, _, ⟨Ly, rfl, j1⟩, r2⟩⟩
        | _ => exact hp.elim
      | _ => exact h.elim
    · have unC : ∀ {W : World} {st : LoopState} {pe : Option Code} {Lx : List Item}, S W [base, Big (dI :: lI st pe :: Lx)] → S W (lI st pe :: dI :: base :: Lx) := fun {W st pe Lx} h => by
        have h1 := (h.perm (List.perm_append_comm (l₁ := [base]) (l₂ := [_]))).unbig
        have h2 : S W (dI :: lI st pe :: (Lx ++ [base])) := h1
        refine h2.perm ((List.Perm.swap ..).trans (.cons _ (.cons _ ?_)))
        exact List.perm_append_comm (l₁ := Lx) (l₂ := [base])
      rintro e W2 ⟨⟨v, rfl⟩, (⟨xs, C, hS, ⟨Lx, rfl, hJ⟩, hC⟩ | ⟨pre, C, hS, ⟨Lx, rfl, hJ⟩, hC⟩)⟩
      · have h1 := unC hC
        have hl := h1.ob (k := 0) (o := .loop (rec .ready none)) rfl
        refine ⟨none, _, by have := run_endLoop (P := P) hl (by rw [hrec]; simp); rw [hrec] at this; exact this, ?_⟩
        exact hdone D xs Lx _ hS hJ (h1.putObj (k := 0) rfl).tail _ ⟨ha.size, ha.get, by rw [← ha.defers]; rfl⟩
      · have h1 := unC hC
        have hl := h1.ob (k := 0) (o := .loop (rec .done (some .ret))) rfl
        refine ⟨some .ret, _, by have := run_endLoop (P := P) hl (by rw [hrec]; simp); rw [hrec] at this; exact this, ?_⟩
        exact wpIn_ret (hstop D pre Lx _ hS hJ (h1.putObj (k := 0) rfl).tail _ ⟨ha.size, ha.get, by rw [← ha.defers]; rfl⟩)
end
end Go.Proofs.Ytlikhpfdncidkaa
namespace Go.Proofs.Ytlikhpfdncidkaa
open Go.RowKit

/-! ## A family of blocks of one kind -/
def upd {α : Type} (tk : Nat → α) (x : Nat) (a : α) : Nat → α := fun y => if y = x then a else tk y
theorem upd_same {α : Type} (tk : Nat → α) (x : Nat) (a : α) : upd tk x a x = a := if_pos rfl
theorem upd_ne {α : Type} {tk : Nat → α} {x y : Nat} {a : α} (h : ¬ y = x) : upd tk x a y = tk y := if_neg h
def Fam {α : Type} (e : TypeId) (enc : α → Array Value) (gs : List Nat) (tk : Nat → α) : Item :=
  ⟨fun g => g ∈ gs, fun w => gs.Nodup ∧ ∀ x ∈ gs, w.heap[x]? = some (.cells (enc (tk x)) e (0, 0)), fun h k => ⟨k.1, fun x hx => (h.block x hx).trans (k.2 x hx)⟩⟩
section
variable {P : Program} {N : Nat} {Q : Exit → Act → World → Prop} {f : Fr} {ds : List Deferred} {w w' : World} {o : Oper} {ops : Array Oper} {L : List Item} {K : Act → World → Prop}
variable {α : Type} {e : TypeId} {enc : α → Array Value} {gs : List Nat} {tk : Nat → α}
/-! a row of rows is opened, and shut -/
end
end Go.Proofs.Ytlikhpfdncidkaa
namespace Go.Proofs.Ytlikhpfdncidkaa
open Go.RowKit

/-! ## Two pointers compared; copy and store in a row -/
section
variable {P : Program} {N : Nat} {Q : Exit → Act → World → Prop} {f : Fr} {ds : List Deferred} {w w' : World} {o : Oper} {ops : Array Oper} {L : List Item} {K : Act → World → Prop}
/-- Maps by text. -/
abbrev okT : ByteArray → Prop := fun s => s.size ≤ 1048576
/-- How many keys a map has. -/
def KN {κ α : Type} (ok : κ → Prop) (M : κ → Option α) (n : Nat) : Prop := ∃ kv : List (κ × α), (kv.map Prod.fst).Nodup ∧ (∀ p : κ × α, p ∈ kv ↔ (ok p.1 ∧ M p.1 = some p.2)) ∧ n = kv.length
theorem s_lenMap {κ α : Type} {ek : κ → Value} {va : α → Value} {ok : κ → Prop} {M : κ → Option α} {t k e : TypeId} {d g : Nat} {x : Operand} (H : S w L) (k0 : Nat) (hw : Wt ops f o) (hd : o.dst = some d) (hN : Nat.blt d N = true)
    (hk : L[k0]? = some (Mp ek va ok g M)) (ho : o.op = .call { callee := .builtin .len, args := #[x], argTypes := #[t] }) (hx : evo f x = some (.map (some g))) (hu : P.underlying t = some (.map k e))
    (h : ∀ n : Nat, KN ok M n → G N K ((d, .int .i64 (n : Int)) :: f) ds w) : G N (StepK P ops Q o K) f ds w := by
  obtain ⟨es, c, kv, hb, hkv⟩ := H.mp hk
  have hl := hkv.len
  refine s_val hw hd hN (x_builtin (vs := [.map (some g)]) (v := .int .i64 (es.size : Int)) (w' := w) ho (by simp only [evs, hx]) (fun cs => by simp [builtin, Builtin.len_, run_underlying hu, goInt, Go.MapKept.run_getObj_map hb, Result.andThen])) (h es.size ⟨kv, hkv.nodup, hkv.is, hl⟩)
end
end Go.Proofs.Ytlikhpfdncidkaa
namespace Go.Proofs.Ytlikhpfdncidkaa
open Go.RowKit

/-! ## Maps that are nil; a family of maps -/
section
variable {P : Program} {N : Nat} {Q : Exit → Act → World → Prop} {f : Fr} {ds : List Deferred} {w w' : World} {o : Oper} {ops : Array Oper} {L : List Item} {K : Act → World → Prop}
theorem s_rangeNil {t k e d : TypeId} {y : Operand} (H : S w L) (hw : Wt ops f o) (hd : o.dst = some d) (hN : Nat.blt d N = true) (ho : o.op = .range t y) (hy : evo f y = some (.map none)) (hu : P.underlying t = some (.map k e))
    (h : ∀ r w', S w' (Ob r (.mapIter none 0 #[] 0) :: L) → G N K ((d, .pointer (some ⟨r, 0, none⟩)) :: f) ds w') : G N (StepK P ops Q o K) f ds w := by
  have hrun : (Instr.range t (.map none)).run P w = .ok (.pointer (some ⟨w.heap.size, 0, none⟩)) (w.alloc (.mapIter none 0 #[] 0)) := by
    simp [Instr.range, run_underlying hu, newObj, Sem.run, Result.andThen]
  exact s_val hw hd hN (ex_of (x := Instr.range t (.map none)) (fun a ha => by unfold execOp; simp only [ho, ha.eval hy]) hrun) (h _ _ (H.alloc _))
theorem x_nextNil {y : Operand} {r : Nat} (H : S w L) (k0 : Nat) (hk : L[k0]? = some (Ob r (.mapIter none 0 #[] 0))) (ho : o.op = .next y false) (hy : evo f y = some (.pointer (some ⟨r, 0, none⟩))) : Ex P N f ds o w (.tuple #[.bool false]) w := by
  have hb := H.ob hk
  refine ex_of (x := Instr.next (.pointer (some ⟨r, 0, none⟩)) false o.type) (fun a ha => by unfold execOp; simp only [ho, ha.eval hy]) ?_
  simp [Instr.next, getObj, Sem.run, hb, Result.andThen]
theorem x_lookupNil {t k e : TypeId} {m y : Operand} {z v : Value} (hu : P.underlying t = some (.map k e)) (ho : o.op = .lookup t m y true) (hm : evo f m = some (.map none)) (hy : evo f y = some v) (hz : zeO P e = some z) (hc : (Instr.checkKey true 10000 k v).run P w = .ok () w) (hk : (Instr.findKey k v []).run P w = .ok none w) : Ex P N f ds o w (.tuple #[z, .bool false]) w := by
  refine ex_of (x := Instr.lookup t (.map none) v true) (fun a ha => by unfold execOp; simp only [ho, ha.eval hm, ha.eval hy]) ?_
  simp [Instr.lookup, run_underlying hu, run_ze hz, hc, hk, Result.andThen]
theorem x_lenNil {x : Operand} {t k e : TypeId} (ho : o.op = .call { callee := .builtin .len, args := #[x], argTypes := #[t] }) (hx : evo f x = some (.map none)) (hu : P.underlying t = some (.map k e)) : Ex P N f ds o w (.int .i64 0) w :=
  x_builtin (vs := [.map none]) ho (by simp only [evs, hx]) (fun cs => by simp [builtin, Builtin.len_, run_underlying hu, goInt])
variable {κ α : Type} {ek : κ → Value} {va : α → Value} {ok : κ → Prop} {M : κ → Option α}
theorem s_rangeN {t k e d : TypeId} {y : Operand} {g : Nat} (T : MapTy P t k e ek ok) (H : S w L) (k0 : Nat) (hw : Wt ops f o) (hd : o.dst = some d) (hN : Nat.blt d N = true) (hk : L[k0]? = some (Mp ek va ok g M)) (ho : o.op = .range t y) (hy : evo f y = some (.map (some g)))
    (h : ∀ r rem w', (rem.map Prod.fst).Nodup → (∀ p, p ∈ rem ↔ ok p.1 ∧ M p.1 = some p.2) → S w' (L.set k0 (MpR ek va ok g r M rem none)) → G N K ((d, .pointer (some ⟨r, 0, none⟩)) :: f) ds w') : G N (StepK P ops Q o K) f ds w := by
  obtain ⟨es, c, kv, hb, hkv⟩ := H.mp hk
  have hgl : g < w.heap.size := (Array.getElem?_eq_some_iff.1 hb).1
  have hrun : (Instr.range t (.map (some g))).run P w = .ok (.pointer (some ⟨w.heap.size, 0, none⟩)) (w.alloc (.mapIter (some g) c #[] c)) := by
    simp [Instr.range, run_underlying T.ht, MapKept.run_getObj_map hb, newObj, Sem.run, Result.andThen]
  have hs : Same (fun j => j < w.heap.size) w (w.alloc (.mapIter (some g) c #[] c)) := ⟨rfl, rfl, rfl, by simp, fun j hj => Below.heap_alloc _ _ _ hj⟩
  have hrem : remOf es kv #[] = kv := by
    unfold remOf zipOf
    rw [List.filter_eq_self.2 (fun z _ => by simp)]
    exact List.map_snd_zip (by have := hkv.len; simp; omega)
  refine s_val hw hd hN (ex_of (x := Instr.range t (.map (some g))) (fun a ha => by unfold execOp; simp only [ho, ha.eval hy]) hrun) (h _ kv _ hkv.nodup hkv.is ?_)
  refine H.turn hk (hs.less fun j hj => hj.1) ⟨by omega, es, c, kv, #[], c, c, ?_, hkv, heap_alloc_new w _, hkv.old, ⟨Nat.le_refl _, Nat.le_refl _⟩, hrem.symm, fun h => Bool.noConfusion h, trivial⟩ (fun j hj => ?_)
  · rw [Below.heap_alloc _ _ _ hgl]; exact hb
  · rcases hj with rfl | rfl
    · exact ⟨.inl rfl, by simp; omega⟩
    · exact ⟨.inr (Nat.le_refl _), by simp⟩
/-- Maps of one kind, each in a block of its own. -/
def FamM (ek : κ → Value) (va : α → Value) (ok : κ → Prop) (ms : List Nat) (ct : Nat → κ → Option α) : Item := Big (ms.map fun x => Mp ek va ok x (ct x))
variable {ms : List Nat} {ct : Nat → κ → Option α}
theorem S.famMnodup {k : Nat} (h : S w L) (hk : L[k]? = some (FamM ek va ok ms ct)) : ms.Nodup := by
  have h1 : S w (ms.map fun x => Mp ek va ok x (ct x)) := h.at hk
  have h2 := h1.2
  rw [List.pairwise_map] at h2
  exact h2.imp fun hab e => hab _ rfl e
theorem S.famMget {k x : Nat} (h : S w L) (hk : L[k]? = some (FamM ek va ok ms ct)) (hx : x ∈ ms) : S w [Mp ek va ok x (ct x)] := by
  have h1 : S w (ms.map fun x => Mp ek va ok x (ct x)) := h.at hk
  exact h1.sublist (List.singleton_sublist.2 (List.mem_map.2 ⟨x, hx, rfl⟩))
theorem S.famMnil (h : S w L) (ct : Nat → κ → Option α) : S w (FamM ek va ok [] ct :: L) :=
  h.cons (show S w [] from S.nil w) (fun g hg => by obtain ⟨_, h, _⟩ := hg; cases h) (fun _ _ g hg => by obtain ⟨_, h, _⟩ := hg; cases h)
theorem S.famMout {x : Nat} (h : S w (FamM ek va ok ms ct :: L)) (hx : x ∈ ms) : S w (Mp ek va ok x (ct x) :: FamM ek va ok (ms.erase x) ct :: L) := by
  have h1 : S w (ms.map (fun x => Mp ek va ok x (ct x)) ++ L) := h.unbig
  have hp : (ms.map fun x => Mp ek va ok x (ct x)).Perm (Mp ek va ok x (ct x) :: (ms.erase x).map fun x => Mp ek va ok x (ct x)) := (List.perm_cons_erase hx).map fun x => Mp ek va ok x (ct x)
  have h2 := h1.perm (hp.append_right L)
  have h3 : S w ((ms.erase x).map (fun x => Mp ek va ok x (ct x)) ++ (Mp ek va ok x (ct x) :: L)) := h2.perm (List.perm_middle.symm)
  exact h3.big.perm (List.Perm.swap ..)
theorem S.famMin {x : Nat} {c : κ → Option α} (h : S w (Mp ek va ok x c :: FamM ek va ok (ms.erase x) ct :: L)) (hx : x ∈ ms) (hn : ms.Nodup) : S w (FamM ek va ok ms (upd ct x c) :: L) := by
  have h1 : S w (FamM ek va ok (ms.erase x) ct :: (Mp ek va ok x c :: L)) := h.perm (List.Perm.swap ..)
  have h2 : S w ((ms.erase x).map (fun x => Mp ek va ok x (ct x)) ++ (Mp ek va ok x c :: L)) := h1.unbig
  have e1 : (ms.erase x).map (fun y => Mp ek va ok y (ct y)) = (ms.erase x).map (fun y => Mp ek va ok y (upd ct x c y)) :=
    List.map_congr_left fun y hy => by rw [upd_ne (show ¬ y = x from fun e => hn.not_mem_erase (e ▸ hy))]
  rw [e1] at h2
  have h3 : S w (((Mp ek va ok x c) :: (ms.erase x).map (fun y => Mp ek va ok y (upd ct x c y))) ++ L) := h2.perm List.perm_middle
  have hp : (ms.map fun y => Mp ek va ok y (upd ct x c y)).Perm (Mp ek va ok x c :: (ms.erase x).map fun y => Mp ek va ok y (upd ct x c y)) := by
    have := (List.perm_cons_erase hx).map fun y => Mp ek va ok y (upd ct x c y)
    rwa [List.map_cons, upd_same] at this
  exact (h3.perm (hp.symm.append_right L)).big
theorem S.famMcons {x : Nat} {c : κ → Option α} (h : S w (Mp ek va ok x c :: FamM ek va ok ms ct :: L)) : S w (FamM ek va ok (x :: ms) (upd ct x c) :: L) := by
  have hx : x ∉ ms := fun hx => by
    have := h.head.2.2 _ (List.mem_cons_self ..) x rfl
    exact this ⟨_, List.mem_map.2 ⟨x, hx, rfl⟩, rfl⟩
  have h1 : S w (FamM ek va ok ms ct :: (Mp ek va ok x c :: L)) := h.perm (List.Perm.swap ..)
  have h2 : S w (ms.map (fun x => Mp ek va ok x (ct x)) ++ (Mp ek va ok x c :: L)) := h1.unbig
  have e1 : ms.map (fun y => Mp ek va ok y (ct y)) = ms.map (fun y => Mp ek va ok y (upd ct x c y)) :=
    List.map_congr_left fun y hy => by rw [upd_ne (show ¬ y = x from fun e => hx (e ▸ hy))]
  rw [e1] at h2
  have h3 : S w (((Mp ek va ok x c) :: ms.map (fun y => Mp ek va ok y (upd ct x c y))) ++ L) := h2.perm List.perm_middle
  have h4 : S w (((x :: ms).map fun y => Mp ek va ok y (upd ct x c y)) ++ L) := by rw [List.map_cons, upd_same]; exact h3
  exact h4.big
theorem S.famMnew {x : Nat} {ob : Item} {i j : Nat} (h : S w L) (hi : L[i]? = some ob) (hfp : ob.fp x) (hj : L[j]? = some (FamM ek va ok ms ct)) (hne : i ≠ j) : x ∉ ms := fun hx =>
  pair_of h.2 hi hj hne x hfp ⟨_, List.mem_map.2 ⟨x, hx, rfl⟩, rfl⟩
end
end Go.Proofs.Ytlikhpfdncidkaa
namespace Go.Proofs.Ytlikhpfdncidkaa
open Go.RowKit

/-! ## slices.Clip, and append to what was clipped -/
section
variable {P : Program} {N : Nat} {Q : Exit → Act → World → Prop} {f : Fr} {ds : List Deferred} {w w' : World} {o : Oper} {ops : Array Oper} {L : List Item} {K : Act → World → Prop}
theorem x_clip {t e size n c : Nat} {p : Option Addr} {x y2 y3 : Operand} {k2 k3 : IntKind} {i2 i3 : Int} (h m : Nat) (ho : o.op = .slice t x none (some y2) (some y3)) (hx : evo f x = some (.slice p n c)) (h2 : evo f y2 = some (.int k2 i2)) (h3 : evo f y3 = some (.int k3 i3))
    (hu : P.underlying t = some (.slice e)) (hz : szO P e = some size) (hb : i2 = (h : Int) ∧ i3 = (m : Int) ∧ h ≤ m ∧ m ≤ c) :
    Ex P N f ds o w (.slice (if m = 0 then p else p.map fun q => q.add (0 * size)) h m) w :=
  ex_of (x := Instr.sliceAt t (.slice p n c) none (some (.int k2 i2)) (some (.int k3 i3))) (fun a ha => by unfold execOp; simp only [ho, ha.eval hx, ha.eval h2, ha.eval h3, Option.map_some, Option.map_none]) (by
    obtain ⟨rfl, rfl, q2, q3⟩ := hb
    have hel : P.elem t = e := by unfold Program.elem; rw [hu]
    have hu' : P.underlying t = some (.slice (P.elem t)) := by rw [hel]; exact hu
    have hrun : (Instr.slice t (.slice p n c) none (some (.int k2 (h : Int))) (some (.int k3 (m : Int)))).run P w = ((sizeOf (P.elem t)).run P w).andThen fun s w => .ok (sliced p 0 h m s) w := by
      simp [Instr.slice, run_underlying hu', Instr.sliceBounds, run_sliceBound, sliced, q2, q3]
    rw [run_sliceAt_slice (P := P) w t _ _ _ _ hu', hrun, hel, run_sz hz]
    simp only [Result.andThen_ok, sliced, Nat.sub_zero])
/-- Append to a slice that is full, also to nil: memory of its own. -/
theorem s_appendNew {d t e size bytes n m c : Nat} {s x : Operand} {z : Value} {xs news : List Value} {p : Option Addr} {ad : Addr} (H : S w L) (hw : Wt ops f o) (hd : o.dst = some d) (hN : Nat.blt d N = true)
    (ho : o.op = .call { callee := .builtin .append, args := #[s, x], argTypes := #[t, t] }) (hs : evo f s = some (.slice p n n)) (hx : evo f x = some (.slice (some ad) m c)) (hr0 : Reads w p n n size xs)
    (ht : P.underlying t = some (.slice e)) (hi : infO P e = some (some z, size, bytes)) (hz : z.cells.size = size) (hsz : 0 < size) (hb0 : 0 < bytes) (hr : Reads w (some ad) m c size news) (hm : 0 < m) (h1 : news.all (·.oneCell') = true)
    (hb : (n + m) * bytes ≤ 140737488355328)
    (h : ∀ p' c' w', S w' (Rw e size p' (n + m) c' (xs ++ news) :: L) → G N K ((d, .slice p' (n + m) c') :: f) ds w') : G N (StepK P ops Q o K) f ds w := by
  cases p with
  | some a => exact s_appendFull2 H hw hd hN ho hs hx hr0 ⟨a, rfl⟩ ht hi hz hsz hb0 hr hm h1 hb h
  | none =>
    obtain ⟨k1, _, k3⟩ := hr0
    have hn : n = 0 := by
      rcases Nat.eq_zero_or_pos n with h0 | h0
      · exact h0
      · obtain ⟨a, ha, _⟩ := k3 h0; cases ha
    subst hn
    have hxs : xs = [] := List.eq_nil_of_length_eq_zero (by rw [k1, Nat.zero_mul])
    subst hxs
    obtain ⟨q1, q2, q3⟩ := hr
    obtain ⟨a, ha, hc⟩ := q3 hm
    cases ha
    exact s_appendR (xs := []) (H.nilRw e size) 0 hw hd hN ho hs hx rfl ht hi hz hsz hb0 q1 hm hc h1 hb (fun p' c' w' h9 => h p' c' w' h9)
end
end Go.Proofs.Ytlikhpfdncidkaa
namespace Go.Proofs.Ytlikhpfdncidkaa
open Go.RowKit

/-! ## Lists in rows, by how an element is written -/
structure Enc {α : Type} (size : Nat) (enc : α → List Value) : Prop where
  pos : 0 < size
  len : ∀ x, (enc x).length = size
  one : ∀ x, (enc x).all (·.oneCell') = true
def fl {α : Type} (enc : α → List Value) (l : List α) : List Value := l.flatMap enc
section
variable {α : Type} {enc : α → List Value} {size : Nat}
theorem fl_app (enc : α → List Value) (a b : List α) : fl enc (a ++ b) = fl enc a ++ fl enc b := List.flatMap_append ..
theorem fl_nil (enc : α → List Value) : fl enc [] = [] := rfl
theorem Enc.flLen (E : Enc size enc) (l : List α) : (fl enc l).length = l.length * size := flat_length fun x _ => E.len x
theorem Enc.flAt (E : Enc size enc) {l : List α} {j : Nat} {x : α} (h : l[j]? = some x) : ∀ i u, (enc x)[i]? = some u → (fl enc l)[j * size + i]? = some u := flat_at (fun x _ => E.len x) h
theorem Enc.flAt1 (E : Enc 1 enc) {l : List α} {j : Nat} {x : α} {v : Value} (h : l[j]? = some x) (hv : enc x = [v]) : (fl enc l)[j * 1]? = some v := by
  have := E.flAt h 0 v (by rw [hv]; rfl)
  simpa using this
theorem Enc.flOne (E : Enc size enc) (l : List α) : (fl enc l).all (·.oneCell') = true := by
  rw [List.all_eq_true]; intro v hv
  obtain ⟨x, _, h⟩ := List.mem_flatMap.1 hv
  exact List.all_eq_true.1 (E.one x) v h
theorem Enc.flTake (E : Enc size enc) : ∀ (l : List α) (k : Nat), (fl enc l).take (k * size) = fl enc (l.take k)
  | l, 0 => by simp [fl]
  | [], k + 1 => by simp [fl]
  | a :: l, k + 1 => by
    show (enc a ++ fl enc l).take ((k + 1) * size) = enc a ++ fl enc (l.take k)
    rw [show (k + 1) * size = (enc a).length + k * size by rw [E.len, Nat.succ_mul]; omega, List.take_length_add_append, E.flTake l k]
theorem Enc.flDrop (E : Enc size enc) : ∀ (l : List α) (k : Nat), (fl enc l).drop (k * size) = fl enc (l.drop k)
  | l, 0 => by simp [fl]
  | [], k + 1 => by simp [fl]
  | a :: l, k + 1 => by
    show (enc a ++ fl enc l).drop ((k + 1) * size) = fl enc (l.drop k)
    rw [show (k + 1) * size = (enc a).length + k * size by rw [E.len, Nat.succ_mul]; omega, List.drop_length_add_append, E.flDrop l k]
theorem ex_at {l : List α} {j : Nat} (h : j < l.length) : ∃ x, l[j]? = some x := ⟨_, List.getElem?_eq_getElem h⟩
variable {w : World} {p : Option Addr} {n c : Nat} {l : List α}
theorem Reads.lenL (hr : Reads w p n c size (fl enc l)) (E : Enc size enc) : n = l.length := by
  have h1 := hr.1
  rw [E.flLen] at h1
  exact (Nat.eq_of_mul_eq_mul_right E.pos h1).symm
theorem Reads.takeL (hr : Reads w p n c size (fl enc l)) (E : Enc size enc) (k : Nat) (hk : k ≤ n) : Reads w p k c size (fl enc (l.take k)) := by
  have := hr.take k hk
  rwa [E.flTake] at this
theorem cutP0 (p : Option Addr) (c size : Nat) : cutP p 0 c size = p := by
  unfold cutP
  split
  · rfl
  · cases p with
    | none => rfl
    | some a => show some (a.add (0 * size)) = some a; rw [Nat.zero_mul]; unfold Addr.add; rfl
theorem Reads.midL (hr : Reads w p n c size (fl enc l)) (E : Enc size enc) (a b : Nat) (hab : a ≤ b) (hb : b ≤ n) : Reads w (cutP p a c size) (b - a) (c - a) size (fl enc ((l.drop a).take (b - a))) := by
  have := hr.cut a b hab hb
  rwa [E.flDrop, E.flTake] at this
theorem Reads.cutL (hr : Reads w p n c size (fl enc l)) (E : Enc size enc) (a : Nat) (ha : a ≤ n) : Reads w (cutP p a c size) (n - a) (c - a) size (fl enc (l.drop a)) := by
  have h := hr.midL E a n ha (Nat.le_refl _)
  have hn := hr.lenL E
  rwa [List.take_of_length_le (by rw [List.length_drop]; omega)] at h
theorem Reads.cutLn (hr : Reads w p n c size (fl enc l)) (E : Enc size enc) (a : Nat) (ha : a ≤ n) : Reads w (cutP p a c size) (l.drop a).length (c - a) size (fl enc (l.drop a)) := by
  have h := hr.cutL E a ha
  rwa [hr.lenL E, ← List.length_drop] at h
theorem Reads.clipL (hr : Reads w p n c size (fl enc l)) (E : Enc size enc) (k : Nat) (hk : k ≤ n) : Reads w (clipP p k size) k k size (fl enc (l.take k)) := by
  have := hr.clip k hk
  rwa [E.flTake] at this
theorem Reads.some (hr : Reads w p n c size (fl enc l)) (h : 0 < n) : ∃ a, p = some a := by
  obtain ⟨a, ha, _⟩ := hr.2.2 h
  exact ⟨a, ha⟩
theorem Reads.nilL (w : World) (enc : α → List Value) (size : Nat) : Reads w none 0 0 size (fl enc ([] : List α)) := ⟨by rw [fl_nil, Nat.zero_mul]; rfl, Nat.le_refl _, fun h => absurd h (Nat.lt_irrefl _)⟩
end
section
variable {P : Program} {N : Nat} {Q : Exit → Act → World → Prop} {f : Fr} {ds : List Deferred} {w w' : World} {o : Oper} {ops : Array Oper} {L : List Item} {K : Act → World → Prop} {α : Type} {enc : α → List Value}
theorem S.nilFl (h : S w L) (e size : Nat) (enc : α → List Value) : S w (Rw e size none 0 0 (fl enc []) :: L) := h.nilRw e size
/-- append(x, y...) to a row of one's own. -/
theorem s_appL {d t e size bytes n m c sc : Nat} {s x : Operand} {z : Value} {p q : Option Addr} {l l2 : List α} (E : Enc size enc) (H : S w L) (k : Nat) (hw : Wt ops f o) (hd : o.dst = some d) (hN : Nat.blt d N = true)
    (ho : o.op = .call { callee := .builtin .append, args := #[s, x], argTypes := #[t, t] }) (hs : evo f s = some (.slice p n sc)) (hx : evo f x = some (.slice q m c)) (hk : L[k]? = some (Rw e size p n sc (fl enc l)))
    (ht : P.underlying t = some (.slice e)) (hi : infO P e = some (some z, size, bytes)) (hz : z.cells.size = size) (hb0 : 0 < bytes) (hr : Reads w q m c size (fl enc l2)) (hb : (n + m) * bytes ≤ 140737488355328)
    (h : ∀ p' c' w', S w' (L.set k (Rw e size p' (n + m) c' (fl enc (l ++ l2)))) → G N K ((d, .slice p' (n + m) c') :: f) ds w') : G N (StepK P ops Q o K) f ds w :=
  s_appendW H k hw hd hN ho hs hx hk ht hi hz E.pos hb0 hr (E.flOne l2) hb fun p' c' w' h9 => h p' c' w' (by rw [fl_app]; exact h9)
/-- append(x, a block's cells). -/
theorem s_appB {d t e size bytes n m c sc g : Nat} {s x : Operand} {z : Value} {p : Option Addr} {l l2 : List α} {cs : Array Value} (E : Enc size enc) (H : S w L) (k : Nat) {j0 : Nat} (hj : L[j0]? = some (Ob g (.cells cs e (0, 0)))) (hcs : cs.toList = fl enc l2) (hm : m = l2.length ∧ m ≤ c) (hw : Wt ops f o) (hd : o.dst = some d) (hN : Nat.blt d N = true)
    (ho : o.op = .call { callee := .builtin .append, args := #[s, x], argTypes := #[t, t] }) (hs : evo f s = some (.slice p n sc)) (hx : evo f x = some (.slice (some ⟨g, 0, none⟩) m c)) (hk : L[k]? = some (Rw e size p n sc (fl enc l)))
    (ht : P.underlying t = some (.slice e)) (hi : infO P e = some (some z, size, bytes)) (hz : z.cells.size = size) (hb0 : 0 < bytes) (hb : (n + m) * bytes ≤ 140737488355328)
    (h : ∀ p' c' w', S w' (L.set k (Rw e size p' (n + m) c' (fl enc (l ++ l2)))) → G N K ((d, .slice p' (n + m) c') :: f) ds w') : G N (StepK P ops Q o K) f ds w :=
  s_appL E H k hw hd hN ho hs hx hk ht hi hz hb0 ⟨by rw [E.flLen, hm.1], hm.2, fun _ => ⟨_, rfl, fun j u hu => news_ob H hj j u (by rw [hcs]; exact hu)⟩⟩ hb h
/-- append(x[:k:k], y...): memory of its own. -/
theorem s_appC {d t e size bytes n m c : Nat} {s x : Operand} {z : Value} {p q : Option Addr} {l l2 : List α} (E : Enc size enc) (H : S w L) (hw : Wt ops f o) (hd : o.dst = some d) (hN : Nat.blt d N = true)
    (ho : o.op = .call { callee := .builtin .append, args := #[s, x], argTypes := #[t, t] }) (hs : evo f s = some (.slice p n n)) (hx : evo f x = some (.slice q m c)) (hr0 : Reads w p n n size (fl enc l))
    (ht : P.underlying t = some (.slice e)) (hi : infO P e = some (some z, size, bytes)) (hz : z.cells.size = size) (hb0 : 0 < bytes) (hr : Reads w q m c size (fl enc l2)) (hm : 0 < m) (hb : (n + m) * bytes ≤ 140737488355328)
    (h : ∀ p' c' w', S w' (Rw e size p' (n + m) c' (fl enc (l ++ l2)) :: L) → G N K ((d, .slice p' (n + m) c') :: f) ds w') : G N (StepK P ops Q o K) f ds w := by
  obtain ⟨a, rfl, _⟩ := hr.2.2 hm
  exact s_appendNew H hw hd hN ho hs hx hr0 ht hi hz E.pos hb0 hr hm (E.flOne l2) hb fun p' c' w' h9 => h p' c' w' (by rw [fl_app]; exact h9)
theorem s_appLn {d t e size bytes n m c sc : Nat} {s x : Operand} {z : Value} {p q : Option Addr} {l l2 : List α} (E : Enc size enc) (H : S w L) (k : Nat) (hw : Wt ops f o) (hd : o.dst = some d) (hN : Nat.blt d N = true)
    (ho : o.op = .call { callee := .builtin .append, args := #[s, x], argTypes := #[t, t] }) (hs : evo f s = some (.slice p n sc)) (hx : evo f x = some (.slice q m c)) (hk : L[k]? = some (Rw e size p n sc (fl enc l)))
    (ht : P.underlying t = some (.slice e)) (hi : infO P e = some (some z, size, bytes)) (hz : z.cells.size = size) (hb0 : 0 < bytes) (hr : Reads w q m c size (fl enc l2)) (hb : (n + m) * bytes ≤ 140737488355328)
    (h : ∀ p' c' w', S w' (L.set k (Rw e size p' (l ++ l2).length c' (fl enc (l ++ l2)))) → G N K ((d, .slice p' (l ++ l2).length c') :: f) ds w') : G N (StepK P ops Q o K) f ds w :=
  s_appL E H k hw hd hN ho hs hx hk ht hi hz hb0 hr hb fun p' c' w' h9 => by
    have h1 := h p' c' w'
    rw [List.length_append, ← (H.rwReads hk).lenL E, ← hr.lenL E] at h1
    exact h1 h9
theorem s_appBn {d t e size bytes n m c sc g : Nat} {s x : Operand} {z : Value} {p : Option Addr} {l l2 : List α} {cs : Array Value} (E : Enc size enc) (H : S w L) (k : Nat) {j0 : Nat} (hj : L[j0]? = some (Ob g (.cells cs e (0, 0)))) (hcs : cs.toList = fl enc l2) (hm : m = l2.length ∧ m ≤ c) (hw : Wt ops f o) (hd : o.dst = some d) (hN : Nat.blt d N = true)
    (ho : o.op = .call { callee := .builtin .append, args := #[s, x], argTypes := #[t, t] }) (hs : evo f s = some (.slice p n sc)) (hx : evo f x = some (.slice (some ⟨g, 0, none⟩) m c)) (hk : L[k]? = some (Rw e size p n sc (fl enc l)))
    (ht : P.underlying t = some (.slice e)) (hi : infO P e = some (some z, size, bytes)) (hz : z.cells.size = size) (hb0 : 0 < bytes) (hb : (n + m) * bytes ≤ 140737488355328)
    (h : ∀ p' c' w', S w' (L.set k (Rw e size p' (l ++ l2).length c' (fl enc (l ++ l2)))) → G N K ((d, .slice p' (l ++ l2).length c') :: f) ds w') : G N (StepK P ops Q o K) f ds w :=
  s_appLn E H k hw hd hN ho hs hx hk ht hi hz hb0 ⟨by rw [E.flLen, hm.1], hm.2, fun _ => ⟨_, rfl, fun j u hu => news_ob H hj j u (by rw [hcs]; exact hu)⟩⟩ hb h
theorem S.rwCutL {k e size n c : Nat} {p : Option Addr} {l : List α} (E : Enc size enc) (h : S w L) (hk : L[k]? = some (Rw e size p n c (fl enc l))) (a : Nat) (ha : a ≤ n) : S w (L.set k (Rw e size (cutP p a c size) (n - a) (c - a) (fl enc (l.drop a)))) := by
  have := h.rwDrop hk a ha
  rwa [E.flDrop] at this
theorem S.obFl {k g e size n : Nat} {cs : Array Value} {l : List α} (E : Enc size enc) (h : S w L) (hk : L[k]? = some (Ob g (.cells cs e (0, 0)))) (hn : n = l.length) (hm : n ≤ maxLen) (hc : cs.toList = fl enc l) : S w (L.set k (Rw e size (some ⟨g, 0, none⟩) n n (fl enc l))) := by
  have := h.obRw (size := size) (n := n) hk (by rw [← Array.length_toList, hc, E.flLen, hn]) hm
  rwa [hc] at this
end
/-! fields of elements -/
section
variable {P : Program} {N : Nat} {f : Fr} {ds : List Deferred} {w : World} {o : Oper} {α : Type} {enc : α → List Value}
end
/-! how things are written -/
def intL (x : Int) : List Value := [.int .i64 x]
def boolL (x : Bool) : List Value := [.bool x]
def strL (x : ByteArray) : List Value := [.string x]
def rowL {α : Type} (r : Ro α) : List Value := [roV r]
theorem intE : Enc 1 intL := ⟨by decide, fun _ => rfl, fun _ => rfl⟩
theorem rowE {α : Type} : Enc 1 (rowL (α := α)) := ⟨by decide, fun _ => rfl, fun _ => rfl⟩
theorem map_fl {α : Type} {F : α → Value} {enc : α → List Value} (h : ∀ x, enc x = [F x]) : ∀ l : List α, l.map F = fl enc l
  | [] => rfl
  | a :: l => by rw [List.map_cons, map_fl h l]; show _ = enc a ++ _; rw [h]; rfl
/-- Rows that stay: what is in the bag reads. -/
theorem rows_in {α : Type} {w : World} {e size : Nat} {enc : α → List Value} {rs : List (Ro α)} {r : Ro α} (h : (RowsI e size enc rs).ok w) (hr : r ∈ rs ∨ r = ⟨none, 0, []⟩) : Reads w r.p r.l.length r.c size (fl enc r.l) := by
  rcases hr with hr | rfl
  · obtain ⟨j, hj⟩ := List.getElem?_of_mem hr
    exact rows_read h hj
  · exact Reads.nilL w enc size
theorem S.rowsAdd {α : Type} {w : World} {L : List Item} {e size n c : Nat} {p : Option Addr} {l : List α} {enc : α → List Value} {rs : List (Ro α)} (h : S w (RowsI e size enc rs :: Rw e size p n c (fl enc l) :: L)) (hn : n = l.length) : S w (RowsI e size enc (rs ++ [⟨p, c, l⟩]) :: L) := by
  subst hn
  exact S.rowsSnoc h
end Go.Proofs.Ytlikhpfdncidkaa
namespace Go.Proofs.Ytlikhpfdncidkaa
open Go.RowKit
open Go.Maps (Keyed)

/-! ## A map that stays while an iterator over it runs: the map's block and the iterator's are two items -/
section
variable {κ α : Type} {ek : κ → Value} {va : α → Value} {ok : κ → Prop} {M : κ → Option α} {es : Array MapEntry} {c : Nat} {kv : List (κ × α)}
def Mi (ek : κ → Value) (va : α → Value) (es : Array MapEntry) (c : Nat) (kv : List (κ × α)) (g r : Nat) (rem : List (κ × α)) (cur : Option (κ × α)) : Item :=
  ⟨fun j => j = r, fun w => ∃ seen since st, w.heap[r]? = some (.mapIter (some g) since seen st) ∧ (∀ e ∈ es.toList, e.born < since) ∧ (since ≤ st ∧ since ≤ c) ∧ rem = remOf es kv seen ∧ (cur.isSome = true → st = c) ∧ CurOk ek va es seen cur, fun h k => by
    obtain ⟨seen, since, st, h3, h4⟩ := k
    exact ⟨seen, since, st, (h.block r rfl).trans h3, h4⟩⟩
variable {P : Program} {N : Nat} {Q : Exit → Act → World → Prop} {f : Fr} {ds : List Deferred} {w w' : World} {o : Oper} {ops : Array Oper} {L : List Item} {K : Act → World → Prop}
theorem S.mpOpen {k0 g : Nat} (H : S w L) (hk : L[k0]? = some (Mp ek va ok g M)) : ∃ es c kv, KV ek va ok M es c kv ∧ S w (L.set k0 (Ob g (.map es c))) := by
  obtain ⟨es, c, kv, h1, h2⟩ := H.mp hk
  exact ⟨es, c, kv, h2, H.turn hk Same.rfl' h1 fun j hj => ⟨.inl hj, H.lt hk hj⟩⟩
theorem S.mpClose {k0 g : Nat} (hkv : KV ek va ok M es c kv) (H : S w L) (hk : L[k0]? = some (Ob g (.map es c))) : S w (L.set k0 (Mp ek va ok g M)) :=
  H.turn hk Same.rfl' ⟨es, c, kv, H.at hk, hkv⟩ fun j hj => ⟨.inl hj, H.lt hk hj⟩
theorem s_rangeE {t k e d : TypeId} {y : Operand} {g : Nat} (T : MapTy P t k e ek ok) (hkv : KV ek va ok M es c kv) (H : S w L) (k0 : Nat) (hw : Wt ops f o) (hd : o.dst = some d) (hN : Nat.blt d N = true) (hk : L[k0]? = some (Ob g (.map es c))) (ho : o.op = .range t y) (hy : evo f y = some (.map (some g)))
    (h : ∀ r w', S w' (Mi ek va es c kv g r kv none :: L) → G N K ((d, .pointer (some ⟨r, 0, none⟩)) :: f) ds w') : G N (StepK P ops Q o K) f ds w := by
  have hb : w.heap[g]? = some (.map es c) := H.at hk
  have hgl : g < w.heap.size := (Array.getElem?_eq_some_iff.1 hb).1
  have hrun : (Instr.range t (.map (some g))).run P w = .ok (.pointer (some ⟨w.heap.size, 0, none⟩)) (w.alloc (.mapIter (some g) c #[] c)) := by
    simp [Instr.range, run_underlying T.ht, MapKept.run_getObj_map hb, newObj, Sem.run, Result.andThen]
  have hrem : kv = remOf es kv #[] := by
    unfold remOf zipOf
    rw [List.filter_eq_self.2 (fun z _ => by simp)]
    exact (List.map_snd_zip (by have := hkv.len; simp; omega)).symm
  refine s_val hw hd hN (ex_of (x := Instr.range t (.map (some g))) (fun a ha => by unfold execOp; simp only [ho, ha.eval hy]) hrun) (h _ _ ?_)
  have h2 : S (w.alloc (.mapIter (some g) c #[] c)) (Ob w.heap.size (.mapIter (some g) c #[] c) :: L) := H.alloc _
  exact h2.turn (k := 0) rfl Same.rfl' ⟨#[], c, c, h2.at (k := 0) rfl, hkv.old, ⟨Nat.le_refl _, Nat.le_refl _⟩, hrem, fun h => Bool.noConfusion h, trivial⟩ fun j hj => ⟨.inl hj, h2.lt (k := 0) rfl hj⟩
theorem s_nextE {d : TypeId} {y : Operand} {g r : Nat} {rem : List (κ × α)} {cur : Option (κ × α)} (hkv : KV ek va ok M es c kv) (H : S w L) (k0 k1 : Nat) (hw : Wt ops f o) (hd : o.dst = some d) (hN : Nat.blt d N = true) (hk : L[k0]? = some (Ob g (.map es c))) (hk1 : L[k1]? = some (Mi ek va es c kv g r rem cur)) (ho : o.op = .next y false) (hy : evo f y = some (.pointer (some ⟨r, 0, none⟩)))
    (h0 : rem = [] → G N K ((d, .tuple #[.bool false]) :: f) ds w)
    (h1 : ∀ p rem' w', p ∈ rem → ok p.1 → M p.1 = some p.2 → (∀ q, q ∈ rem' ↔ q ∈ rem ∧ q ≠ p) → rem'.length < rem.length → S w' (L.set k1 (Mi ek va es c kv g r rem' (some p))) → G N K ((d, .tuple #[.bool true, ek p.1, va p.2]) :: f) ds w') : G N (StepK P ops Q o K) f ds w := by
  have hb : w.heap[g]? = some (.map es c) := H.at hk
  obtain ⟨seen, since, st, hr, hold, hsc, hrem, _, hcur⟩ := H.at hk1
  rcases run_next_at (P := P) w o.type r g since st seen es c hr hb hold hsc.1 with ⟨h2, h3⟩ | ⟨e, he, w1, hw1, h3⟩
  · refine s_val hw hd hN (ex_of (x := Instr.next (.pointer (some ⟨r, 0, none⟩)) false o.type) (fun a ha => by unfold execOp; simp only [ho, ha.eval hy]) h3) (h0 ?_)
    rw [hrem]
    unfold remOf
    have h4 := hkv.left seen
    have h5 : (leftOf es seen).toList = [] := by
      have : (leftOf es seen).toList.length = 0 := by simpa using h2
      exact List.eq_nil_of_length_eq_zero this
    rw [h5] at h4
    have : zipOf es kv seen = [] := List.map_eq_nil_iff.1 h4.symm
    rw [this]; rfl
  · obtain ⟨p, p1, p2, p3, p4, p5, p6⟩ := hkv.rem_next he
    have hpk : p ∈ kv := by
      obtain ⟨z, hz, rfl⟩ := List.mem_map.1 p1
      obtain ⟨j, _, j2, _⟩ := hkv.zip_at (List.mem_filter.1 hz).1
      exact List.mem_of_getElem? j2
    have hp := (hkv.is p).1 hpk
    rw [p3, p4] at h3
    refine s_val hw hd hN (ex_of (x := Instr.next (.pointer (some ⟨r, 0, none⟩)) false o.type) (fun a ha => by unfold execOp; simp only [ho, ha.eval hy]) h3) (h1 p (remOf es kv (seen.push e.born)) _ (hrem ▸ p1) hp.1 hp.2 (by rw [hrem]; exact p5) (by rw [hrem]; exact p6) ?_)
    have hw1h : w1.heap = w.heap := by rcases hw1 with rfl | rfl <;> rfl
    have hr1 : w1.heap[r]? = some (.mapIter (some g) since seen st) := by rw [hw1h]; exact hr
    have hS1 : S w1 L := by
      rcases hw1 with rfl | rfl
      · exact H
      · exact H.drew
    refine hS1.turn hk1 ((same_setBlock w1 r _).less fun j hj => hj.2) ⟨_, since, c, heap_setBlock hr1, hold, ⟨hsc.2, hsc.2⟩, rfl, fun _ => rfl, seen, e, rfl, p2, p3, p4⟩ (fun j hj => ⟨.inl hj, ?_⟩)
    exact Nat.lt_of_lt_of_le (hS1.lt hk1 hj) (same_setBlock w1 r _).size
theorem x_entryE {y : Operand} {g r : Nat} {rem : List (κ × α)} {p : κ × α} (hkv : KV ek va ok M es c kv) (H : S w L) (k0 k1 : Nat) (hk : L[k0]? = some (Ob g (.map es c))) (hk1 : L[k1]? = some (Mi ek va es c kv g r rem (some p))) (ho : o.op = .entry y) (hy : evo f y = some (.pointer (some ⟨r, 0, none⟩))) : Ex P N f ds o w (.tuple #[ek p.1, va p.2]) w :=
  ex_of (x := Instr.entry (.pointer (some ⟨r, 0, none⟩))) (fun a ha => by unfold execOp; simp only [ho, ha.eval hy]) (by
    have hb : w.heap[g]? = some (.map es c) := H.at hk
    obtain ⟨seen, since, st, hr, hold, hsc, hrem, hst, seen0, e, rfl, h2, h3, h4⟩ := H.at hk1
    have hst := hst rfl
    subst hst
    rw [run_entry_at w r g since seen0 es _ e hr hb h2 hkv.born, h3, h4])
end
end Go.Proofs.Ytlikhpfdncidkaa
