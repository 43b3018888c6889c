import Derived.Test.YtpbjekdjebjbkaaGreatSp
import Derived.LaidEqlPtr
set_option linter.unusedSimpArgs false
set_option linter.unusedVariables false
namespace Go.Proofs.YtpbjekdjebjbkaaGreat
open Go.RowKit

/-! ## A range over a function: what the iterator asks is asked of the world; what the assignment makes is told -/
/-- The iterator's word. At each yield the world is the base, the iterator's memory (one item) and the caller's (one item); the caller gives the first two back as they were. -/
def IterW {α : Type} (n : Nat) (P : Program) (g : Nat) (lb : Array Value) (encs : α → Array Value) (base : Item) (Φ : List α → α → Item → Prop) (Ok : List α → World → Prop) (S' Sp : List α → Prop) (I0 : Item) : Prop :=
  ∀ (l : Nat) (J Jx : List α → Item → Prop) (W : World) (C : Item), (∀ pre C W, J pre C → C.ok W → Ok pre W) →
    (∀ pre x W1 I C, J pre C → Φ pre x I → S W1 [base, I, C] → YieldAt (WF none) (n - 1) P l (encs x) W1 fun e W' =>
      (e = .returned (.bool true) ∧ ∃ C', J (pre ++ [x]) C' ∧ S W' [base, I, C']) ∨ (e = .returned (.bool false) ∧ ∃ C', Jx (pre ++ [x]) C' ∧ S W' [base, I, C'])) →
    J [] C → S W [base, I0, C] →
    CallsIn (WF none) n P g (#[.func (.yield l) #[] #[]] ++ lb) W fun e W' => (∃ v, e = .returned v) ∧ ((∃ xs C, S' xs ∧ J xs C ∧ S W' [base, C]) ∨ (∃ pre C, Sp pre ∧ Jx pre C ∧ S W' [base, C]))
/-- What is asked behind the assignment. -/
def AssignW {ι : Type} (N : Nat) (FA : ι → Fr) (LA : ι → List Item) (L : List Item) (a : Act) (w : World) : Prop := ∃ i, Rds N a (FA i) [] ∧ S w (LA i ++ L)
section
variable {P : Program} {N : Nat} {Q : Exit → Act → World → Prop} {f : Fr} {ds : List Deferred} {w : World} {n : Nat} {ops : Array Oper} {rest : List Oper} {o : Oper} {L : List Item}
theorem rw_assign {ι : Type} {FA : ι → Fr} {LA : ι → List Item} (i : ι) (hs : sub (FA i) f) (H : S w (LA i ++ L)) : G N (AssignW N FA LA L) f [] w := fun a ha => ⟨i, ha.weak hs, H⟩
theorem g_rangeW {α ι : Type} {x : Operand} {ps : Array Tmp} {assign body : Code} {gf : Nat} {lb : Array Value} {encs : α → Array Value} {base I0 : Item} {Φ : List α → α → Item → Prop} {Ok : List α → World → Prop} {S' Sp : List α → Prop} {L0 : List Item}
    (hn : 1 ≤ n) (hx : evo f x = some (.func (.func gf) #[] lb)) (hc : callable P gf = true) (hit : IterW (n - 1) P gf lb encs base Φ Ok S' Sp I0)
    (hps : ∀ x, (encs x).size = ps.size) (hpN : (ps.toList.all fun p => Nat.blt p N) = true) (J Jx : List α → List Item → Prop) (FA : α → ι → Fr) (LA : α → ι → List Item) (hOk : ∀ pre Lx W, J pre Lx → S W Lx → Ok pre W) (h0 : J [] L0) (H : S w (base :: I0 :: L0))
    (hassign : ∀ (l : Nat) (x : α) (Lx : List Item) (W : World), S W Lx → G N (assign.wpIn (WF (some l)) (n - 1 - 1) P (Exit.then (AssignW N (FA x) (LA x) Lx) (fun _ _ _ => False))) (lay ps.toList (encs x).toList f) [] W)
    (hbody : ∀ (l : Nat) (pre : List α) (x : α) (i : ι) (I K : Item) (Lx : List Item) (W : World), J pre Lx → Φ pre x I → S W (base :: I :: K :: Big (LA x i) :: Lx) → G N (body.wpIn (WF (some l)) (n - 1 - 1) P (RoundS J Jx base I K (pre ++ [x]))) (FA x i) [] W)
    (hdone : ∀ (D : Nat) (xs : List α) (Lx : List Item) (W : World), S' xs → J xs Lx → S W (Ob D (.deferred (some [])) :: base :: Lx) → G N (Q .normal) f (mark D :: ds) W)
    (hstop : ∀ (D : Nat) (pre : List α) (Lx : List Item) (W : World), Sp pre → Jx pre Lx → S W (Ob D (.deferred (some [])) :: base :: Lx) → G N (Q .ret) f (mark D :: ds) W) :
    G N ((Code.rangeFunc x ps assign body).wpIn (WF none) n P Q) f ds w := fun a ha => by
  refine wpIn_rangeFunc ?_
  intro fn hfn
  obtain ⟨rec, hrec⟩ : ∃ rec : LoopState → Option Code → Loop, rec = fun st pe => { state := st, pending := pe, fn, tmps := a.tmps, params := ps, assign, body, defers := w.heap.size } := ⟨_, rfl⟩
  have HW := (H.alloc (.deferred (some []))).alloc (.loop (rec .ready none))
  rw [World.size_alloc] at HW
  let D := w.heap.size
  let dI := Ob D (.deferred (some []))
  let lI := fun st pe => Ob (D + 1) (.loop (rec st pe))
  have HC : S ((w.alloc (.deferred (some []))).alloc (.loop (rec .ready none))) [base, I0, Big (dI :: lI .ready none :: L0)] := by
    have h1 : S ((w.alloc (.deferred (some []))).alloc (.loop (rec .ready none))) ((dI :: lI .ready none :: L0) ++ [base, I0]) := HW.perm (by
      refine List.Perm.trans (List.Perm.swap ..) ?_
      simp only [List.cons_append]
      refine .cons _ (.cons _ ?_)
      exact (List.perm_append_comm (l₁ := [base, I0]) (l₂ := L0)))
    exact h1.big.perm (List.perm_append_comm (l₁ := [_]) (l₂ := [base, I0]))
  obtain ⟨W1, hW1⟩ : ∃ W1, W1 = (w.alloc (.deferred (some []))).alloc (.loop (rec .ready none)) := ⟨_, rfl⟩
  rw [← hW1] at HC
  refine ⟨D + 1, [mark D], W1, { target := .fn (.func gf) lb, args := #[.func (.yield (D + 1)) #[] #[]] }, W1, gf, #[.func (.yield (D + 1)) #[] #[]] ++ lb, W1, ?_, ?_, ?_, ?_, fun _ => hn, ?_⟩
  · rw [hW1, hrec]; exact run_enterLoop_outer _ _ _ _ _
  · simp only [resolve, ha.eval hx]
    simp [go_sem]
  · intro f' hf'; simp [Target.leads] at hf'; subst hf'; trivial
  · simp [invoke, go_sem, run_callFunc hc]
  · have eqK : ∀ {W : World} {I : Item} {st : LoopState} {pe : Option Code} {Lx : List Item}, S W [base, I, Big (dI :: lI st pe :: Lx)] → S W (base :: I :: Big [dI, lI st pe] :: Lx) := fun {W I st pe Lx} h => by
      have h1 := (h.perm (List.perm_append_comm (l₁ := [base, I]) (l₂ := [_]))).unbig
      have h2 : S W ([dI, lI st pe] ++ (Lx ++ [base, I])) := h1
      refine h2.big.perm ?_
      have : (Big [dI, lI st pe] :: (Lx ++ [base, I])).Perm ([base, I] ++ (Big [dI, lI st pe] :: Lx)) := List.perm_append_comm (l₁ := Big [dI, lI st pe] :: Lx) (l₂ := [base, I])
      exact this
    have eqK' : ∀ {W : World} {I : Item} {st : LoopState} {pe : Option Code} {Lx : List Item}, S W (base :: I :: Big [dI, lI st pe] :: Lx) → S W [base, I, Big (dI :: lI st pe :: Lx)] := fun {W I st pe Lx} h => by
      have h1 : S W (Big [dI, lI st pe] :: (Lx ++ [base, I])) := h.perm (List.perm_append_comm (l₁ := [base, I]) (l₂ := Big [dI, lI st pe] :: Lx))
      have h2 : S W ((dI :: lI st pe :: Lx) ++ [base, I]) := h1.unbig
      exact h2.big.perm (List.perm_append_comm (l₁ := [_]) (l₂ := [base, I]))
    have eqO : ∀ {W : World} {I : Item} {st : LoopState} {pe : Option Code} {Lx : List Item}, S W (base :: I :: Big [dI, lI st pe] :: Lx) → S W (lI st pe :: (dI :: Lx ++ [base, I])) := fun {W I st pe Lx} h => by
      have h1 : S W (Big [dI, lI st pe] :: (Lx ++ [base, I])) := h.perm (List.perm_append_comm (l₁ := [base, I]) (l₂ := Big [dI, lI st pe] :: Lx))
      exact h1.unbig.perm (List.Perm.swap ..)
    have eqO' : ∀ {W : World} {I : Item} {st : LoopState} {pe : Option Code} {Lx : List Item}, S W (lI st pe :: (dI :: Lx ++ [base, I])) → S W (base :: I :: Big [dI, lI st pe] :: Lx) := fun {W I st pe Lx} h => by
      have h1 : S W ([dI, lI st pe] ++ (Lx ++ [base, I])) := h.perm (List.Perm.swap ..)
      exact h1.big.perm (List.perm_append_comm (l₁ := Big [dI, lI st pe] :: Lx) (l₂ := [base, I]))
    refine (hit (D + 1) (fun pre C => ∃ Lx, C = Big (dI :: lI .ready none :: Lx) ∧ J pre Lx) (fun pre C => ∃ Lx, C = Big (dI :: lI .done (some .ret) :: Lx) ∧ Jx pre Lx) _ _ (fun pre C W h hC => by obtain ⟨Lx, rfl, h⟩ := h; exact hOk pre Lx W h (show S W _ from hC).tail.tail) ?_ ⟨L0, rfl, h0⟩ HC).mono ?_
    · rintro pre x W I C ⟨Lx, rfl, hJ⟩ hΦ hS
      have hS1 := eqK hS
      have hl : W.heap[D + 1]? = some (.loop (rec .ready none)) := (eqO hS1).ob (k := 0) rfl
      have hy := run_yield (P := P) (args := encs x) hl (by rw [hrec]; exact hps x)
      rw [hrec] at hy
      refine ⟨fn, _, assign, body, hy, roundIn_of_wpIn hfn ?_⟩
      refine wpIn_mono (hassign _ x _ W hS1 _ (ha.putA hpN (hps x))) (fun e a' W' h => ?_)
      cases e with
      | normal =>
        obtain ⟨i, k1, k20⟩ := h
        have k2 : S W' (base :: I :: Big [dI, lI .ready none] :: Big (LA x i) :: Lx) := by
          have h7 := k20.big
          refine h7.perm ?_
          refine (List.Perm.swap ..).trans (.cons _ ((List.Perm.swap ..).trans (.cons _ (List.Perm.swap ..))))
        have hl2 : W'.heap[D + 1]? = some (.loop (rec .ready none)) := (eqO k2).ob (k := 0) rfl
        refine ⟨_, run_beginRound hl2 (by rw [hrec]), ?_⟩
        have hb : S (W'.putObj (D + 1) (.loop { rec .ready none with state := .busy })) (base :: I :: Big [dI, lI .busy none] :: Big (LA x i) :: Lx) := by
          have := (eqO k2).putObj (k := 0) (D := D + 1) (o' := .loop { rec .ready none with state := .busy }) rfl
          refine eqO' ?_
          subst hrec
          exact this
        refine wpIn_mono (hbody _ pre x i I _ Lx _ hJ hΦ hb a' k1) (fun e a3 W3 hp => ?_)
        have fin : ∀ (jump : Option Code) (Ly : List Item), S W3 (base :: I :: Big [dI, lI .busy none] :: Ly) →
            ∃ W4, (Instr.endRound (D + 1) jump).run P W3 = .ok (.bool jump.isNone) W4 ∧ S W4 [base, I, Big (dI :: lI (if jump.isNone then .ready else .done) jump :: Ly)] := fun jump Ly h3 => by
          have hl3 : W3.heap[D + 1]? = some (.loop (rec .busy none)) := (eqO h3).ob (k := 0) rfl
          refine ⟨_, run_endRound (P := P) jump hl3, eqK' (eqO' ?_)⟩
          have := (eqO h3).putObj (k := 0) (D := D + 1) (o' := .loop { rec .busy none with state := if jump.isNone then .ready else .done, pending := jump }) rfl
          subst hrec
          exact this
        cases e with
        | normal =>
          obtain ⟨Ly, j1, j2⟩ := hp
          obtain ⟨W4, r1, r2⟩ := fin none Ly j2
          exact ⟨_, _, r1, .inl ⟨rfl, _, ⟨Ly, rfl, j1⟩, r2⟩⟩
        | ret =>
          obtain ⟨Ly, j1, j2⟩ := hp
          obtain ⟨W4, r1, r2⟩ := fin (some .ret) Ly j2
          exact ⟨_, _, r1, .inr ⟨rfl, _, ⟨Ly, rfl, j1⟩, r2⟩⟩
        | _ => exact hp.elim
      | _ => exact h.elim
    · have unC : ∀ {W : World} {st : LoopState} {pe : Option Code} {Lx : List Item}, S W [base, Big (dI :: lI st pe :: Lx)] → S W (lI st pe :: dI :: base :: Lx) := fun {W st pe Lx} h => by
        have h1 := (h.perm (List.perm_append_comm (l₁ := [base]) (l₂ := [_]))).unbig
        have h2 : S W (dI :: lI st pe :: (Lx ++ [base])) := h1
        refine h2.perm ((List.Perm.swap ..).trans (.cons _ (.cons _ ?_)))
        exact List.perm_append_comm (l₁ := Lx) (l₂ := [base])
      rintro e W2 ⟨⟨v, rfl⟩, (⟨xs, C, hS, ⟨Lx, rfl, hJ⟩, hC⟩ | ⟨pre, C, hS, ⟨Lx, rfl, hJ⟩, hC⟩)⟩
      · have h1 := unC hC
        have hl := h1.ob (k := 0) (o := .loop (rec .ready none)) rfl
        refine ⟨none, _, by have := run_endLoop (P := P) hl (by rw [hrec]; simp); rw [hrec] at this; exact this, ?_⟩
        exact hdone D xs Lx _ hS hJ (h1.putObj (k := 0) rfl).tail _ ⟨ha.size, ha.get, by rw [← ha.defers]; rfl⟩
      · have h1 := unC hC
        have hl := h1.ob (k := 0) (o := .loop (rec .done (some .ret))) rfl
        refine ⟨some .ret, _, by have := run_endLoop (P := P) hl (by rw [hrec]; simp); rw [hrec] at this; exact this, ?_⟩
        exact wpIn_ret (hstop D pre Lx _ hS hJ (h1.putObj (k := 0) rfl).tail _ ⟨ha.size, ha.get, by rw [← ha.defers]; rfl⟩)
end
end Go.Proofs.YtpbjekdjebjbkaaGreat
namespace Go.Proofs.YtpbjekdjebjbkaaGreat
open Go.RowKit

/-! ## A family of blocks of one kind -/
def upd {α : Type} (tk : Nat → α) (x : Nat) (a : α) : Nat → α := fun y => if y = x then a else tk y
def Fam {α : Type} (e : TypeId) (enc : α → Array Value) (gs : List Nat) (tk : Nat → α) : Item :=
  ⟨fun g => g ∈ gs, fun w => gs.Nodup ∧ ∀ x ∈ gs, w.heap[x]? = some (.cells (enc (tk x)) e (0, 0)), fun h k => ⟨k.1, fun x hx => (h.block x hx).trans (k.2 x hx)⟩⟩
section
variable {P : Program} {N : Nat} {Q : Exit → Act → World → Prop} {f : Fr} {ds : List Deferred} {w w' : World} {o : Oper} {ops : Array Oper} {L : List Item} {K : Act → World → Prop}
variable {α : Type} {e : TypeId} {enc : α → Array Value} {gs : List Nat} {tk : Nat → α}
/-! a row of rows is opened, and shut -/
theorem perm_erase {β : Type} : ∀ {l : List β} {j : Nat} {r : β}, l[j]? = some r → l.Perm (r :: l.eraseIdx j)
  | [], j, r, h => by cases h
  | a :: l, 0, r, h => by cases h; exact .refl _
  | a :: l, j + 1, r, h => by
    rw [List.getElem?_cons_succ] at h
    exact ((perm_erase h).cons a).trans (List.Perm.swap ..)
end
end Go.Proofs.YtpbjekdjebjbkaaGreat
namespace Go.Proofs.YtpbjekdjebjbkaaGreat
open Go.RowKit

/-! ## Two pointers compared; copy and store in a row -/
section
variable {P : Program} {N : Nat} {Q : Exit → Act → World → Prop} {f : Fr} {ds : List Deferred} {w w' : World} {o : Oper} {ops : Array Oper} {L : List Item} {K : Act → World → Prop}
/-- Maps by text. -/
abbrev okT : ByteArray → Prop := fun s => s.size ≤ 1048576
/-- How many keys a map has. -/
def KN {κ α : Type} (ok : κ → Prop) (M : κ → Option α) (n : Nat) : Prop := ∃ kv : List (κ × α), (kv.map Prod.fst).Nodup ∧ (∀ p : κ × α, p ∈ kv ↔ (ok p.1 ∧ M p.1 = some p.2)) ∧ n = kv.length
end
end Go.Proofs.YtpbjekdjebjbkaaGreat
namespace Go.Proofs.YtpbjekdjebjbkaaGreat
open Go.RowKit

/-! ## Maps that are nil; a family of maps -/
section
variable {P : Program} {N : Nat} {Q : Exit → Act → World → Prop} {f : Fr} {ds : List Deferred} {w w' : World} {o : Oper} {ops : Array Oper} {L : List Item} {K : Act → World → Prop}
variable {κ α : Type} {ek : κ → Value} {va : α → Value} {ok : κ → Prop} {M : κ → Option α}
/-- Maps of one kind, each in a block of its own. -/
def FamM (ek : κ → Value) (va : α → Value) (ok : κ → Prop) (ms : List Nat) (ct : Nat → κ → Option α) : Item := Big (ms.map fun x => Mp ek va ok x (ct x))
variable {ms : List Nat} {ct : Nat → κ → Option α}
end
end Go.Proofs.YtpbjekdjebjbkaaGreat
namespace Go.Proofs.YtpbjekdjebjbkaaGreat
open Go.RowKit

/-! ## slices.Clip, and append to what was clipped -/
section
variable {P : Program} {N : Nat} {Q : Exit → Act → World → Prop} {f : Fr} {ds : List Deferred} {w w' : World} {o : Oper} {ops : Array Oper} {L : List Item} {K : Act → World → Prop}
end
end Go.Proofs.YtpbjekdjebjbkaaGreat
namespace Go.Proofs.YtpbjekdjebjbkaaGreat
open Go.RowKit

/-! ## Lists in rows, by how an element is written -/
structure Enc {α : Type} (size : Nat) (enc : α → List Value) : Prop where
  pos : 0 < size
  len : ∀ x, (enc x).length = size
  one : ∀ x, (enc x).all (·.oneCell') = true
def fl {α : Type} (enc : α → List Value) (l : List α) : List Value := l.flatMap enc
section
variable {α : Type} {enc : α → List Value} {size : Nat}
theorem fl_app (enc : α → List Value) (a b : List α) : fl enc (a ++ b) = fl enc a ++ fl enc b := List.flatMap_append ..
theorem Enc.flLen (E : Enc size enc) (l : List α) : (fl enc l).length = l.length * size := flat_length fun x _ => E.len x
theorem Enc.flAt (E : Enc size enc) {l : List α} {j : Nat} {x : α} (h : l[j]? = some x) : ∀ i u, (enc x)[i]? = some u → (fl enc l)[j * size + i]? = some u := flat_at (fun x _ => E.len x) h
theorem Enc.flAt1 (E : Enc 1 enc) {l : List α} {j : Nat} {x : α} {v : Value} (h : l[j]? = some x) (hv : enc x = [v]) : (fl enc l)[j * 1]? = some v := by
  have := E.flAt h 0 v (by rw [hv]; rfl)
  simpa using this
theorem Enc.flOne (E : Enc size enc) (l : List α) : (fl enc l).all (·.oneCell') = true := by
  rw [List.all_eq_true]; intro v hv
  obtain ⟨x, _, h⟩ := List.mem_flatMap.1 hv
  exact List.all_eq_true.1 (E.one x) v h
theorem Enc.flTake (E : Enc size enc) : ∀ (l : List α) (k : Nat), (fl enc l).take (k * size) = fl enc (l.take k)
  | l, 0 => by simp [fl]
  | [], k + 1 => by simp [fl]
  | a :: l, k + 1 => by
    show (enc a ++ fl enc l).take ((k + 1) * size) = enc a ++ fl enc (l.take k)
    rw [show (k + 1) * size = (enc a).length + k * size by rw [E.len, Nat.succ_mul]; omega, List.take_length_add_append, E.flTake l k]
theorem Enc.flDrop (E : Enc size enc) : ∀ (l : List α) (k : Nat), (fl enc l).drop (k * size) = fl enc (l.drop k)
  | l, 0 => by simp [fl]
  | [], k + 1 => by simp [fl]
  | a :: l, k + 1 => by
    show (enc a ++ fl enc l).drop ((k + 1) * size) = fl enc (l.drop k)
    rw [show (k + 1) * size = (enc a).length + k * size by rw [E.len, Nat.succ_mul]; omega, List.drop_length_add_append, E.flDrop l k]
theorem Enc.flSet (E : Enc size enc) {l : List α} {i : Nat} (y : α) (h : i < l.length) : (fl enc l).take (i * size) ++ enc y ++ (fl enc l).drop (i * size + size) = fl enc (l.set i y) := by
  rw [show i * size + size = (i + 1) * size by rw [Nat.succ_mul], E.flTake, E.flDrop, List.set_eq_take_append_cons_drop, if_pos h, fl_app, List.append_assoc]; rfl
theorem ex_at {l : List α} {j : Nat} (h : j < l.length) : ∃ x, l[j]? = some x := ⟨_, List.getElem?_eq_getElem h⟩
variable {w : World} {p : Option Addr} {n c : Nat} {l : List α}
theorem Reads.lenL (hr : Reads w p n c size (fl enc l)) (E : Enc size enc) : n = l.length := by
  have h1 := hr.1
  rw [E.flLen] at h1
  exact (Nat.eq_of_mul_eq_mul_right E.pos h1).symm
theorem Reads.takeL (hr : Reads w p n c size (fl enc l)) (E : Enc size enc) (k : Nat) (hk : k ≤ n) : Reads w p k c size (fl enc (l.take k)) := by
  have := hr.take k hk
  rwa [E.flTake] at this
theorem cutP0 (p : Option Addr) (c size : Nat) : cutP p 0 c size = p := by
  unfold cutP
  split
  · rfl
  · cases p with
    | none => rfl
    | some a => show some (a.add (0 * size)) = some a; rw [Nat.zero_mul]; unfold Addr.add; rfl
theorem Reads.some (hr : Reads w p n c size (fl enc l)) (h : 0 < n) : ∃ a, p = some a := by
  obtain ⟨a, ha, _⟩ := hr.2.2 h
  exact ⟨a, ha⟩
end
section
variable {P : Program} {N : Nat} {Q : Exit → Act → World → Prop} {f : Fr} {ds : List Deferred} {w w' : World} {o : Oper} {ops : Array Oper} {L : List Item} {K : Act → World → Prop} {α : Type} {enc : α → List Value}
theorem S.nilFl (h : S w L) (e size : Nat) (enc : α → List Value) : S w (Rw e size none 0 0 (fl enc []) :: L) := h.nilRw e size
/-- append(x, y...) to a row of one's own. -/
theorem s_appL {d t e size bytes n m c sc : Nat} {s x : Operand} {z : Value} {p q : Option Addr} {l l2 : List α} (E : Enc size enc) (H : S w L) (k : Nat) (hw : Wt ops f o) (hd : o.dst = some d) (hN : Nat.blt d N = true)
    (ho : o.op = .call { callee := .builtin .append, args := #[s, x], argTypes := #[t, t] }) (hs : evo f s = some (.slice p n sc)) (hx : evo f x = some (.slice q m c)) (hk : L[k]? = some (Rw e size p n sc (fl enc l)))
    (ht : P.underlying t = some (.slice e)) (hi : infO P e = some (some z, size, bytes)) (hz : z.cells.size = size) (hb0 : 0 < bytes) (hr : Reads w q m c size (fl enc l2)) (hb : (n + m) * bytes ≤ 140737488355328)
    (h : ∀ p' c' w', S w' (L.set k (Rw e size p' (n + m) c' (fl enc (l ++ l2)))) → G N K ((d, .slice p' (n + m) c') :: f) ds w') : G N (StepK P ops Q o K) f ds w :=
  s_appendW H k hw hd hN ho hs hx hk ht hi hz E.pos hb0 hr (E.flOne l2) hb fun p' c' w' h9 => h p' c' w' (by rw [fl_app]; exact h9)
/-- append(x, a block's cells). -/
theorem s_appB {d t e size bytes n m c sc g : Nat} {s x : Operand} {z : Value} {p : Option Addr} {l l2 : List α} {cs : Array Value} (E : Enc size enc) (H : S w L) (k : Nat) {j0 : Nat} (hj : L[j0]? = some (Ob g (.cells cs e (0, 0)))) (hcs : cs.toList = fl enc l2) (hm : m = l2.length ∧ m ≤ c) (hw : Wt ops f o) (hd : o.dst = some d) (hN : Nat.blt d N = true)
    (ho : o.op = .call { callee := .builtin .append, args := #[s, x], argTypes := #[t, t] }) (hs : evo f s = some (.slice p n sc)) (hx : evo f x = some (.slice (some ⟨g, 0, none⟩) m c)) (hk : L[k]? = some (Rw e size p n sc (fl enc l)))
    (ht : P.underlying t = some (.slice e)) (hi : infO P e = some (some z, size, bytes)) (hz : z.cells.size = size) (hb0 : 0 < bytes) (hb : (n + m) * bytes ≤ 140737488355328)
    (h : ∀ p' c' w', S w' (L.set k (Rw e size p' (n + m) c' (fl enc (l ++ l2)))) → G N K ((d, .slice p' (n + m) c') :: f) ds w') : G N (StepK P ops Q o K) f ds w :=
  s_appL E H k hw hd hN ho hs hx hk ht hi hz hb0 ⟨by rw [E.flLen, hm.1], hm.2, fun _ => ⟨_, rfl, fun j u hu => news_ob H hj j u (by rw [hcs]; exact hu)⟩⟩ hb h
/-- x[j] = v, a whole element. -/
theorem s_stoL {t e size n c j : Nat} {x y : Operand} {p : Option Addr} {l : List α} {v : Value} (E : Enc size enc) (b : α) (H : S w L) (k : Nat) (hw : Wt ops f o) (hd : o.dst = none) (ho : o.op = .store t x y) (hx : evo f x = some (.pointer (p.map fun q => q.add (j * size))))
    (hy : evo f y = some v) (hk : L[k]? = some (Rw e size p n c (fl enc l))) (hv : v.cells.toList = enc b) (hn : szO P t = some size) (hj : j < n)
    (h : ∀ w', S w' (L.set k (Rw e size p n c (fl enc (l.set j b)))) → G N K f ds w') : G N (StepK P ops Q o K) f ds w := by
  have hr := H.rwReads hk
  have hl := hr.lenL E
  have hs : v.cells.size = size := by rw [← Array.length_toList, hv, E.len]
  exact s_storeW H k hw hd ho hx hy hk (by rw [hs]; exact hn) hs (by rw [hv]; exact E.one b) hj fun w' h9 => h w' (by rw [← E.flSet b (by omega), ← hv]; exact h9)
theorem s_appLn {d t e size bytes n m c sc : Nat} {s x : Operand} {z : Value} {p q : Option Addr} {l l2 : List α} (E : Enc size enc) (H : S w L) (k : Nat) (hw : Wt ops f o) (hd : o.dst = some d) (hN : Nat.blt d N = true)
    (ho : o.op = .call { callee := .builtin .append, args := #[s, x], argTypes := #[t, t] }) (hs : evo f s = some (.slice p n sc)) (hx : evo f x = some (.slice q m c)) (hk : L[k]? = some (Rw e size p n sc (fl enc l)))
    (ht : P.underlying t = some (.slice e)) (hi : infO P e = some (some z, size, bytes)) (hz : z.cells.size = size) (hb0 : 0 < bytes) (hr : Reads w q m c size (fl enc l2)) (hb : (n + m) * bytes ≤ 140737488355328)
    (h : ∀ p' c' w', S w' (L.set k (Rw e size p' (l ++ l2).length c' (fl enc (l ++ l2)))) → G N K ((d, .slice p' (l ++ l2).length c') :: f) ds w') : G N (StepK P ops Q o K) f ds w :=
  s_appL E H k hw hd hN ho hs hx hk ht hi hz hb0 hr hb fun p' c' w' h9 => by
    have h1 := h p' c' w'
    rw [List.length_append, ← (H.rwReads hk).lenL E, ← hr.lenL E] at h1
    exact h1 h9
theorem s_appBn {d t e size bytes n m c sc g : Nat} {s x : Operand} {z : Value} {p : Option Addr} {l l2 : List α} {cs : Array Value} (E : Enc size enc) (H : S w L) (k : Nat) {j0 : Nat} (hj : L[j0]? = some (Ob g (.cells cs e (0, 0)))) (hcs : cs.toList = fl enc l2) (hm : m = l2.length ∧ m ≤ c) (hw : Wt ops f o) (hd : o.dst = some d) (hN : Nat.blt d N = true)
    (ho : o.op = .call { callee := .builtin .append, args := #[s, x], argTypes := #[t, t] }) (hs : evo f s = some (.slice p n sc)) (hx : evo f x = some (.slice (some ⟨g, 0, none⟩) m c)) (hk : L[k]? = some (Rw e size p n sc (fl enc l)))
    (ht : P.underlying t = some (.slice e)) (hi : infO P e = some (some z, size, bytes)) (hz : z.cells.size = size) (hb0 : 0 < bytes) (hb : (n + m) * bytes ≤ 140737488355328)
    (h : ∀ p' c' w', S w' (L.set k (Rw e size p' (l ++ l2).length c' (fl enc (l ++ l2)))) → G N K ((d, .slice p' (l ++ l2).length c') :: f) ds w') : G N (StepK P ops Q o K) f ds w :=
  s_appLn E H k hw hd hN ho hs hx hk ht hi hz hb0 ⟨by rw [E.flLen, hm.1], hm.2, fun _ => ⟨_, rfl, fun j u hu => news_ob H hj j u (by rw [hcs]; exact hu)⟩⟩ hb h
theorem S.obFl {k g e size n : Nat} {cs : Array Value} {l : List α} (E : Enc size enc) (h : S w L) (hk : L[k]? = some (Ob g (.cells cs e (0, 0)))) (hn : n = l.length) (hm : n ≤ maxLen) (hc : cs.toList = fl enc l) : S w (L.set k (Rw e size (some ⟨g, 0, none⟩) n n (fl enc l))) := by
  have := h.obRw (size := size) (n := n) hk (by rw [← Array.length_toList, hc, E.flLen, hn]) hm
  rwa [hc] at this
end
/-! fields of elements -/
section
variable {P : Program} {N : Nat} {f : Fr} {ds : List Deferred} {w : World} {o : Oper} {α : Type} {enc : α → List Value}
theorem x_fieldAddrQ {s i n : Nat} {x : Operand} {q : Addr} (ho : o.op = .fieldAddr s x i) (hx : evo f x = some (.pointer (some q))) (hf : foO P s i = some n) : Ex P N f ds o w (.pointer (some (q.add n))) w :=
  ex_of (x := Instr.fieldAt s (.pointer (some q)) i) (fun a ha => by unfold execOp; simp only [ho, ha.eval hx]) (by
    unfold foO at hf
    split at hf
    · rename_i fs hu
      split at hf
      · rename_i fd hfd
        split at hf
        · rename_i ii hii
          split at hf
          · cases hf
          · rename_i hne
            cases hf
            unfold Instr.fieldAt
            simp only [Sem.run_bind, run_underlying hu, Result.andThen_ok, hfd, Instr.sureAddr, Sem.run_pure, fieldPlace, run_sz (show szO P fd.type = some ii.size by simp [szO, hii]), if_neg hne]
        · cases hf
      · cases hf
    · cases hf)
theorem x_fieldAddrG {s i n m : Nat} {x : Operand} {p : Option Addr} (hp : ∃ a, p = some a) (ho : o.op = .fieldAddr s x i) (hx : evo f x = some (.pointer (p.map fun q => q.add m))) (hf : foO P s i = some n) : Ex P N f ds o w (.pointer (p.map fun q => q.add (m + n))) w := by
  obtain ⟨a, rfl⟩ := hp
  have h := x_fieldAddrQ (N := N) (ds := ds) (w := w) ho hx hf
  rw [addr_add] at h
  exact h
theorem x_loadF1 {t size n c i j : Nat} {d : TypeDesc} {x : Operand} {p : Option Addr} {l : List α} {v : Value} {a : α} (E : Enc size enc) (hr : Reads w p n c size (fl enc l)) (ha : l[j]? = some a) (ho : o.op = .load t x) (hx : evo f x = some (.pointer (p.map fun q => q.add (j * size + i)))) (hu : P.underlying t = some d) (hd : aggB d = false) (hv : (enc a)[i]? = some v) :
    Ex P N f ds o w v w := by
  have hl := hr.lenL E
  have hj := (List.getElem?_eq_some_iff.1 ha).1
  obtain ⟨q, rfl, hc⟩ := hr.2.2 (by omega)
  exact x_load (p := q.add (j * size + i)) ho hx (run_load1 hu hd (hc _ v (E.flAt ha i v hv)))
end
/-! how things are written -/
def intL (x : Int) : List Value := [.int .i64 x]
def boolL (x : Bool) : List Value := [.bool x]
def strL (x : ByteArray) : List Value := [.string x]
def rowL {α : Type} (r : Ro α) : List Value := [roV r]
theorem intE : Enc 1 intL := ⟨by decide, fun _ => rfl, fun _ => rfl⟩
theorem rowE {α : Type} : Enc 1 (rowL (α := α)) := ⟨by decide, fun _ => rfl, fun _ => rfl⟩
theorem map_fl {α : Type} {F : α → Value} {enc : α → List Value} (h : ∀ x, enc x = [F x]) : ∀ l : List α, l.map F = fl enc l
  | [] => rfl
  | a :: l => by rw [List.map_cons, map_fl h l]; show _ = enc a ++ _; rw [h]; rfl
end Go.Proofs.YtpbjekdjebjbkaaGreat
