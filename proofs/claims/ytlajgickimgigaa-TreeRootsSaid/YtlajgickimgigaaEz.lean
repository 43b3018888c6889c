import Derived.Test.YtlajgickimgigaaEw
set_option linter.unusedSimpArgs false
set_option linter.unusedVariables false
namespace Go.Proofs.Ytlajgickimgigaa
open Go.RowKit

/-! ## A range over a function whose iterator has memory of its own, and writes it -/
/-- A list of items as one. -/
def Big (L : List Item) : Item := ⟨fps L, fun w => S w L, fun {w w'} h k =>
  ⟨fun it hit => ⟨it.loc (h.less fun g hg => ⟨it, hit, hg⟩) (k.1 it hit).1, fun g hg => Nat.lt_of_lt_of_le ((k.1 it hit).2 g hg) h.size⟩, k.2⟩⟩
theorem S.big {w : World} {L B : List Item} (h : S w (L ++ B)) : S w (Big L :: B) := by
  have hp := List.pairwise_append.1 h.2
  have hB : S w B := ⟨fun it hit => h.1 it (List.mem_append_right _ hit), hp.2.1⟩
  have hL : S w L := ⟨fun it hit => h.1 it (List.mem_append_left _ hit), hp.1⟩
  refine hB.cons hL ?_ ?_
  · rintro g ⟨it, hit, hg⟩; exact (hL.1 it hit).2 g hg
  · rintro x hx g ⟨it, hit, hg⟩ hx'
    exact hp.2.2 it hit x hx g hg hx'
theorem S.unbig {w : World} {L B : List Item} (h : S w (Big L :: B)) : S w (L ++ B) := by
  obtain ⟨h1, _, h3⟩ := h.head
  have hL : S w L := h1
  have hB := h.tail
  refine ⟨fun it hit => ?_, List.pairwise_append.2 ⟨hL.2, hB.2, fun a ha b hb g hga hgb => h3 b hb g ⟨a, ha, hga⟩ hgb⟩⟩
  rcases List.mem_append.1 hit with hit | hit
  · exact hL.1 it hit
  · exact hB.1 it hit
theorem S.bigAt {w : World} {L : List Item} {M : List Item} {k : Nat} (h : S w L) (hk : L[k]? = some (Big M)) : S w M := h.at hk
/-- The iterator's word. At each yield the world is the base, the iterator's memory (one item) and the caller's (one item); the caller gives the first two back as they were. -/
def IterS {α : Type} (n : Nat) (P : Program) (g : Nat) (lb : Array Value) (encs : α → Array Value) (base : Item) (Φ : List α → α → Item → Prop) (Ok S' Sp : List α → Prop) (I0 : Item) : Prop :=
  ∀ (l : Nat) (J Jx : List α → Item → Prop) (W : World) (C : Item), (∀ pre C, J pre C → Ok pre) →
    (∀ pre x W1 I C, J pre C → Φ pre x I → S W1 [base, I, C] → YieldAt (WF none) (n - 1) P l (encs x) W1 fun e W' =>
      (e = .returned (.bool true) ∧ ∃ C', J (pre ++ [x]) C' ∧ S W' [base, I, C']) ∨ (e = .returned (.bool false) ∧ ∃ C', Jx (pre ++ [x]) C' ∧ S W' [base, I, C'])) →
    J [] C → S W [base, I0, C] →
    CallsIn (WF none) n P g (#[.func (.yield l) #[] #[]] ++ lb) W fun e W' => (∃ v, e = .returned v) ∧ ((∃ xs C, S' xs ∧ J xs C ∧ S W' [base, C]) ∨ (∃ pre C, Sp pre ∧ Jx pre C ∧ S W' [base, C]))
/-- How a round ends. -/
def RoundS {α : Type} (J Jx : List α → List Item → Prop) (base I K : Item) (xs : List α) : Exit → Act → World → Prop
  | .normal, _, W => ∃ Lx, J xs Lx ∧ S W (base :: I :: K :: Lx)
  | .ret, _, W => ∃ Lx, Jx xs Lx ∧ S W (base :: I :: K :: Lx)
  | _, _, _ => False
theorem roundS_no {α : Type} {J Jx : List α → List Item → Prop} {base I K : Item} {xs : List α} : ¬ LetsOut (RoundS J Jx base I K xs) := fun ⟨_, _, h⟩ => h
section
variable {P : Program} {N : Nat} {Q : Exit → Act → World → Prop} {f : Fr} {ds : List Deferred} {w : World} {n : Nat} {ops : Array Oper} {rest : List Oper} {o : Oper} {L : List Item}
theorem rs_next {α : Type} {J Jx : List α → List Item → Prop} {base I K : Item} {xs : List α} {Lx : List Item} (hJ : J xs Lx) (H : S w (base :: I :: K :: Lx)) : G N (RoundS J Jx base I K xs .normal) f ds w := fun _ _ => ⟨Lx, hJ, H⟩
theorem rs_stop {α : Type} {J Jx : List α → List Item → Prop} {base I K : Item} {xs : List α} {Lx : List Item} (hJ : Jx xs Lx) (H : S w (base :: I :: K :: Lx)) : G N (RoundS J Jx base I K xs .ret) f ds w := fun _ _ => ⟨Lx, hJ, H⟩
/-- What is asked behind the assignment. -/
def AssignS (N : Nat) (FA : Fr) (L : List Item) (a : Act) (w : World) : Prop := Rds N a FA [] ∧ S w L
theorem rs_assign {FA : Fr} (hs : sub FA f) (H : S w L) : G N (AssignS N FA L) f [] w := fun a ha => ⟨ha.weak hs, H⟩
theorem S.putObj {D : Nat} {k : Nat} {o o' : Obj} (H : S w L) (hk : L[k]? = some (Ob D o)) : S (w.putObj D o') (L.set k (Ob D o')) :=
  H.write hk (same_putObj w D o') (World.putObj_heap_same (Array.getElem?_eq_some_iff.1 (H.ob hk)).1)
theorem g_rangeS {α : Type} {x : Operand} {ps : Array Tmp} {assign body : Code} {gf : Nat} {lb : Array Value} {encs : α → Array Value} {base I0 : Item} {Φ : List α → α → Item → Prop} {Ok S' Sp : List α → Prop} {L0 : List Item}
    (hn : 1 ≤ n) (hx : evo f x = some (.func (.func gf) #[] lb)) (hc : callable P gf = true) (hit : IterS (n - 1) P gf lb encs base Φ Ok S' Sp I0)
    (hps : ∀ x, (encs x).size = ps.size) (hpN : (ps.toList.all fun p => Nat.blt p N) = true) (J Jx : List α → List Item → Prop) (FA : α → Fr) (hOk : ∀ pre Lx, J pre Lx → Ok pre) (h0 : J [] L0) (H : S w (base :: I0 :: L0))
    (hassign : ∀ (l : Nat) (x : α) (Lx : List Item) (W : World), S W Lx → G N (assign.wpIn (WF (some l)) (n - 1 - 1) P (Exit.then (AssignS N (FA x) Lx) (fun _ _ _ => False))) (lay ps.toList (encs x).toList f) [] W)
    (hbody : ∀ (l : Nat) (pre : List α) (x : α) (I K : Item) (Lx : List Item) (W : World), J pre Lx → Φ pre x I → S W (base :: I :: K :: Lx) → G N (body.wpIn (WF (some l)) (n - 1 - 1) P (RoundS J Jx base I K (pre ++ [x]))) (FA x) [] W)
    (hdone : ∀ (D : Nat) (xs : List α) (Lx : List Item) (W : World), S' xs → J xs Lx → S W (Ob D (.deferred (some [])) :: base :: Lx) → G N (Q .normal) f (mark D :: ds) W)
    (hstop : ∀ (D : Nat) (pre : List α) (Lx : List Item) (W : World), Sp pre → Jx pre Lx → S W (Ob D (.deferred (some [])) :: base :: Lx) → G N (Q .ret) f (mark D :: ds) W) :
    G N ((Code.rangeFunc x ps assign body).wpIn (WF none) n P Q) f ds w := fun a ha => by
  refine wpIn_rangeFunc ?_
  intro fn hfn
  obtain ⟨rec, hrec⟩ : ∃ rec : LoopState → Option Code → Loop, rec = fun st pe => { state := st, pending := pe, fn, tmps := a.tmps, params := ps, assign, body, defers := w.heap.size } := ⟨_, rfl⟩
  have HW := (H.alloc (.deferred (some []))).alloc (.loop (rec .ready none))
  rw [World.size_alloc] at HW
  let D := w.heap.size
  let dI := Ob D (.deferred (some []))
  let lI := fun st pe => Ob (D + 1) (.loop (rec st pe))
  have HC : S ((w.alloc (.deferred (some []))).alloc (.loop (rec .ready none))) [base, I0, Big (dI :: lI .ready none :: L0)] := by
    have h1 : S ((w.alloc (.deferred (some []))).alloc (.loop (rec .ready none))) ((dI :: lI .ready none :: L0) ++ [base, I0]) := HW.perm (by
      refine List.Perm.trans (List.Perm.swap ..) ?_
      simp only [List.cons_append]
      refine .cons _ (.cons _ ?_)
      exact (List.perm_append_comm (l₁ := [base, I0]) (l₂ := L0)))
    exact h1.big.perm (List.perm_append_comm (l₁ := [_]) (l₂ := [base, I0]))
  obtain ⟨W1, hW1⟩ : ∃ W1, W1 = (w.alloc (.deferred (some []))).alloc (.loop (rec .ready none)) := ⟨_, rfl⟩
  rw [← hW1] at HC
  refine ⟨D + 1, [mark D], W1, { target := .fn (.func gf) lb, args := #[.func (.yield (D + 1)) #[] #[]] }, W1, gf, #[.func (.yield (D + 1)) #[] #[]] ++ lb, W1, ?_, ?_, ?_, ?_, fun _ => hn, ?_⟩
  · rw [hW1, hrec]; exact run_enterLoop_outer _ _ _ _ _
  · simp only [resolve, ha.eval hx]
    simp [go_sem]
  · intro f' hf'; simp [Target.leads] at hf'; subst hf'; trivial
  · simp [invoke, go_sem, run_callFunc hc]
  · have eqK : ∀ {W : World} {I : Item} {st : LoopState} {pe : Option Code} {Lx : List Item}, S W [base, I, Big (dI :: lI st pe :: Lx)] → S W (base :: I :: Big [dI, lI st pe] :: Lx) := fun {W I st pe Lx} h => by
      have h1 := (h.perm (List.perm_append_comm (l₁ := [base, I]) (l₂ := [_]))).unbig
      have h2 : S W ([dI, lI st pe] ++ (Lx ++ [base, I])) := h1
      refine h2.big.perm ?_
      have : (Big [dI, lI st pe] :: (Lx ++ [base, I])).Perm ([base, I] ++ (Big [dI, lI st pe] :: Lx)) := List.perm_append_comm (l₁ := Big [dI, lI st pe] :: Lx) (l₂ := [base, I])
      exact this
    have eqK' : ∀ {W : World} {I : Item} {st : LoopState} {pe : Option Code} {Lx : List Item}, S W (base :: I :: Big [dI, lI st pe] :: Lx) → S W [base, I, Big (dI :: lI st pe :: Lx)] := fun {W I st pe Lx} h => by
      have h1 : S W (Big [dI, lI st pe] :: (Lx ++ [base, I])) := h.perm (List.perm_append_comm (l₁ := [base, I]) (l₂ := Big [dI, lI st pe] :: Lx))
      have h2 : S W ((dI :: lI st pe :: Lx) ++ [base, I]) := h1.unbig
      exact h2.big.perm (List.perm_append_comm (l₁ := [_]) (l₂ := [base, I]))
    have eqO : ∀ {W : World} {I : Item} {st : LoopState} {pe : Option Code} {Lx : List Item}, S W (base :: I :: Big [dI, lI st pe] :: Lx) → S W (lI st pe :: (dI :: Lx ++ [base, I])) := fun {W I st pe Lx} h => by
      have h1 : S W (Big [dI, lI st pe] :: (Lx ++ [base, I])) := h.perm (List.perm_append_comm (l₁ := [base, I]) (l₂ := Big [dI, lI st pe] :: Lx))
      exact h1.unbig.perm (List.Perm.swap ..)
    have eqO' : ∀ {W : World} {I : Item} {st : LoopState} {pe : Option Code} {Lx : List Item}, S W (lI st pe :: (dI :: Lx ++ [base, I])) → S W (base :: I :: Big [dI, lI st pe] :: Lx) := fun {W I st pe Lx} h => by
      have h1 : S W ([dI, lI st pe] ++ (Lx ++ [base, I])) := h.perm (List.Perm.swap ..)
      exact h1.big.perm (List.perm_append_comm (l₁ := Big [dI, lI st pe] :: Lx) (l₂ := [base, I]))
    refine (hit (D + 1) (fun pre C => ∃ Lx, C = Big (dI :: lI .ready none :: Lx) ∧ J pre Lx) (fun pre C => ∃ Lx, C = Big (dI :: lI .done (some .ret) :: Lx) ∧ Jx pre Lx) _ _ (fun pre C h => by obtain ⟨Lx, _, h⟩ := h; exact hOk pre Lx h) ?_ ⟨L0, rfl, h0⟩ HC).mono ?_
    · rintro pre x W I C ⟨Lx, rfl, hJ⟩ hΦ hS
      have hS1 := eqK hS
      have hl : W.heap[D + 1]? = some (.loop (rec .ready none)) := (eqO hS1).ob (k := 0) rfl
      have hy := run_yield (P := P) (args := encs x) hl (by rw [hrec]; exact hps x)
      rw [hrec] at hy
      refine ⟨fn, _, assign, body, hy, roundIn_of_wpIn hfn ?_⟩
      refine wpIn_mono (hassign _ x _ W hS1 _ (ha.putA hpN (hps x))) (fun e a' W' h => ?_)
      cases e with
      | normal =>
        obtain ⟨k1, k2⟩ := h
        have hl2 : W'.heap[D + 1]? = some (.loop (rec .ready none)) := (eqO k2).ob (k := 0) rfl
        refine ⟨_, run_beginRound hl2 (by rw [hrec]), ?_⟩
        have hb : S (W'.putObj (D + 1) (.loop { rec .ready none with state := .busy })) (base :: I :: Big [dI, lI .busy none] :: Lx) := by
          have := (eqO k2).putObj (k := 0) (D := D + 1) (o' := .loop { rec .ready none with state := .busy }) rfl
          refine eqO' ?_
          subst hrec
          exact this
        refine wpIn_mono (hbody _ pre x I _ Lx _ hJ hΦ hb a' k1) (fun e a3 W3 hp => ?_)
        have fin : ∀ (jump : Option Code) (Ly : List Item), S W3 (base :: I :: Big [dI, lI .busy none] :: Ly) →
            ∃ W4, (Instr.endRound (D + 1) jump).run P W3 = .ok (.bool jump.isNone) W4 ∧ S W4 [base, I, Big (dI :: lI (if jump.isNone then .ready else .done) jump :: Ly)] := fun jump Ly h3 => by
          have hl3 : W3.heap[D + 1]? = some (.loop (rec .busy none)) := (eqO h3).ob (k := 0) rfl
          refine ⟨_, run_endRound (P := P) jump hl3, eqK' (eqO' ?_)⟩
          have := (eqO h3).putObj (k := 0) (D := D + 1) (o' := .loop { rec .busy none with state := if jump.isNone then .ready else .done, pending := jump }) rfl
          subst hrec
          exact this
        cases e with
        | normal =>
          obtain ⟨Ly, j1, j2⟩ := hp
          obtain ⟨W4, r1, r2⟩ := fin none Ly j2
          exact ⟨_, _, r1, .inl ⟨rfl, _, ⟨Ly, rfl, j1⟩, r2⟩⟩
        | ret =>
          obtain ⟨Ly, j1, j2⟩ := hp
          obtain ⟨W4, r1, r2⟩ := fin (some .ret) Ly j2
          exact ⟨_, _, r1, .inr ⟨rfl, _, ⟨Ly, rfl, j1⟩, r2⟩⟩
        | _ => exact hp.elim
      | _ => exact h.elim
    · have unC : ∀ {W : World} {st : LoopState} {pe : Option Code} {Lx : List Item}, S W [base, Big (dI :: lI st pe :: Lx)] → S W (lI st pe :: dI :: base :: Lx) := fun {W st pe Lx} h => by
        have h1 := (h.perm (List.perm_append_comm (l₁ := [base]) (l₂ := [_]))).unbig
        have h2 : S W (dI :: lI st pe :: (Lx ++ [base])) := h1
        refine h2.perm ((List.Perm.swap ..).trans (.cons _ (.cons _ ?_)))
        exact List.perm_append_comm (l₁ := Lx) (l₂ := [base])
      rintro e W2 ⟨⟨v, rfl⟩, (⟨xs, C, hS, ⟨Lx, rfl, hJ⟩, hC⟩ | ⟨pre, C, hS, ⟨Lx, rfl, hJ⟩, hC⟩)⟩
      · have h1 := unC hC
        have hl := h1.ob (k := 0) (o := .loop (rec .ready none)) rfl
        refine ⟨none, _, by have := run_endLoop (P := P) hl (by rw [hrec]; simp); rw [hrec] at this; exact this, ?_⟩
        exact hdone D xs Lx _ hS hJ (h1.putObj (k := 0) rfl).tail _ ⟨ha.size, ha.get, by rw [← ha.defers]; rfl⟩
      · have h1 := unC hC
        have hl := h1.ob (k := 0) (o := .loop (rec .done (some .ret))) rfl
        refine ⟨some .ret, _, by have := run_endLoop (P := P) hl (by rw [hrec]; simp); rw [hrec] at this; exact this, ?_⟩
        exact wpIn_ret (hstop D pre Lx _ hS hJ (h1.putObj (k := 0) rfl).tail _ ⟨ha.size, ha.get, by rw [← ha.defers]; rfl⟩)
/-! Marks: what a range over a function leaves behind, at the end of the function. -/
def Marks (Ds : List Nat) : Item := ⟨fun g => g ∈ Ds, fun w => Ds.Nodup ∧ ∀ D ∈ Ds, w.heap[D]? = some (.deferred (some [])), fun {w w'} h k => ⟨k.1, fun D hD => (h.block D hD).trans (k.2 D hD)⟩⟩
theorem S.nilMarks (H : S w L) : S w (Marks [] :: L) := H.cons ⟨.nil, fun _ h => by cases h⟩ (fun g hg => by cases hg) (fun _ _ g hg => by cases hg)
theorem S.consMark {D k : Nat} {Ds : List Nat} (H : S w (Ob D (.deferred (some [])) :: L)) (hk : L[k]? = some (Marks Ds)) : S w (L.set k (Marks (D :: Ds))) := by
  obtain ⟨h1, h2, h3⟩ := H.head
  have hm : Marks Ds ∈ L := List.mem_of_getElem? hk
  have hM : Ds.Nodup ∧ ∀ D ∈ Ds, w.heap[D]? = some (.deferred (some [])) := (H.tail.1 _ hm).1
  have hnD : D ∉ Ds := fun h => h3 _ hm D rfl h
  refine ⟨fun it hit => ?_, ?_⟩
  · rcases mem_set' hit with rfl | ⟨j, hj, hx⟩
    · refine ⟨⟨List.nodup_cons.2 ⟨hnD, hM.1⟩, fun x hx => ?_⟩, fun g hg => ?_⟩
      · rcases List.mem_cons.1 hx with rfl | hx
        · exact h1
        · exact hM.2 x hx
      · rcases List.mem_cons.1 hg with rfl | hg
        · exact h2 _ rfl
        · exact (H.tail.1 _ hm).2 g hg
    · exact H.tail.1 _ (List.mem_of_getElem? hx)
  · rw [List.pairwise_iff_getElem]
    intro i j hi hj hlt g hg hg'
    rw [List.length_set] at hi hj
    rw [List.getElem_set] at hg hg'
    have hp := List.pairwise_iff_getElem.1 H.tail.2
    have hk1 : k < L.length := (List.getElem?_eq_some_iff.1 hk).1
    have hk2 : L[k] = Marks Ds := (List.getElem?_eq_some_iff.1 hk).2
    split at hg
    · split at hg'
      · omega
      · rename_i e1 e2
        subst e1
        rcases List.mem_cons.1 hg with e | hg
        · exact h3 _ (List.getElem_mem hj) g e hg'
        · exact hp k j hi hj hlt g (by rw [hk2]; exact hg) hg'
    · split at hg'
      · rename_i e1 e2
        subst e2
        rcases List.mem_cons.1 hg' with e | hg'
        · exact h3 _ (List.getElem_mem hi) g e hg
        · exact hp i k hi hj hlt g hg (by rw [hk2]; exact hg')
      · exact hp i j hi hj hlt g hg hg'
theorem leaves_marks {fn : Func} {R : Ending → World → Prop} {tmps : Array Value} (h : ∀ w', S w' L → LeavesInM (WF none) n P fn tmps R [] .returning w') : ∀ (Ds : List Nat) (w : World), S w (Marks Ds :: L) → LeavesInM (WF none) n P fn tmps R (Ds.map mark) .returning w
  | [], w, H => h w H.tail
  | D :: Ds, w, H => by
    obtain ⟨⟨h1, h2⟩, h3, h4⟩ := H.head
    have hD := h2 D (by simp)
    have hn := List.nodup_cons.1 h1
    have hlt : D < w.heap.size := h3 D (List.mem_cons_self ..)
    have hS : S (w.putObj D (.deferred none)) (Marks Ds :: L) := by
      have := H.turn (k := 0) (it' := Marks Ds) rfl ((same_putObj w D (.deferred none)).less fun g hg e => hg.2 (by subst e; exact List.mem_cons_self ..)) ⟨hn.2, fun x hx => by
        have : x ≠ D := fun e => hn.1 (e ▸ hx)
        exact (World.putObj_heap_other this).trans (h2 x (List.mem_cons_of_mem _ hx))⟩ (fun g hg => ⟨.inl (List.mem_cons_of_mem _ hg), by
          have := h3 g (List.mem_cons_of_mem _ hg)
          exact Nat.lt_of_lt_of_le this (same_putObj w D (.deferred none)).size⟩)
      exact this
    exact ⟨by simp, .inl ⟨D, _, rfl, run_takeDeferred hD, leaves_marks h Ds _ hS⟩⟩
theorem fin_marks {fn : Func} {R : Ending → World → Prop} {Ds : List Nat} (H : S w (Marks Ds :: L)) (rs : List ResultVar) (vs : List Value) (hr : fn.results = rs.toArray) (h : ∀ w', S w' L → resOk P f w' rs vs ∧ R (.returned (tupled vs)) w') :
    G N (bodyPostM (WF none) n P fn R .ret) f (Ds.map mark) w := fun a ha => by
  show LeavesInM (WF none) n P fn a.tmps R a.defers .returning w
  rw [ha.defers]
  exact leaves_marks (fun w' hw => by obtain ⟨h1, h2⟩ := h w' hw; exact ⟨_, results_run ha hr h1, h2⟩) Ds w H
theorem fin_marksN {fn : Func} {R : Ending → World → Prop} {Ds : List Nat} (H : S w (Marks Ds :: L)) (rs : List ResultVar) (vs : List Value) (hr : fn.results = rs.toArray) (h : ∀ w', S w' L → resOk P f w' rs vs ∧ R (.returned (tupled vs)) w') :
    G N (bodyPostM (WF none) n P fn R .normal) f (Ds.map mark) w := fin_marks H rs vs hr h
theorem g_loopD {ι : Type} {r : Option Nat} {c : Code} (F : ι → Fr) (DS : ι → List Deferred) (I : ι → World → Prop) (μ : ι → Nat) (i0 : ι) (hs : sub (F i0) f) (hd : DS i0 = ds) (h0 : I i0 w)
    (round : ∀ i w, I i w → G N (c.wpIn (WF r) n P (Exit.then (fun a' w' => ∃ j, (Rds N a' (F j) (DS j) ∧ I j w') ∧ μ j < μ i) Q)) (F i) (DS i) w) : G N ((Code.loop c).wpIn (WF r) n P Q) f ds w := fun a ha =>
  R.loop_ix (fun i a w => Rds N a (F i) (DS i) ∧ I i w) μ i0 ⟨by rw [hd]; exact ha.weak hs, h0⟩ (fun i a w ⟨h1, h2⟩ => round i w h2 a h1)
theorem g_roundD {ι : Type} {F : ι → Fr} {DS : ι → List Deferred} {I : ι → World → Prop} {μ : ι → Nat} {i : ι} (j : ι) (hs : sub (F j) f) (hd : DS j = ds) (h : I j w) (hμ : μ j < μ i) :
    G N (fun a' w' => ∃ j, (Rds N a' (F j) (DS j) ∧ I j w') ∧ μ j < μ i) f ds w := fun _ ha => ⟨j, ⟨by rw [hd]; exact ha.weak hs, h⟩, hμ⟩
/-- Into an iterator in which a range over a function stands. -/
theorem enter_cm {g : FuncId} {fn : Func} {c : Code} {args : Array Value} {R' : Ending → World → Prop} (N : Nat) (hf : P.funcs[g]? = some fn) (hb : fn.body = some c) (hN : fn.ntmps = N) (hA : Nat.ble args.size N = true)
    (h : G N (c.wpIn (WF none) n P (bodyPostM (WF none) n P fn R')) (argsFr 0 args.toList) [] w) : CallsIn (WF none) n P g args w R' := by
  refine callsIn_of_wp_marks hf hb trivial (h _ ⟨?_, fun t v ht => ?_, rfl⟩) rfl
  · have : args.size ≤ N := Nat.le_of_ble_eq_true hA
    simp [hN]; omega
  · obtain ⟨_, h2⟩ := argsFr_get _ 0 t v ht
    have h3 : args[t]? = some v := by simpa using h2
    have h4 : t < args.size := (Array.getElem?_eq_some_iff.1 h3).1
    show (args ++ _)[t]? = _
    rw [Array.getElem?_append_left h4]; exact h3
end
end Go.Proofs.Ytlajgickimgigaa
