import Derived.Test.YtibdlnjnomikjaaSp
import Derived.LaidEqlPtr
set_option linter.unusedSimpArgs false
set_option linter.unusedVariables false
namespace Go.Proofs.Ytibdlnjnomikjaa
open Go.RowKit

/-! ## A range over a function: what the iterator asks is asked of the world; what the assignment makes is told -/
/-- The iterator's word. At each yield the world is the base, the iterator's memory (one item) and the caller's (one item); the caller gives the first two back as they were. -/
def IterW {α : Type} (n : Nat) (P : Program) (g : Nat) (lb : Array Value) (encs : α → Array Value) (base : Item) (Φ : List α → α → Item → Prop) (Ok : List α → World → Prop) (S' Sp : List α → Prop) (I0 : Item) : Prop :=
  ∀ (l : Nat) (J Jx : List α → Item → Prop) (W : World) (C : Item), (∀ pre C W, J pre C → C.ok W → Ok pre W) →
    (∀ pre x W1 I C, J pre C → Φ pre x I → S W1 [base, I, C] → YieldAt (WF none) (n - 1) P l (encs x) W1 fun e W' =>
      (e = .returned (.bool true) ∧ ∃ C', J (pre ++ [x]) C' ∧ S W' [base, I, C']) ∨ (e = .returned (.bool false) ∧ ∃ C', Jx (pre ++ [x]) C' ∧ S W' [base, I, C'])) →
    J [] C → S W [base, I0, C] →
    CallsIn (WF none) n P g (#[.func (.yield l) #[] #[]] ++ lb) W fun e W' => (∃ v, e = .returned v) ∧ ((∃ xs C, S' xs ∧ J xs C ∧ S W' [base, C]) ∨ (∃ pre C, Sp pre ∧ Jx pre C ∧ S W' [base, C]))
/-- What is asked behind the assignment. -/
def AssignW {ι : Type} (N : Nat) (FA : ι → Fr) (LA : ι → List Item) (L : List Item) (a : Act) (w : World) : Prop := ∃ i, Rds N a (FA i) [] ∧ S w (LA i ++ L)
section
variable {P : Program} {N : Nat} {Q : Exit → Act → World → Prop} {f : Fr} {ds : List Deferred} {w : World} {n : Nat} {ops : Array Oper} {rest : List Oper} {o : Oper} {L : List Item}
theorem rw_assign {ι : Type} {FA : ι → Fr} {LA : ι → List Item} (i : ι) (hs : sub (FA i) f) (H : S w (LA i ++ L)) : G N (AssignW N FA LA L) f [] w := fun a ha => ⟨i, ha.weak hs, H⟩
theorem g_rangeW {α ι : Type} {x : Operand} {ps : Array Tmp} {assign body : Code} {gf : Nat} {lb : Array Value} {encs : α → Array Value} {base I0 : Item} {Φ : List α → α → Item → Prop} {Ok : List α → World → Prop} {S' Sp : List α → Prop} {L0 : List Item}
    (hn : 1 ≤ n) (hx : evo f x = some (.func (.func gf) #[] lb)) (hc : callable P gf = true) (hit : IterW (n - 1) P gf lb encs base Φ Ok S' Sp I0)
    (hps : ∀ x, (encs x).size = ps.size) (hpN : (ps.toList.all fun p => Nat.blt p N) = true) (J Jx : List α → List Item → Prop) (FA : α → ι → Fr) (LA : α → ι → List Item) (hOk : ∀ pre Lx W, J pre Lx → S W Lx → Ok pre W) (h0 : J [] L0) (H : S w (base :: I0 :: L0))
    (hassign : ∀ (l : Nat) (x : α) (Lx : List Item) (W : World), S W Lx → G N (assign.wpIn (WF (some l)) (n - 1 - 1) P (Exit.then (AssignW N (FA x) (LA x) Lx) (fun _ _ _ => False))) (lay ps.toList (encs x).toList f) [] W)
    (hbody : ∀ (l : Nat) (pre : List α) (x : α) (i : ι) (I K : Item) (Lx : List Item) (W : World), J pre Lx → Φ pre x I → S W (base :: I :: K :: Big (LA x i) :: Lx) → G N (body.wpIn (WF (some l)) (n - 1 - 1) P (RoundS J Jx base I K (pre ++ [x]))) (FA x i) [] W)
    (hdone : ∀ (D : Nat) (xs : List α) (Lx : List Item) (W : World), S' xs → J xs Lx → S W (Ob D (.deferred (some [])) :: base :: Lx) → G N (Q .normal) f (mark D :: ds) W)
    (hstop : ∀ (D : Nat) (pre : List α) (Lx : List Item) (W : World), Sp pre → Jx pre Lx → S W (Ob D (.deferred (some [])) :: base :: Lx) → G N (Q .ret) f (mark D :: ds) W) :
    G N ((Code.rangeFunc x ps assign body).wpIn (WF none) n P Q) f ds w := fun a ha => by
  refine wpIn_rangeFunc ?_
  intro fn hfn
  obtain ⟨rec, hrec⟩ : ∃ rec : LoopState → Option Code → Loop, rec = fun st pe => { state := st, pending := pe, fn, tmps := a.tmps, params := ps, assign, body, defers := w.heap.size } := ⟨_, rfl⟩
  have HW := (H.alloc (.deferred (some []))).alloc (.loop (rec .ready none))
  rw [World.size_alloc] at HW
  let D := w.heap.size
  let dI := Ob D (.deferred (some []))
  let lI := fun st pe => Ob (D + 1) (.loop (rec st pe))
  have HC : S ((w.alloc (.deferred (some []))).alloc (.loop (rec .ready none))) [base, I0, Big (dI :: lI .ready none :: L0)] := by
    have h1 : S ((w.alloc (.deferred (some []))).alloc (.loop (rec .ready none))) ((dI :: lI .ready none :: L0) ++ [base, I0]) := HW.perm (by
      refine List.Perm.trans (List.Perm.swap ..) ?_
      simp only [List.cons_append]
      refine .cons _ (.cons _ ?_)
      exact (List.perm_append_comm (l₁ := [base, I0]) (l₂ := L0)))
    exact h1.big.perm (List.perm_append_comm (l₁ := [_]) (l₂ := [base, I0]))
  obtain ⟨W1, hW1⟩ : ∃ W1, W1 = (w.alloc (.deferred (some []))).alloc (.loop (rec .ready none)) := ⟨_, rfl⟩
  rw [← hW1] at HC
  refine ⟨D + 1, [mark D], W1, { target := .fn (.func gf) lb, args := #[.func (.yield (D + 1)) #[] #[]] }, W1, gf, #[.func (.yield (D + 1)) #[] #[]] ++ lb, W1, ?_, ?_, ?_, ?_, fun _ => hn, ?_⟩
  · rw [hW1, hrec]; exact run_enterLoop_outer _ _ _ _ _
  · simp only [resolve, ha.eval hx]
    simp [go_sem]
  · intro f' hf'; simp [Target.leads] at hf'; subst hf'; trivial
  · simp [invoke, go_sem, run_callFunc hc]
  · have eqK : ∀ {W : World} {I : Item} {st : LoopState} {pe : Option Code} {Lx : List Item}, S W [base, I, Big (dI :: lI st pe :: Lx)] → S W (base :: I :: Big [dI, lI st pe] :: Lx) := fun {W I st pe Lx} h => by
      have h1 := (h.perm (List.perm_append_comm (l₁ := [base, I]) (l₂ := [_]))).unbig
      have h2 : S W ([dI, lI st pe] ++ (Lx ++ [base, I])) := h1
      refine h2.big.perm ?_
      have : (Big [dI, lI st pe] :: (Lx ++ [base, I])).Perm ([base, I] ++ (Big [dI, lI st pe] :: Lx)) := List.perm_append_comm (l₁ := Big [dI, lI st pe] :: Lx) (l₂ := [base, I])
      exact this
    have eqK' : ∀ {W : World} {I : Item} {st : LoopState} {pe : Option Code} {Lx : List Item}, S W (base :: I :: Big [dI, lI st pe] :: Lx) → S W [base, I, Big (dI :: lI st pe :: Lx)] := fun {W I st pe Lx} h => by
      have h1 : S W (Big [dI, lI st pe] :: (Lx ++ [base, I])) := h.perm (List.perm_append_comm (l₁ := [base, I]) (l₂ := Big [dI, lI st pe] :: Lx))
      have h2 : S W ((dI :: lI st pe :: Lx) ++ [base, I]) := h1.unbig
      exact h2.big.perm (List.perm_append_comm (l₁ := [_]) (l₂ := [base, I]))
    have eqO : ∀ {W : World} {I : Item} {st : LoopState} {pe : Option Code} {Lx : List Item}, S W (base :: I :: Big [dI, lI st pe] :: Lx) → S W (lI st pe :: (dI :: Lx ++ [base, I])) := fun {W I st pe Lx} h => by
      have h1 : S W (Big [dI, lI st pe] :: (Lx ++ [base, I])) := h.perm (List.perm_append_comm (l₁ := [base, I]) (l₂ := Big [dI, lI st pe] :: Lx))
      exact h1.unbig.perm (List.Perm.swap ..)
    have eqO' : ∀ {W : World} {I : Item} {st : LoopState} {pe : Option Code} {Lx : List Item}, S W (lI st pe :: (dI :: Lx ++ [base, I])) → S W (base :: I :: Big [dI, lI st pe] :: Lx) := fun {W I st pe Lx} h => by
      have h1 : S W ([dI, lI st pe] ++ (Lx ++ [base, I])) := h.perm (List.Perm.swap ..)
      exact h1.big.perm (List.perm_append_comm (l₁ := Big [dI, lI st pe] :: Lx) (l₂ := [base, I]))
    refine (hit (D + 1) (fun pre C => ∃ Lx, C = Big (dI :: lI .ready none :: Lx) ∧ J pre Lx) (fun pre C => ∃ Lx, C = Big (dI :: lI .done (some .ret) :: Lx) ∧ Jx pre Lx) _ _ (fun pre C W h hC => by obtain ⟨Lx, rfl, h⟩ := h; exact hOk pre Lx W h (show S W _ from hC).tail.tail) ?_ ⟨L0, rfl, h0⟩ HC).mono ?_
    · rintro pre x W I C ⟨Lx, rfl, hJ⟩ hΦ hS
      have hS1 := eqK hS
      have hl : W.heap[D + 1]? = some (.loop (rec .ready none)) := (eqO hS1).ob (k := 0) rfl
      have hy := run_yield (P := P) (args := encs x) hl (by rw [hrec]; exact hps x)
      rw [hrec] at hy
      refine ⟨fn, _, assign, body, hy, roundIn_of_wpIn hfn ?_⟩
      refine wpIn_mono (hassign _ x _ W hS1 _ (ha.putA hpN (hps x))) (fun e a' W' h => ?_)
      cases e with
      | normal =>
        obtain ⟨i, k1, k20⟩ := h
        have k2 : S W' (base :: I :: Big [dI, lI .ready none] :: Big (LA x i) :: Lx) := by
          have h7 := k20.big
          refine h7.perm ?_
          refine (List.Perm.swap ..).trans (.cons _ ((List.Perm.swap ..).trans (.cons _ (List.Perm.swap ..))))
        have hl2 : W'.heap[D + 1]? = some (.loop (rec .ready none)) := (eqO k2).ob (k := 0) rfl
        refine ⟨_, run_beginRound hl2 (by rw [hrec]), ?_⟩
        have hb : S (W'.putObj (D + 1) (.loop { rec .ready none with state := .busy })) (base :: I :: Big [dI, lI .busy none] :: Big (LA x i) :: Lx) := by
          have := (eqO k2).putObj (k := 0) (D := D + 1) (o' := .loop { rec .ready none with state := .busy }) rfl
          refine eqO' ?_
          subst hrec
          exact this
        refine wpIn_mono (hbody _ pre x i I _ Lx _ hJ hΦ hb a' k1) (fun e a3 W3 hp => ?_)
        have fin : ∀ (jump : Option Code) (Ly : List Item), S W3 (base :: I :: Big [dI, lI .busy none] :: Ly) →
            ∃ W4, (Instr.endRound (D + 1) jump).run P W3 = .ok (.bool jump.isNone) W4 ∧ S W4 [base, I, Big (dI :: lI (if jump.isNone then .ready else .done) jump :: Ly)] := fun jump Ly h3 => by
          have hl3 : W3.heap[D + 1]? = some (.loop (rec .busy none)) := (eqO h3).ob (k := 0) rfl
          refine ⟨_, run_endRound (P := P) jump hl3, eqK' (eqO' ?_)⟩
          have := (eqO h3).putObj (k := 0) (D := D + 1) (o' := .loop { rec .busy none with state := if jump.isNone then .ready else .done, pending := jump }) rfl
          subst hrec
          exact this
        cases e with
        | normal =>
          obtain ⟨Ly, j1, j2⟩ := hp
          obtain ⟨W4, r1, r2⟩ := fin none Ly j2
          exact ⟨_, _, r1, .inl ⟨rfl, _, ⟨Ly, rfl, j1⟩, r2⟩⟩
        | ret =>
          obtain ⟨Ly, j1, j2⟩ := hp
          obtain ⟨W4, r1, r2⟩ := fin (some .ret) Ly j2
          exact ⟨_, _, r1, .inr ⟨rfl, _, ⟨Ly, rfl, j1⟩, r2⟩⟩
        | _ => exact hp.elim
      | _ => exact h.elim
    · have unC : ∀ {W : World} {st : LoopState} {pe : Option Code} {Lx : List Item}, S W [base, Big (dI :: lI st pe :: Lx)] → S W (lI st pe :: dI :: base :: Lx) := fun {W st pe Lx} h => by
        have h1 := (h.perm (List.perm_append_comm (l₁ := [base]) (l₂ := [_]))).unbig
        have h2 : S W (dI :: lI st pe :: (Lx ++ [base])) := h1
        refine h2.perm ((List.Perm.swap ..).trans (.cons _ (.cons _ ?_)))
        exact List.perm_append_comm (l₁ := Lx) (l₂ := [base])
      rintro e W2 ⟨⟨v, rfl⟩, (⟨xs, C, hS, ⟨Lx, rfl, hJ⟩, hC⟩ | ⟨pre, C, hS, ⟨Lx, rfl, hJ⟩, hC⟩)⟩
      · have h1 := unC hC
        have hl := h1.ob (k := 0) (o := .loop (rec .ready none)) rfl
        refine ⟨none, _, by have := run_endLoop (P := P) hl (by rw [hrec]; simp); rw [hrec] at this; exact this, ?_⟩
        exact hdone D xs Lx _ hS hJ (h1.putObj (k := 0) rfl).tail _ ⟨ha.size, ha.get, by rw [← ha.defers]; rfl⟩
      · have h1 := unC hC
        have hl := h1.ob (k := 0) (o := .loop (rec .done (some .ret))) rfl
        refine ⟨some .ret, _, by have := run_endLoop (P := P) hl (by rw [hrec]; simp); rw [hrec] at this; exact this, ?_⟩
        exact wpIn_ret (hstop D pre Lx _ hS hJ (h1.putObj (k := 0) rfl).tail _ ⟨ha.size, ha.get, by rw [← ha.defers]; rfl⟩)
end
end Go.Proofs.Ytibdlnjnomikjaa
namespace Go.Proofs.Ytibdlnjnomikjaa
open Go.RowKit

/-! ## A family of blocks of one kind -/
def upd {α : Type} (tk : Nat → α) (x : Nat) (a : α) : Nat → α := fun y => if y = x then a else tk y
theorem upd_same {α : Type} (tk : Nat → α) (x : Nat) (a : α) : upd tk x a x = a := if_pos rfl
theorem upd_ne {α : Type} {tk : Nat → α} {x y : Nat} {a : α} (h : ¬ y = x) : upd tk x a y = tk y := if_neg h
theorem upd_upd {α : Type} (tk : Nat → α) (x : Nat) (a b : α) : upd (upd tk x a) x b = upd tk x b := by
  funext y; unfold upd; split <;> rfl
def Fam {α : Type} (e : TypeId) (enc : α → Array Value) (gs : List Nat) (tk : Nat → α) : Item :=
  ⟨fun g => g ∈ gs, fun w => gs.Nodup ∧ ∀ x ∈ gs, w.heap[x]? = some (.cells (enc (tk x)) e (0, 0)), fun h k => ⟨k.1, fun x hx => (h.block x hx).trans (k.2 x hx)⟩⟩
section
variable {P : Program} {N : Nat} {Q : Exit → Act → World → Prop} {f : Fr} {ds : List Deferred} {w w' : World} {o : Oper} {ops : Array Oper} {L : List Item} {K : Act → World → Prop}
variable {α : Type} {e : TypeId} {enc : α → Array Value} {gs : List Nat} {tk : Nat → α}
theorem S.fam {k : Nat} (h : S w L) (hk : L[k]? = some (Fam e enc gs tk)) : gs.Nodup ∧ ∀ x ∈ gs, w.heap[x]? = some (.cells (enc (tk x)) e (0, 0)) := h.at hk
theorem S.famCell {k x i : Nat} {v : Value} (h : S w L) (hk : L[k]? = some (Fam e enc gs tk)) (hx : x ∈ gs) (hv : (enc (tk x))[i]? = some v) : w.cell? ⟨x, i, none⟩ = some v :=
  (cell_of_row w x i _ e (0, 0) ((h.fam hk).2 x hx)).trans hv
theorem S.famNil (h : S w L) (e : TypeId) (enc : α → Array Value) (tk : Nat → α) : S w (Fam e enc [] tk :: L) :=
  h.cons ⟨.nil, fun _ hx => by cases hx⟩ (fun g hg => by cases hg) (fun _ _ g hg => by cases hg)
theorem S.famCons {x : Nat} {a : α} (h : S w (Ob x (.cells (enc a) e (0, 0)) :: Fam e enc gs tk :: L)) : S w (Fam e enc (x :: gs) (upd tk x a) :: L) := by
  obtain ⟨a1, a2, a3⟩ := h.head
  obtain ⟨b1, b2, b3⟩ := h.tail.head
  have hx : x ∉ gs := fun hx => a3 _ (List.mem_cons_self ..) x rfl hx
  refine h.tail.tail.cons ⟨List.nodup_cons.2 ⟨hx, b1.1⟩, fun y hy => ?_⟩ (fun g hg => ?_) (fun z hz g hg => ?_)
  · rcases List.mem_cons.1 hy with rfl | hy
    · rw [upd_same]; exact a1
    · rw [upd_ne (show ¬ y = x from fun q => hx (q ▸ hy))]; exact b1.2 y hy
  · rcases List.mem_cons.1 hg with rfl | hg
    · exact a2 _ rfl
    · exact b2 g hg
  · rcases List.mem_cons.1 hg with rfl | hg
    · exact a3 z (List.mem_cons_of_mem _ hz) _ rfl
    · exact b3 z hz g hg
theorem S.famPerm {gs' : List Nat} (h : S w (Fam e enc gs tk :: L)) (hp : gs.Perm gs') : S w (Fam e enc gs' tk :: L) := by
  obtain ⟨a1, a2, a3⟩ := h.head
  exact h.tail.cons ⟨hp.nodup_iff.1 a1.1, fun y hy => a1.2 y (hp.mem_iff.2 hy)⟩ (fun g hg => a2 g (hp.mem_iff.2 hg)) (fun z hz g hg => a3 z hz g (hp.mem_iff.2 hg))
theorem S.famCongr {tk' : Nat → α} {k : Nat} (h : S w L) (hk : L[k]? = some (Fam e enc gs tk)) (ht : ∀ x ∈ gs, tk x = tk' x) : S w (L.set k (Fam e enc gs tk')) := by
  have a1 := h.fam hk
  exact h.turn hk Same.rfl' ⟨a1.1, fun y hy => by rw [← ht y hy]; exact a1.2 y hy⟩ (fun g hg => ⟨.inl hg, (Array.getElem?_eq_some_iff.1 (a1.2 g hg)).1⟩)
/-! a row of rows is opened, and shut -/
theorem perm_erase {β : Type} : ∀ {l : List β} {j : Nat} {r : β}, l[j]? = some r → l.Perm (r :: l.eraseIdx j)
  | [], j, r, h => by cases h
  | a :: l, 0, r, h => by cases h; exact .refl _
  | a :: l, j + 1, r, h => by
    rw [List.getElem?_cons_succ] at h
    exact ((perm_erase h).cons a).trans (List.Perm.swap ..)
theorem S.rowsOut {β : Type} {e size : Nat} {enc : β → List Value} {rs : List (Ro β)} {r : Ro β} {j : Nat} (h : S w (RowsI e size enc rs :: L)) (hj : rs[j]? = some r) : S w (roI e size enc r :: RowsI e size enc (rs.eraseIdx j) :: L) := by
  have h1 : S w (rs.map (roI e size enc) ++ L) := h.unbig
  have hp : (rs.map (roI e size enc)).Perm (roI e size enc r :: (rs.eraseIdx j).map (roI e size enc)) := (perm_erase hj).map (roI e size enc)
  have h2 := h1.perm (hp.append_right L)
  have h3 : S w ((rs.eraseIdx j).map (roI e size enc) ++ (roI e size enc r :: L)) := h2.perm (List.perm_middle.symm)
  exact h3.big.perm (List.Perm.swap ..)
theorem S.rowsIn {β : Type} {e size : Nat} {enc : β → List Value} {rs : List (Ro β)} {r : Ro β} {j : Nat} (h : S w (roI e size enc r :: RowsI e size enc (rs.eraseIdx j) :: L)) (hj : j < rs.length) : S w (RowsI e size enc (rs.set j r) :: L) := by
  have h1 : S w (RowsI e size enc (rs.eraseIdx j) :: (roI e size enc r :: L)) := h.perm (List.Perm.swap ..)
  have h2 : S w ((rs.eraseIdx j).map (roI e size enc) ++ (roI e size enc r :: L)) := h1.unbig
  have hl : j < (rs.set j r).length := by simpa using hj
  have hp : ((rs.set j r).map (roI e size enc)).Perm (roI e size enc r :: (rs.eraseIdx j).map (roI e size enc)) := by
    have h5 : (rs.set j r)[j]? = some r := by rw [List.getElem?_set_self hj]
    have := (perm_erase h5).map (roI e size enc)
    rwa [List.eraseIdx_set_eq] at this
  have h3 : S w ((rs.set j r).map (roI e size enc) ++ L) := h2.perm (by
    refine List.Perm.trans ?_ (hp.symm.append_right L)
    exact List.perm_middle)
  exact h3.big
/-- copy(l[1:i+1], l[:i]) -/
theorem s_copyUp {dT sT : TypeId} {d t e n c i : Nat} {x y : Operand} {p : Option Addr} {xs : List Value} (H : S w L) (k : Nat) (hw : Wt ops f o) (hd : o.dst = some d) (hN : Nat.blt d N = true)
    (ho : o.op = .call { callee := .builtin .copy, args := #[x, y], argTypes := #[dT, sT] }) (hx : evo f x = some (.slice (cutP p 1 c 1) (i + 1 - 1) (c - 1))) (hy : evo f y = some (.slice (cutP p 0 c 1) i c))
    (hk : L[k]? = some (Rw e 1 p n c xs)) (hu : P.underlying dT = some (.slice t)) (hz : szO P t = some 1) (h1 : xs.all (·.oneCell') = true) (hi : i < n)
    (h : ∀ w', S w' (L.set k (Rw e 1 p n c (xs.take 1 ++ xs.take i ++ xs.drop (i + 1)))) → G N K ((d, .int .i64 (i : Int)) :: f) ds w') : G N (StepK P ops Q o K) f ds w := by
  obtain ⟨k1, k2, k3, k4⟩ := H.rw hk
  rw [Nat.mul_one] at k1
  rcases k4 with ⟨_, q2, _⟩ | ⟨g, off, cur, rfl, q2, q3, q4⟩
  · omega
  · rw [Nat.mul_one] at q3
    have hc0 : cutP (some ⟨g, off, none⟩) 0 c 1 = some ⟨g, off, none⟩ := by
      unfold cutP
      rw [if_neg (by omega), Option.map_some, Nat.zero_mul, add_lit']; rfl
    obtain ⟨o', ho', hoo⟩ : ∃ o', cutP (some ⟨g, off, none⟩) 1 c 1 = some ⟨g, o', none⟩ ∧ (o' = off + 1 ∨ (o' = off ∧ i = 0)) := by
      unfold cutP
      by_cases hc : c = 1
      · rw [if_pos hc]; exact ⟨off, rfl, .inr ⟨rfl, by omega⟩⟩
      · rw [if_neg hc, Option.map_some, Nat.one_mul, add_lit']; exact ⟨off + 1, rfl, .inl rfl⟩
    rw [ho', show i + 1 - 1 = i from rfl] at hx
    rw [hc0] at hy
    have hl : (xs.take i).length = i := by rw [List.length_take]; omega
    have hx1 : ∀ v ∈ xs.take i, v.oneCell' = true := fun v hv => (List.all_eq_true.1 h1) v (List.mem_of_mem_take hv)
    have hr : ∀ ty, (Builtin.copy_ #[dT, sT] ty #[.slice (some ⟨g, o', none⟩) i (c - 1), .slice (some ⟨g, off, none⟩) i c]).run P w = .ok (goInt (xs.take i).length) (w.setRow g (cur.toList.take o' ++ xs.take i ++ cur.toList.drop (o' + (xs.take i).length)).toArray) := fun ty =>
      run_copy_row (P := P) w dT sT ty t g o' i (c - 1) ⟨g, off, none⟩ i c cur e (xs.take i) hu hz q2 (by rw [hl]; simp) (fun j v hv => by
        rw [add_lit']
        have hj : j < i := by have := (List.getElem?_eq_some_iff.1 hv).1; omega
        rw [List.getElem?_take_of_lt hj] at hv
        exact (cell_of_row w g (off + j) cur e (0, 0) q2).trans (q4 j v hv)) (by rw [hl]; omega) hx1
    refine s_val hw hd hN (x_builtin (vs := [.slice (some ⟨g, o', none⟩) i (c - 1), .slice (some ⟨g, off, none⟩) i c]) (v := .int .i64 (i : Int)) (w' := w.setRow g (cur.toList.take o' ++ xs.take i ++ cur.toList.drop (o' + (xs.take i).length)).toArray) ho (by simp only [evs, hx, hy]) (fun cs => by simp only [builtin, hr, Sem.run_bind, Result.andThen_ok, Sem.run_pure, hl]; rfl)) (h _ ?_)
    have hlt : g < w.heap.size := (Array.getElem?_eq_some_iff.1 q2).1
    have hcl : cur.toList.length = cur.size := by simp
    rw [hl]
    refine H.turn hk ((same_setRow w g _).less fun b hb he => hb.2 ⟨off, by rw [he]⟩) ⟨?_, k2, k3, .inr ⟨g, off, _, rfl, by simp only [World.setRow, Array.getElem?_modify, if_true, q2, Option.map_some]; rfl, ?_, fun j u hu => ?_⟩⟩ (fun b hb => ⟨.inl hb, ?_⟩)
    · simp only [List.length_append, List.length_take, List.length_drop]; omega
    · simp only [List.size_toArray, List.length_append, List.length_take, List.length_drop, hcl]; omega
    · simp only [List.getElem?_toArray]
      rcases hoo with rfl | ⟨rfl, rfl⟩
      · rw [List.append_assoc, List.getElem?_append, List.length_take, hcl] 
        rw [List.append_assoc, List.getElem?_append, List.length_take] at hu
        by_cases hj0 : j = 0
        · subst hj0
          rw [if_pos (by omega), List.getElem?_take, if_pos (by omega), Array.getElem?_toList]
          rw [if_pos (by omega), List.getElem?_take, if_pos (by omega)] at hu
          exact q4 0 u hu
        · rw [if_neg (by omega), List.getElem?_append, hl]
          rw [if_neg (by omega), List.getElem?_append, hl] at hu
          have ej : j - min 1 xs.length = j - 1 := by omega
          have ej2 : off + j - min (off + 1) cur.size = j - 1 := by omega
          rw [ej] at hu
          rw [ej2]
          by_cases hji : j - 1 < i
          · rw [if_pos hji] at hu ⊢
            exact hu
          · rw [if_neg hji, List.getElem?_drop] at hu ⊢
            rw [Array.getElem?_toList, show off + 1 + i + (j - 1 - i) = off + j from by omega]
            rw [show i + 1 + (j - 1 - i) = j from by omega] at hu
            exact q4 j u hu
      · have e1 : cur.toList.take o' ++ xs.take 0 ++ cur.toList.drop (o' + 0) = cur.toList := by simp
        have e2 : xs.take 1 ++ xs.take 0 ++ xs.drop (0 + 1) = xs := by rw [List.take_zero, List.append_nil]; exact List.take_append_drop 1 xs
        rw [e2] at hu
        rw [e1, Array.getElem?_toList]
        exact q4 j u hu
    · obtain ⟨o'', ho''⟩ := hb
      have : b = g := by cases ho''; rfl
      rw [this]
      exact Nat.lt_of_lt_of_le hlt (same_setRow w g _).size
end
end Go.Proofs.Ytibdlnjnomikjaa
namespace Go.Proofs.Ytibdlnjnomikjaa
open Go.RowKit

/-! ## Two pointers compared; copy and store in a row -/
section
variable {P : Program} {N : Nat} {Q : Exit → Act → World → Prop} {f : Fr} {ds : List Deferred} {w w' : World} {o : Oper} {ops : Array Oper} {L : List Item} {K : Act → World → Prop}
theorem b_eqPtr {t te n g h : Nat} {xo yo : Operand} {ca cb : Array Value} {ta tb : TypeId} (hp : P.underlying t = some (.pointer te)) (hz : szO P te = some n) (hn : n ≠ 0)
    (ha : w.heap[g]? = some (.cells ca ta (0, 0))) (hb : w.heap[h]? = some (.cells cb tb (0, 0))) :
    Bin P .eql t xo yo (.pointer (some ⟨g, 0, none⟩)) (.pointer (some ⟨h, 0, none⟩)) w (.bool (decide (g = h))) := by
  obtain ⟨j, hj, hjz⟩ : ∃ j, P.info? te = some j ∧ j.size = n := by
    unfold szO at hz
    cases hi : P.info? te with
    | none => rw [hi] at hz; cases hz
    | some j => rw [hi] at hz; exact ⟨j, rfl, by simpa using hz⟩
  have hr : (binOp .eql t (.pointer (some ⟨g, 0, none⟩)) (.pointer (some ⟨h, 0, none⟩))).run P w = .ok (.bool (decide (g = h))) w := by
    by_cases e : g = h
    · subst e
      rw [decide_eq_true rfl]
      exact run_eql_ptr_same w _ hp hj
    · rw [decide_eq_false e]
      exact run_eql_ptr_other w hp hj (by rw [hjz]; exact hn) (fun q => e (by cases q; rfl)) ha hb
  unfold Bin
  rw [Sem.run_bind]
  show ((Result.ok () w).andThen _ : Result Value) = _
  simp only [Result.andThen_ok]
  exact hr
/-- Maps by text. -/
abbrev okT : ByteArray → Prop := fun s => s.size ≤ 1048576
theorem strTy {t k e : TypeId} (ht : P.underlying t = some (.map k e)) (hk : P.underlying k = some .string) : MapTy P t k e Value.string okT :=
  ⟨ht, Go.Maps.string_keyed hk, fun x hx => ⟨_, Go.WideMaps.keyOf_string_mk hk (Nat.le_trans hx (by decide))⟩, fun x y _ _ h => by cases h; rfl⟩
/-- How many keys a map has. -/
def KN {κ α : Type} (ok : κ → Prop) (M : κ → Option α) (n : Nat) : Prop := ∃ kv : List (κ × α), (kv.map Prod.fst).Nodup ∧ (∀ p : κ × α, p ∈ kv ↔ (ok p.1 ∧ M p.1 = some p.2)) ∧ n = kv.length
theorem S.famNew {α : Type} {e : TypeId} {enc : α → Array Value} {gs : List Nat} {tk : Nat → α} {x : Nat} {ob : Obj} {i j : Nat} (h : S w L) (hi : L[i]? = some (Ob x ob)) (hj : L[j]? = some (Fam e enc gs tk)) (hne : i ≠ j) : x ∉ gs := fun hx => pair_of h.2 hi hj hne x rfl hx
end
end Go.Proofs.Ytibdlnjnomikjaa
