import Derived.Test.YtpbjekdjebjbkaaGreatFj
import Derived.Test.YtpbjekdjebjbkaaGreatProg
set_option linter.unusedSimpArgs false
set_option linter.unusedVariables false
namespace Go.Proofs.YtpbjekdjebjbkaaGreat
open Go.RowKit Go.Deep

/-! Tables of types, each held once against the program. -/
def lk1 (k : Nat) : List (Nat × Nat) → Option Nat
  | [] => none
  | (a, b) :: r => bif Nat.beq a k then some b else lk1 k r
def lk2 (k i : Nat) : List (Nat × Nat × Nat) → Option Nat
  | [] => none
  | (a, b, c) :: r => bif Nat.beq a k && Nat.beq b i then some c else lk2 k i r
def unL : List (Nat × Nat) := [(3, 0), (4, 0), (5, 0), (9, 0), (22, 0), (25, 0), (29, 0), (34, 0), (47, 0), (50, 0), (54, 0), (75, 0), (76, 0), (77, 0), (98, 0), (115, 0), (121, 0), (123, 0), (126, 0), (138, 0), (144, 0), (161, 0), (170, 0)]
def szL : List (Nat × Nat) := [(3, 1), (4, 1), (5, 1), (9, 1), (22, 1), (25, 1), (29, 1), (33, 2), (34, 1), (47, 1), (49, 1), (50, 1), (52, 7), (54, 1), (75, 1), (76, 1), (77, 1), (79, 3), (98, 1), (102, 10), (111, 4), (114, 4), (115, 1), (121, 1), (123, 1), (126, 1), (138, 1), (144, 1), (161, 1), (167, 20), (170, 1), (182, 32), (183, 64), (187, 4), (189, 4), (192, 5)]
def foL : List (Nat × Nat × Nat) := [(33, 0, 0), (33, 1, 1), (49, 0, 0), (52, 0, 0), (52, 1, 1), (52, 2, 2), (52, 3, 3), (52, 4, 4), (52, 5, 5), (52, 6, 6), (79, 0, 0), (79, 1, 1), (79, 2, 2), (102, 0, 0), (102, 1, 1), (102, 2, 2), (102, 3, 3), (102, 4, 4), (102, 5, 5), (102, 6, 6), (102, 7, 7), (102, 8, 8), (102, 9, 9), (114, 0, 0), (114, 1, 1), (114, 2, 2), (114, 3, 3), (189, 0, 0), (192, 0, 0), (192, 1, 4)]
def isO (o : Option Nat) (n : Nat) : Bool := match o with
  | some m => Nat.beq m n
  | none => false
theorem isO_eq {o : Option Nat} {n : Nat} (h : isO o n = true) : o = some n := by
  cases o with
  | none => exact absurd h (by simp [isO])
  | some m => exact congrArg some (Nat.eq_of_beq_eq_true h)
theorem lk1_of {k n : Nat} {Q : Nat → Nat → Bool} : ∀ {l : List (Nat × Nat)}, l.all (fun e => Q e.1 e.2) = true → lk1 k l = some n → Q k n = true
  | [], _, h => absurd h (by simp [lk1])
  | (a, b) :: r, h, hk => by
    rw [List.all_cons, Bool.and_eq_true] at h
    unfold lk1 at hk
    cases e : Nat.beq a k with
    | false => rw [e] at hk; exact lk1_of h.2 hk
    | true =>
      rw [e] at hk
      cases hk
      have := Nat.eq_of_beq_eq_true e
      subst this
      exact h.1
theorem lk2_of {k i n : Nat} {Q : Nat → Nat → Nat → Bool} : ∀ {l : List (Nat × Nat × Nat)}, l.all (fun e => Q e.1 e.2.1 e.2.2) = true → lk2 k i l = some n → Q k i n = true
  | [], _, h => absurd h (by simp [lk2])
  | (a, b, c) :: r, h, hk => by
    rw [List.all_cons, Bool.and_eq_true] at h
    unfold lk2 at hk
    cases e : (Nat.beq a k && Nat.beq b i) with
    | false => rw [e] at hk; exact lk2_of h.2 hk
    | true =>
      rw [e] at hk
      cases hk
      rw [Bool.and_eq_true] at e
      have h1 := Nat.eq_of_beq_eq_true e.1
      have h2 := Nat.eq_of_beq_eq_true e.2
      subst h1 h2
      exact h.1
theorem unB_all : unL.all (fun e => (Tryz.prog.underlying e.1).elim false fun d => !(aggB d)) = true := by kernel_rfl
theorem szB_all : szL.all (fun e => isO (szO Tryz.prog e.1) e.2) = true := by kernel_rfl
theorem foB_all : foL.all (fun e => isO (foO Tryz.prog e.1 e.2.1) e.2.2) = true := by kernel_rfl
theorem unT {t : Nat} (h : lk1 t unL = some 0) : ∃ d, Tryz.prog.underlying t = some d ∧ aggB d = false := by
  have h1 : ((Tryz.prog.underlying t).elim false fun d => !(aggB d)) = true := lk1_of (Q := fun a _ => (Tryz.prog.underlying a).elim false fun d => !(aggB d)) unB_all h
  cases e : Tryz.prog.underlying t with
  | none => rw [e] at h1; cases h1
  | some d => rw [e] at h1; exact ⟨d, rfl, by simpa using h1⟩
theorem szT {t n : Nat} (h : lk1 t szL = some n) : szO Tryz.prog t = some n := isO_eq (lk1_of (Q := fun a b => isO (szO Tryz.prog a) b) szB_all h)
theorem foT {s i n : Nat} (h : lk2 s i foL = some n) : foO Tryz.prog s i = some n := isO_eq (lk2_of (Q := fun a b c => isO (foO Tryz.prog a b) c) foB_all h)
end Go.Proofs.YtpbjekdjebjbkaaGreat
namespace Go.Proofs.YtpbjekdjebjbkaaGreat
open Go.RowKit Go.Deep

/-! ## Short forms of steps -/
section
variable {P : Program} {N : Nat} {Q : Exit → Act → World → Prop} {f : Fr} {ds : List Deferred} {w w' : World} {o : Oper} {ops : Array Oper} {rest : List Oper} {L : List Item} {d : Nat} {v : Value}
theorem w_s {y : Code} {id : Nat} {l : List Oper} (h : G N (wpList P l.toArray (Exit.then (y.wp P Q) Q) l) f ds w) : G N ((Code.seq (Code.region id l.toArray false) y).wp P Q) f ds w := g_seq (g_region h)
theorem w_e {K : Act → World → Prop} (h : G N K f ds w) : G N (wpList P ops (Exit.then K Q) []) f ds w := g_nil (g_then h)
theorem w_v (hx : Ex P N f ds o w v w') (h : G N (wpList P ops Q rest) ((d, v) :: f) ds w') (hg : o.guard = none := by rfl) (hd : o.dst = some d := by rfl) (hN : Nat.blt d N = true := by rfl) : G N (wpList P ops Q (o :: rest)) f ds w := l_of (s_val (wt0 hg) hd hN hx h)
theorem w_g {j : Nat} {b b' : Bool} {oj : Oper} {dj : Nat} (h4 : b' = b) (hx : Ex P N f ds o w v w') (h : G N (wpList P ops Q rest) ((d, v) :: f) ds w') (h0 : o.guard = some (j, b) := by rfl) (h1 : ops[j]? = some oj := by rfl) (h2 : oj.dst = some dj := by rfl) (h3 : gt f dj = some (.bool b') := by rfl) (hd : o.dst = some d := by rfl) (hN : Nat.blt d N = true := by rfl) : G N (wpList P ops Q (o :: rest)) f ds w := l_of (s_val (wt1 h0 h1 h2 h3 h4) hd hN hx h)
theorem w_m {x : Operand} (h : G N (wpList P ops Q rest) ((d, v) :: f) ds w) (hg : o.guard = none := by rfl) (hd : o.dst = some d := by rfl) (hN : Nat.blt d N = true := by rfl) (ho : o.op = .move x := by rfl) (hx : evo f x = some v := by rfl) : G N (wpList P ops Q (o :: rest)) f ds w := l_of (s_val (wt0 hg) hd hN (x_move ho hx) h)
theorem w_a {x : Operand} (h : G N (wpList P ops Q rest) ((d, v) :: f) ds w) (hg : o.guard = none := by rfl) (hd : o.dst = some d := by rfl) (hN : Nat.blt d N = true := by rfl) (ho : o.op = .assign x := by rfl) (hx : evo f x = some v := by rfl) : G N (wpList P ops Q (o :: rest)) f ds w := l_of (s_val (wt0 hg) hd hN (x_assign ho hx) h)
theorem w_f {s i n : Nat} {x : Operand} {g off : Nat} (off' : Nat) (h : G N (wpList P ops Q rest) ((d, .pointer (some ⟨g, off', none⟩)) :: f) ds w) (hg : o.guard = none := by rfl) (hd : o.dst = some d := by rfl) (hN : Nat.blt d N = true := by rfl) (ho : o.op = .fieldAddr s x i := by rfl) (hx : evo f x = some (.pointer (some ⟨g, off, none⟩)) := by rfl) (hf : foO P s i = some n := by exact foT rfl) (he : off + n = off' := by rfl) :
    G N (wpList P ops Q (o :: rest)) f ds w := l_of (s_val (wt0 hg) hd hN (x_fieldAddr ho hx hf he) h)
theorem w_1 {t : TypeId} {x : Operand} {g i : Nat} {cs : Array Value} {e : TypeId} {fr : Nat × Nat} (H : S w L) (k : Nat) (h : G N (wpList P ops Q rest) ((d, v) :: f) ds w) (hg : o.guard = none := by rfl) (hd : o.dst = some d := by rfl) (hN : Nat.blt d N = true := by rfl) (ho : o.op = .load t x := by rfl) (hx : evo f x = some (.pointer (some ⟨g, i, none⟩)) := by rfl) (hu : ∃ dd, P.underlying t = some dd ∧ aggB dd = false := by exact unT rfl)
    (hk : L[k]? = some (Ob g (.cells cs e fr)) := by rfl) (hv : cs[i]? = some v := by rfl) : G N (wpList P ops Q (o :: rest)) f ds w := by
  obtain ⟨dd, q1, q2⟩ := hu
  exact l_of (s_val (wt0 hg) hd hN (x_load1 H k ho hx q1 q2 hk hv) h)
theorem w_b {op : BinOp} {t ty : TypeId} {x y : Operand} {vx vy : Value} (h : G N (wpList P ops Q rest) ((d, v) :: f) ds w) (hg : o.guard = none := by rfl) (hd : o.dst = some d := by rfl) (hN : Nat.blt d N = true := by rfl) (ho : o.op = .binOp op t x y ty := by rfl) (hx : evo f x = some vx := by rfl) (hy : evo f y = some vy := by rfl) (hb : Bin P op t x y vx vy w v := by first | exact b_eql | exact b_lss | exact b_leq | exact b_gtr | exact b_geq) : G N (wpList P ops Q (o :: rest)) f ds w := l_of (s_val (wt0 hg) hd hN (x_bin ho hx hy hb) h)
theorem w_n {j : Nat} {b b' : Bool} {oj : Oper} {dj : Nat} (h4 : b' = !b) (h : G N (wpList P ops Q rest) ((d, undef) :: f) ds w) (h0 : o.guard = some (j, b) := by rfl) (h1 : ops[j]? = some oj := by rfl) (h2 : oj.dst = some dj := by rfl) (h3 : gt f dj = some (.bool b') := by rfl) (hd : o.dst = some d := by rfl) (hN : Nat.blt d N = true := by rfl) : G N (wpList P ops Q (o :: rest)) f ds w := l_of (s_not (wn1 h0 h1 h2 h3 h4) hd hN h)
theorem xf {s i n : Nat} {x : Operand} {g off : Nat} (off' : Nat) (ho : o.op = .fieldAddr s x i := by rfl) (hx : evo f x = some (.pointer (some ⟨g, off, none⟩)) := by rfl) (hf : foO P s i = some n := by exact foT rfl) (he : off + n = off' := by rfl) : Ex P N f ds o w (.pointer (some ⟨g, off', none⟩)) w := x_fieldAddr ho hx hf he
theorem xl {t : TypeId} {x : Operand} {g i : Nat} {cs : Array Value} {e : TypeId} {fr : Nat × Nat} (H : S w L) (k : Nat) (ho : o.op = .load t x := by rfl) (hx : evo f x = some (.pointer (some ⟨g, i, none⟩)) := by rfl) (hu : ∃ dd, P.underlying t = some dd ∧ aggB dd = false := by exact unT rfl) (hk : L[k]? = some (Ob g (.cells cs e fr)) := by rfl) (hv : cs[i]? = some v := by rfl) : Ex P N f ds o w v w := by
  obtain ⟨dd, q1, q2⟩ := hu
  exact x_load1 H k ho hx q1 q2 hk hv
theorem xm {x : Operand} (ho : o.op = .move x := by rfl) (hx : evo f x = some v := by rfl) : Ex P N f ds o w v w := x_move ho hx
theorem xa {x : Operand} (ho : o.op = .assign x := by rfl) (hx : evo f x = some v := by rfl) : Ex P N f ds o w v w := x_assign ho hx
theorem xn {x : Operand} {p : Addr} (ho : o.op = .nilCheck x := by rfl) (hx : evo f x = some (.pointer (some p)) := by rfl) : Ex P N f ds o w (.pointer (some p)) w := x_nilCheck ho hx
theorem xe {x : Operand} {i : Nat} {vs : Array Value} (ho : o.op = .extract x i := by rfl) (hx : evo f x = some (.tuple vs) := by rfl) (hv : vs[i]? = some v := by rfl) : Ex P N f ds o w v w := x_extract ho hx hv
/-- A store into a block that is told whole. -/
theorem w_st {K : Act → World → Prop} {t : TypeId} {x y : Operand} {g i : Nat} {cs : Array Value} {e : TypeId} (cs' : Array Value) (H : S w L) (k : Nat) (h : ∀ w', S w' (L.set k (Ob g (.cells cs' e (0, 0)))) → G N K f ds w') (hg : o.guard = none := by rfl) (hd : o.dst = none := by rfl) (ho : o.op = .store t x y := by rfl) (hx : evo f x = some (.pointer (some ⟨g, i, none⟩)) := by rfl)
    (hy : evo f y = some v := by rfl) (hk : L[k]? = some (Ob g (.cells cs e (0, 0))) := by rfl) (hn : szO P t = some v.cells.size := by exact szT rfl) (hl : Nat.ble (i + v.cells.size) cs.size = true := by rfl) (h1 : v.cells.toList.all (·.oneCell') = true := by rfl)
    (hc : (cs.toList.take i ++ v.cells.toList ++ cs.toList.drop (i + v.cells.size)).toArray = cs' := by rfl) : G N (StepK P ops Q o K) f ds w := s_store H k (wt0 hg) hd ho hx hy hk hn hl h1 hc h
theorem xf0 {s i n : Nat} {x : Operand} {g off : Nat} (ho : o.op = .fieldAddr s x i := by rfl) (hx : evo f x = some (.pointer (some ⟨g, off, none⟩)) := by rfl) (hf : foO P s i = some n := by exact foT rfl) : Ex P N f ds o w (.pointer (some ⟨g, off + n, none⟩)) w := x_fieldAddr ho hx hf rfl
/-- A call of which nothing stays. -/
theorem s_call0 {K : Act → World → Prop} {g : FuncId} {vs : List Value} (H : S w L) (hw : Wt ops f o) (hx : ExC P N f ds o w g vs w) (hc : Calls P g vs.toArray w (fun e w' => e = .returned v ∧ S w' [Old w no])) (hd : o.dst = some d) (hN : Nat.blt d N = true)
    (h : ∀ w', S w' L → G N K ((d, v) :: f) ds w') : G N (StepK P ops Q o K) f ds w :=
  s_call hw hx hc fun e w'' he => by
    obtain ⟨rfl, h2⟩ := he
    exact b_ret hd hN (h _ (H.absorb (new := []) h2))
end
section
variable {P : Program} {N : Nat} {ops : Array Oper} {Q : Exit → Act → World → Prop} {md : Region.Mode} {C : World → Prop} {T : List Nat} {f : Fr} {ds : List Deferred} {w : World} {listed : Array Bool} {fuel : Nat}
theorem and4 {a b c d : Bool} (h : (a && b && c && d) = true) : a = true ∧ b = true ∧ c = true ∧ d = true := by
  cases a <;> cases b <;> cases c <;> cases d <;> simp at h ⊢
theorem w_t {f0 : Fr} {d : Nat} {o : Oper} {v : Value} (i : Nat) (hi : ops[i]? = some o) (hC : C w) (hx : ∀ w, C w → Ex P N f ds o w v w)
    (h : G N (wpAnyX P md ops (PanP N f0 ds Q) C T fuel (listed.setIfInBounds i true)) ((d, v) :: f) ds w) (hg : o.guard = none := by rfl) (hd : o.dst = some d := by rfl) (hN : Nat.blt d N = true := by rfl) (h0 : gt f0 d = none := by rfl) (hB : (Region.noSelect ops && Region.free md ops listed i && (Region.ready md ops listed).contains i && waits md ops T i) = true := by kernel_rfl) : G N (wpAnyX P md ops (PanP N f0 ds Q) C T (fuel + 1) listed) f ds w :=
  a_take i hi (wt0 hg) hd hN h0 (and4 hB).1 (and4 hB).2.1 (and4 hB).2.2.1 (and4 hB).2.2.2 hC hx h
theorem w_tg {f0 : Fr} {d : Nat} {o : Oper} {v : Value} {j : Nat} {b b' : Bool} {oj : Oper} {dj : Nat} (i : Nat) (hi : ops[i]? = some o) (h4 : b' = b) (hC : C w) (hx : ∀ w, C w → Ex P N f ds o w v w)
    (h : G N (wpAnyX P md ops (PanP N f0 ds Q) C T fuel (listed.setIfInBounds i true)) ((d, v) :: f) ds w) (g0 : o.guard = some (j, b) := by rfl) (g1 : ops[j]? = some oj := by rfl) (g2 : oj.dst = some dj := by rfl) (g3 : gt f dj = some (.bool b') := by rfl) (hd : o.dst = some d := by rfl) (hN : Nat.blt d N = true := by rfl) (h0 : gt f0 d = none := by rfl) (hB : (Region.noSelect ops && Region.free md ops listed i && (Region.ready md ops listed).contains i && waits md ops T i) = true := by kernel_rfl) : G N (wpAnyX P md ops (PanP N f0 ds Q) C T (fuel + 1) listed) f ds w :=
  a_take i hi (wt1 g0 g1 g2 g3 h4) hd hN h0 (and4 hB).1 (and4 hB).2.1 (and4 hB).2.2.1 (and4 hB).2.2.2 hC hx h
theorem w_tn {f0 : Fr} {d : Nat} {o : Oper} {j : Nat} {b b' : Bool} {oj : Oper} {dj : Nat} (i : Nat) (hi : ops[i]? = some o) (h4 : b' = !b) (hC : C w)
    (h : G N (wpAnyX P md ops (PanP N f0 ds Q) C T fuel (listed.setIfInBounds i true)) ((d, undef) :: f) ds w) (g0 : o.guard = some (j, b) := by rfl) (g1 : ops[j]? = some oj := by rfl) (g2 : oj.dst = some dj := by rfl) (g3 : gt f dj = some (.bool b') := by rfl) (hd : o.dst = some d := by rfl) (hN : Nat.blt d N = true := by rfl) (h0 : gt f0 d = none := by rfl) (hB : (Region.noSelect ops && Region.free md ops listed i && (Region.ready md ops listed).contains i && waits md ops T i) = true := by kernel_rfl) : G N (wpAnyX P md ops (PanP N f0 ds Q) C T (fuel + 1) listed) f ds w :=
  a_not i hi (wn1 g0 g1 g2 g3 h4) hd hN h0 (and4 hB).1 (and4 hB).2.1 (and4 hB).2.2.1 (and4 hB).2.2.2 hC h
theorem w_y {C0 : World → Prop} {f0 : Fr} {d : Nat} {o : Oper} {v : Value} (i : Nat) (hi : ops[i]? = some o) (hw : Wt ops f o) (hd : o.dst = some d) (hN : Nat.blt d N = true) (h0 : gt f0 d = none) (hB : (Region.noSelect ops && Region.free md ops listed i && (Region.ready md ops listed).contains i && closedB md ops listed) = true) (hx : ∀ w, Ex P N f ds o w v w)
    (h : G N (wpAnyY P md ops (PanP N f0 ds Q) C C0 T fuel (listed.setIfInBounds i true)) ((d, v) :: f) ds w) : G N (wpAnyY P md ops (PanP N f0 ds Q) C C0 T (fuel + 1) listed) f ds w :=
  y_pure i hi hw hd hN h0 (and4 hB).1 (and4 hB).2.1 (and4 hB).2.2.1 (and4 hB).2.2.2 hx h
end
/-! Runs of simple operations -/
theorem w_r2 {A B : Prop} (b : B) (h : B → A := by intro k; (iterate 2 first | refine w_m ?_ | refine w_a ?_ | refine w_v xf0 ?_ | refine w_v xn ?_ | refine w_v xe ?_); exact k) : A := h b
theorem w_r3 {A B : Prop} (b : B) (h : B → A := by intro k; (iterate 3 first | refine w_m ?_ | refine w_a ?_ | refine w_v xf0 ?_ | refine w_v xn ?_ | refine w_v xe ?_); exact k) : A := h b
theorem w_r4 {A B : Prop} (b : B) (h : B → A := by intro k; (iterate 4 first | refine w_m ?_ | refine w_a ?_ | refine w_v xf0 ?_ | refine w_v xn ?_ | refine w_v xe ?_); exact k) : A := h b
theorem w_r5 {A B : Prop} (b : B) (h : B → A := by intro k; (iterate 5 first | refine w_m ?_ | refine w_a ?_ | refine w_v xf0 ?_ | refine w_v xn ?_ | refine w_v xe ?_); exact k) : A := h b
theorem w_r6 {A B : Prop} (b : B) (h : B → A := by intro k; (iterate 6 first | refine w_m ?_ | refine w_a ?_ | refine w_v xf0 ?_ | refine w_v xn ?_ | refine w_v xe ?_); exact k) : A := h b
end Go.Proofs.YtpbjekdjebjbkaaGreat
