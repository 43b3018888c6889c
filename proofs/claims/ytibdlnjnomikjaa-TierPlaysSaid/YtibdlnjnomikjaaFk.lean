import Derived.Test.YtibdlnjnomikjaaFl
set_option linter.unusedSimpArgs false
set_option linter.unusedVariables false
namespace Go.Proofs.Ytibdlnjnomikjaa
open Go.RowKit Go.Deep

/-! ## Short forms of steps -/
section
variable {P : Program} {N : Nat} {Q : Exit → Act → World → Prop} {f : Fr} {ds : List Deferred} {w w' : World} {o : Oper} {ops : Array Oper} {rest : List Oper} {L : List Item} {d : Nat} {v : Value}
theorem w_s {y : Code} {id : Nat} {l : List Oper} (h : G N (wpList P l.toArray (Exit.then (y.wp P Q) Q) l) f ds w) : G N ((Code.seq (Code.region id l.toArray false) y).wp P Q) f ds w := g_seq (g_region h)
theorem w_e {K : Act → World → Prop} (h : G N K f ds w) : G N (wpList P ops (Exit.then K Q) []) f ds w := g_nil (g_then h)
theorem w_v (hx : Ex P N f ds o w v w') (h : G N (wpList P ops Q rest) ((d, v) :: f) ds w') (hg : o.guard = none := by rfl) (hd : o.dst = some d := by rfl) (hN : Nat.blt d N = true := by rfl) : G N (wpList P ops Q (o :: rest)) f ds w := l_of (s_val (wt0 hg) hd hN hx h)
theorem w_g {j : Nat} {b b' : Bool} {oj : Oper} {dj : Nat} (h4 : b' = b) (hx : Ex P N f ds o w v w') (h : G N (wpList P ops Q rest) ((d, v) :: f) ds w') (h0 : o.guard = some (j, b) := by rfl) (h1 : ops[j]? = some oj := by rfl) (h2 : oj.dst = some dj := by rfl) (h3 : gt f dj = some (.bool b') := by rfl) (hd : o.dst = some d := by rfl) (hN : Nat.blt d N = true := by rfl) : G N (wpList P ops Q (o :: rest)) f ds w := l_of (s_val (wt1 h0 h1 h2 h3 h4) hd hN hx h)
theorem w_m {x : Operand} (h : G N (wpList P ops Q rest) ((d, v) :: f) ds w) (hg : o.guard = none := by rfl) (hd : o.dst = some d := by rfl) (hN : Nat.blt d N = true := by rfl) (ho : o.op = .move x := by rfl) (hx : evo f x = some v := by rfl) : G N (wpList P ops Q (o :: rest)) f ds w := l_of (s_val (wt0 hg) hd hN (x_move ho hx) h)
theorem w_a {x : Operand} (h : G N (wpList P ops Q rest) ((d, v) :: f) ds w) (hg : o.guard = none := by rfl) (hd : o.dst = some d := by rfl) (hN : Nat.blt d N = true := by rfl) (ho : o.op = .assign x := by rfl) (hx : evo f x = some v := by rfl) : G N (wpList P ops Q (o :: rest)) f ds w := l_of (s_val (wt0 hg) hd hN (x_assign ho hx) h)
theorem w_f {s i n : Nat} {x : Operand} {g off : Nat} (off' : Nat) (h : G N (wpList P ops Q rest) ((d, .pointer (some ⟨g, off', none⟩)) :: f) ds w) (hg : o.guard = none := by rfl) (hd : o.dst = some d := by rfl) (hN : Nat.blt d N = true := by rfl) (ho : o.op = .fieldAddr s x i := by rfl) (hx : evo f x = some (.pointer (some ⟨g, off, none⟩)) := by rfl) (hf : foO P s i = some n := by exact foT rfl) (he : off + n = off' := by rfl) :
    G N (wpList P ops Q (o :: rest)) f ds w := l_of (s_val (wt0 hg) hd hN (x_fieldAddr ho hx hf he) h)
theorem w_1 {t : TypeId} {x : Operand} {g i : Nat} {cs : Array Value} {e : TypeId} {fr : Nat × Nat} (H : S w L) (k : Nat) (h : G N (wpList P ops Q rest) ((d, v) :: f) ds w) (hg : o.guard = none := by rfl) (hd : o.dst = some d := by rfl) (hN : Nat.blt d N = true := by rfl) (ho : o.op = .load t x := by rfl) (hx : evo f x = some (.pointer (some ⟨g, i, none⟩)) := by rfl) (hu : ∃ dd, P.underlying t = some dd ∧ aggB dd = false := by exact unT rfl)
    (hk : L[k]? = some (Ob g (.cells cs e fr)) := by rfl) (hv : cs[i]? = some v := by rfl) : G N (wpList P ops Q (o :: rest)) f ds w := by
  obtain ⟨dd, q1, q2⟩ := hu
  exact l_of (s_val (wt0 hg) hd hN (x_load1 H k ho hx q1 q2 hk hv) h)
theorem w_b {op : BinOp} {t ty : TypeId} {x y : Operand} {vx vy : Value} (h : G N (wpList P ops Q rest) ((d, v) :: f) ds w) (hg : o.guard = none := by rfl) (hd : o.dst = some d := by rfl) (hN : Nat.blt d N = true := by rfl) (ho : o.op = .binOp op t x y ty := by rfl) (hx : evo f x = some vx := by rfl) (hy : evo f y = some vy := by rfl) (hb : Bin P op t x y vx vy w v := by first | exact b_eql | exact b_lss | exact b_leq | exact b_gtr | exact b_geq) : G N (wpList P ops Q (o :: rest)) f ds w := l_of (s_val (wt0 hg) hd hN (x_bin ho hx hy hb) h)
theorem w_n {j : Nat} {b b' : Bool} {oj : Oper} {dj : Nat} (h4 : b' = !b) (h : G N (wpList P ops Q rest) ((d, undef) :: f) ds w) (h0 : o.guard = some (j, b) := by rfl) (h1 : ops[j]? = some oj := by rfl) (h2 : oj.dst = some dj := by rfl) (h3 : gt f dj = some (.bool b') := by rfl) (hd : o.dst = some d := by rfl) (hN : Nat.blt d N = true := by rfl) : G N (wpList P ops Q (o :: rest)) f ds w := l_of (s_not (wn1 h0 h1 h2 h3 h4) hd hN h)
theorem xf {s i n : Nat} {x : Operand} {g off : Nat} (off' : Nat) (ho : o.op = .fieldAddr s x i := by rfl) (hx : evo f x = some (.pointer (some ⟨g, off, none⟩)) := by rfl) (hf : foO P s i = some n := by exact foT rfl) (he : off + n = off' := by rfl) : Ex P N f ds o w (.pointer (some ⟨g, off', none⟩)) w := x_fieldAddr ho hx hf he
theorem xl {t : TypeId} {x : Operand} {g i : Nat} {cs : Array Value} {e : TypeId} {fr : Nat × Nat} (H : S w L) (k : Nat) (ho : o.op = .load t x := by rfl) (hx : evo f x = some (.pointer (some ⟨g, i, none⟩)) := by rfl) (hu : ∃ dd, P.underlying t = some dd ∧ aggB dd = false := by exact unT rfl) (hk : L[k]? = some (Ob g (.cells cs e fr)) := by rfl) (hv : cs[i]? = some v := by rfl) : Ex P N f ds o w v w := by
  obtain ⟨dd, q1, q2⟩ := hu
  exact x_load1 H k ho hx q1 q2 hk hv
theorem xm {x : Operand} (ho : o.op = .move x := by rfl) (hx : evo f x = some v := by rfl) : Ex P N f ds o w v w := x_move ho hx
theorem xa {x : Operand} (ho : o.op = .assign x := by rfl) (hx : evo f x = some v := by rfl) : Ex P N f ds o w v w := x_assign ho hx
theorem xn {x : Operand} {p : Addr} (ho : o.op = .nilCheck x := by rfl) (hx : evo f x = some (.pointer (some p)) := by rfl) : Ex P N f ds o w (.pointer (some p)) w := x_nilCheck ho hx
theorem xe {x : Operand} {i : Nat} {vs : Array Value} (ho : o.op = .extract x i := by rfl) (hx : evo f x = some (.tuple vs) := by rfl) (hv : vs[i]? = some v := by rfl) : Ex P N f ds o w v w := x_extract ho hx hv
/-- A store into a block that is told whole. -/
theorem w_st {K : Act → World → Prop} {t : TypeId} {x y : Operand} {g i : Nat} {cs : Array Value} {e : TypeId} (cs' : Array Value) (H : S w L) (k : Nat) (h : ∀ w', S w' (L.set k (Ob g (.cells cs' e (0, 0)))) → G N K f ds w') (hg : o.guard = none := by rfl) (hd : o.dst = none := by rfl) (ho : o.op = .store t x y := by rfl) (hx : evo f x = some (.pointer (some ⟨g, i, none⟩)) := by rfl)
    (hy : evo f y = some v := by rfl) (hk : L[k]? = some (Ob g (.cells cs e (0, 0))) := by rfl) (hn : szO P t = some v.cells.size := by exact szT rfl) (hl : Nat.ble (i + v.cells.size) cs.size = true := by rfl) (h1 : v.cells.toList.all (·.oneCell') = true := by rfl)
    (hc : (cs.toList.take i ++ v.cells.toList ++ cs.toList.drop (i + v.cells.size)).toArray = cs' := by rfl) : G N (StepK P ops Q o K) f ds w := s_store H k (wt0 hg) hd ho hx hy hk hn hl h1 hc h
theorem xf0 {s i n : Nat} {x : Operand} {g off : Nat} (ho : o.op = .fieldAddr s x i := by rfl) (hx : evo f x = some (.pointer (some ⟨g, off, none⟩)) := by rfl) (hf : foO P s i = some n := by exact foT rfl) : Ex P N f ds o w (.pointer (some ⟨g, off + n, none⟩)) w := x_fieldAddr ho hx hf rfl
/-- A call of which nothing stays. -/
theorem s_call0 {K : Act → World → Prop} {g : FuncId} {vs : List Value} (H : S w L) (hw : Wt ops f o) (hx : ExC P N f ds o w g vs w) (hc : Calls P g vs.toArray w (fun e w' => e = .returned v ∧ S w' [Old w no])) (hd : o.dst = some d) (hN : Nat.blt d N = true)
    (h : ∀ w', S w' L → G N K ((d, v) :: f) ds w') : G N (StepK P ops Q o K) f ds w :=
  s_call hw hx hc fun e w'' he => by
    obtain ⟨rfl, h2⟩ := he
    exact b_ret hd hN (h _ (H.absorb (new := []) h2))
end
section
variable {P : Program} {N : Nat} {ops : Array Oper} {Q : Exit → Act → World → Prop} {md : Region.Mode} {C : World → Prop} {T : List Nat} {f : Fr} {ds : List Deferred} {w : World} {listed : Array Bool} {fuel : Nat}
theorem and4 {a b c d : Bool} (h : (a && b && c && d) = true) : a = true ∧ b = true ∧ c = true ∧ d = true := by
  cases a <;> cases b <;> cases c <;> cases d <;> simp at h ⊢
theorem w_t {f0 : Fr} {d : Nat} {o : Oper} {v : Value} (i : Nat) (hi : ops[i]? = some o) (hC : C w) (hx : ∀ w, C w → Ex P N f ds o w v w)
    (h : G N (wpAnyX P md ops (PanP N f0 ds Q) C T fuel (listed.setIfInBounds i true)) ((d, v) :: f) ds w) (hg : o.guard = none := by rfl) (hd : o.dst = some d := by rfl) (hN : Nat.blt d N = true := by rfl) (h0 : gt f0 d = none := by rfl) (hB : (Region.noSelect ops && Region.free md ops listed i && (Region.ready md ops listed).contains i && waits md ops T i) = true := by kernel_rfl) : G N (wpAnyX P md ops (PanP N f0 ds Q) C T (fuel + 1) listed) f ds w :=
  a_take i hi (wt0 hg) hd hN h0 (and4 hB).1 (and4 hB).2.1 (and4 hB).2.2.1 (and4 hB).2.2.2 hC hx h
theorem w_tg {f0 : Fr} {d : Nat} {o : Oper} {v : Value} {j : Nat} {b b' : Bool} {oj : Oper} {dj : Nat} (i : Nat) (hi : ops[i]? = some o) (h4 : b' = b) (hC : C w) (hx : ∀ w, C w → Ex P N f ds o w v w)
    (h : G N (wpAnyX P md ops (PanP N f0 ds Q) C T fuel (listed.setIfInBounds i true)) ((d, v) :: f) ds w) (g0 : o.guard = some (j, b) := by rfl) (g1 : ops[j]? = some oj := by rfl) (g2 : oj.dst = some dj := by rfl) (g3 : gt f dj = some (.bool b') := by rfl) (hd : o.dst = some d := by rfl) (hN : Nat.blt d N = true := by rfl) (h0 : gt f0 d = none := by rfl) (hB : (Region.noSelect ops && Region.free md ops listed i && (Region.ready md ops listed).contains i && waits md ops T i) = true := by kernel_rfl) : G N (wpAnyX P md ops (PanP N f0 ds Q) C T (fuel + 1) listed) f ds w :=
  a_take i hi (wt1 g0 g1 g2 g3 h4) hd hN h0 (and4 hB).1 (and4 hB).2.1 (and4 hB).2.2.1 (and4 hB).2.2.2 hC hx h
theorem w_tn {f0 : Fr} {d : Nat} {o : Oper} {j : Nat} {b b' : Bool} {oj : Oper} {dj : Nat} (i : Nat) (hi : ops[i]? = some o) (h4 : b' = !b) (hC : C w)
    (h : G N (wpAnyX P md ops (PanP N f0 ds Q) C T fuel (listed.setIfInBounds i true)) ((d, undef) :: f) ds w) (g0 : o.guard = some (j, b) := by rfl) (g1 : ops[j]? = some oj := by rfl) (g2 : oj.dst = some dj := by rfl) (g3 : gt f dj = some (.bool b') := by rfl) (hd : o.dst = some d := by rfl) (hN : Nat.blt d N = true := by rfl) (h0 : gt f0 d = none := by rfl) (hB : (Region.noSelect ops && Region.free md ops listed i && (Region.ready md ops listed).contains i && waits md ops T i) = true := by kernel_rfl) : G N (wpAnyX P md ops (PanP N f0 ds Q) C T (fuel + 1) listed) f ds w :=
  a_not i hi (wn1 g0 g1 g2 g3 h4) hd hN h0 (and4 hB).1 (and4 hB).2.1 (and4 hB).2.2.1 (and4 hB).2.2.2 hC h
theorem w_y {C0 : World → Prop} {f0 : Fr} {d : Nat} {o : Oper} {v : Value} (i : Nat) (hi : ops[i]? = some o) (hw : Wt ops f o) (hd : o.dst = some d) (hN : Nat.blt d N = true) (h0 : gt f0 d = none) (hB : (Region.noSelect ops && Region.free md ops listed i && (Region.ready md ops listed).contains i && closedB md ops listed) = true) (hx : ∀ w, Ex P N f ds o w v w)
    (h : G N (wpAnyY P md ops (PanP N f0 ds Q) C C0 T fuel (listed.setIfInBounds i true)) ((d, v) :: f) ds w) : G N (wpAnyY P md ops (PanP N f0 ds Q) C C0 T (fuel + 1) listed) f ds w :=
  y_pure i hi hw hd hN h0 (and4 hB).1 (and4 hB).2.1 (and4 hB).2.2.1 (and4 hB).2.2.2 hx h
end
/-! Runs of simple operations -/
theorem w_r2 {A B : Prop} (b : B) (h : B → A := by intro k; (iterate 2 first | refine w_m ?_ | refine w_a ?_ | refine w_v xf0 ?_ | refine w_v xn ?_ | refine w_v xe ?_); exact k) : A := h b
theorem w_r3 {A B : Prop} (b : B) (h : B → A := by intro k; (iterate 3 first | refine w_m ?_ | refine w_a ?_ | refine w_v xf0 ?_ | refine w_v xn ?_ | refine w_v xe ?_); exact k) : A := h b
theorem w_r4 {A B : Prop} (b : B) (h : B → A := by intro k; (iterate 4 first | refine w_m ?_ | refine w_a ?_ | refine w_v xf0 ?_ | refine w_v xn ?_ | refine w_v xe ?_); exact k) : A := h b
theorem w_r5 {A B : Prop} (b : B) (h : B → A := by intro k; (iterate 5 first | refine w_m ?_ | refine w_a ?_ | refine w_v xf0 ?_ | refine w_v xn ?_ | refine w_v xe ?_); exact k) : A := h b
theorem w_r7 {A B : Prop} (b : B) (h : B → A := by intro k; (iterate 7 first | refine w_m ?_ | refine w_a ?_ | refine w_v xf0 ?_ | refine w_v xn ?_ | refine w_v xe ?_); exact k) : A := h b
end Go.Proofs.Ytibdlnjnomikjaa
