/- A slice of deeds: what an argument of its type holds. -/
import Derived.Test.YtlajgickimgigaaGreatWF
import Derived.Test.YtlajgickimgigaaGreatStrs
import Derived.Deep.Slices
set_option linter.unusedSimpArgs false
set_option linter.unusedVariables false
namespace Go.Proofs.YtlajgickimgigaaGreat
open Go.ChangeShapes Go.WideShapes Go.ChangeAt Go.RowKit Go.Joins Go.Deep

structure Dd where
  lv : Int
  ix : Int
  ct : Int
  mr : Int
  own : Bool
  p1 : Option Addr
  c1 : Nat
  ls : List ByteArray
  p2 : Option Addr
  c2 : Nat
  us : List ByteArray
def Dd.cellsL (d : Dd) : List Value := [.int .i64 d.lv, .int .i64 d.ix, .int .i64 d.ct, .int .i64 d.mr, .bool d.own, .slice d.p1 d.ls.length d.c1, .slice d.p2 d.us.length d.c2]
def ddV (l : List Dd) : List Value := l.flatMap Dd.cellsL
def Dd.none : Dd := ⟨0, 0, 0, 0, false, .none, 0, [], .none, 0, []⟩
def Dd.Good (w : World) (d : Dd) : Prop := d.ls.length ≤ 9223372036854775807 ∧ d.us.length ≤ 9223372036854775807 ∧ d.ct < 9223372036854775808 ∧ Reads w d.p1 d.ls.length d.c1 1 (stV d.ls) ∧ Reads w d.p2 d.us.length d.c2 1 (stV d.us)
theorem ddV_len (l : List Dd) : (ddV l).length = l.length * 7 := by unfold ddV; rw [flat_length (size := 7) (fun _ _ => rfl)]
theorem flat_at7 {α : Type} {f : α → List Value} {size : Nat} : ∀ {l : List α} {i k : Nat} {a : α}, (∀ a ∈ l, (f a).length = size) → l[i]? = some a → k < size → (l.flatMap f)[i * size + k]? = (f a)[k]?
  | [], i, k, a, _, h, _ => by simp at h
  | b :: l, 0, k, a, hs, h, hk => by
    have hb := hs b (List.mem_cons_self ..)
    have h : b = a := by simpa using h
    subst h
    rw [List.flatMap_cons, List.getElem?_append, if_pos (by omega), Nat.zero_mul, Nat.zero_add]
  | b :: l, i + 1, k, a, hs, h, hk => by
    have hb := hs b (List.mem_cons_self ..)
    have := flat_at7 (i := i) (k := k) (a := a) (fun c hc => hs c (List.mem_cons_of_mem _ hc)) (by simpa using h) hk
    rw [List.flatMap_cons, List.getElem?_append, if_neg (by rw [hb, Nat.add_mul]; omega), hb, show (i + 1) * size + k - size = i * size + k from by rw [Nat.add_mul]; omega]
    exact this
theorem ddV_at {l : List Dd} {i k : Nat} (h : i < l.length) (hk : k < 7) : (ddV l)[i * 7 + k]? = ((l.getD i Dd.none).cellsL)[k]? :=
  flat_at7 (size := 7) (fun _ _ => rfl) (by rw [List.getD_eq_getElem?_getD, List.getElem?_eq_getElem h]; rfl) hk
theorem getD_mem_dd {l : List Dd} {i : Nat} (h : i < l.length) : l.getD i Dd.none ∈ l := by
  rw [List.getD_eq_getElem?_getD, List.getElem?_eq_getElem h]; exact List.getElem_mem h
section
variable {H : Type} {enc : TypeId × Value → H} {w : World} {base : Nat} {spare : Nat → Bool} {held : Bool}
theorem flat_get {α : Type} {f : α → List Value} {size : Nat} : ∀ {l : List α} {j : Nat} {u : Value}, (∀ a ∈ l, (f a).length = size) → (l.flatMap f)[j]? = some u → ∃ i k a, i < l.length ∧ l[i]? = some a ∧ j = i * size + k ∧ k < size ∧ (f a)[k]? = some u
  | [], j, u, _, h => by simp at h
  | a :: l, j, u, hs, h => by
    have ha := hs a (List.mem_cons_self ..)
    rw [List.flatMap_cons, List.getElem?_append] at h
    split at h
    · rename_i hj
      exact ⟨0, j, a, by simp, rfl, by omega, by omega, h⟩
    · rename_i hj
      obtain ⟨i, k, b, h1, h2, h3, h4, h5⟩ := flat_get (fun b hb => hs b (List.mem_cons_of_mem _ hb)) h
      refine ⟨i + 1, k, b, by simp; omega, by simpa using h2, ?_, h4, h5⟩
      rw [Nat.add_mul]; omega
set_option maxRecDepth 100000 in
/-- A slice of texts within a struct. -/
theorem open_strs1 {fuel : Nat} {v : Value} {x : DataW H × List MemPlace} (hf : DataW.trod enc Tryz.prog w base spare held fuel 22 [v] = some x) :
    ∃ (p : Option Addr) (c : Nat) (l : List ByteArray), v = .slice p l.length c ∧ l.length ≤ 9223372036854775807 ∧ Reads w p l.length c 1 (stV l) := by
  have hC : Tryz.prog.cellsOf 9 = 1 := by kernel_rfl
  rcases open_slice Tryz.underlying22 hf with ⟨h1, _⟩ | ⟨a, len, cap, m, k, D, Pl, h1, _, hl, hm, hmm, _, hx⟩
  · have h1 : v = .slice none 0 0 := by simpa using h1
    exact ⟨none, 0, [], h1, Nat.zero_le _, reads_nil⟩
  · have h1 : v = .slice (some a) len cap := by simpa using h1
    have hlm : len ≤ m := by rw [hmm]; split <;> omega
    rw [hC] at hx
    have : Inhabited ByteArray := ⟨⟨#[]⟩⟩
    obtain ⟨f, hf⟩ := choose_lt (α := ByteArray) (n := len) (p := fun i x => w.cell? (a.add i) = some (.string x)) (fun i hi => by
      obtain ⟨cs', q1, q2⟩ := hx i (by omega)
      obtain ⟨_, hlen, hcell⟩ := World.cells?_some q1
      match cs', hlen with
      | [v0], _ =>
        obtain ⟨s, e, _⟩ := DataW.trod_string Tryz.underlying9 q2
        simp only [List.cons.injEq, and_true] at e
        subst e
        refine ⟨s, ?_⟩
        have := hcell 0 (by omega)
        rw [addr_add, Nat.add_zero, Nat.mul_one] at this
        rw [this]; rfl)
    have hlen : ((List.range len).map f).length = len := by simp
    refine ⟨some a, cap, (List.range len).map f, by rw [hlen]; exact h1, by rw [hlen]; unfold maxLen at hm; omega, ?_⟩
    rw [hlen]
    refine ⟨?_, hl, fun hn => ⟨a, rfl, fun j u hu => ?_⟩⟩
    · rw [stV_len]; simp
    · unfold stV at hu
      rw [List.getElem?_map, List.getElem?_map] at hu
      have hj : j < len := by
        rcases Nat.lt_or_ge j len with h | h
        · exact h
        · rw [List.getElem?_eq_none (by simpa using h)] at hu; cases hu
      rw [List.getElem?_range hj] at hu
      simp only [Option.map_some, Option.some.injEq] at hu
      rw [← hu]; exact hf j hj
theorem int_lt {n : Int} (h : (Lit.int .i64 n).wf = true) : n < 9223372036854775808 := by
  have h2 : IntKind.i64.max = 9223372036854775807 := by decide
  simp [Lit.wf, h2] at h; omega
set_option maxRecDepth 100000 in
/-- The cells of a deed. -/
theorem deed_cells {fuel : Nat} {cs : List Value} {x : DataW H × List MemPlace} (h : DataW.trod enc Tryz.prog w base spare held fuel 40 cs = some x) (hl : cs.length = 7) : ∃ d : Dd, cs = d.cellsL ∧ d.Good w := by
  obtain ⟨fs, hs, hone⟩ : ∃ fs, Tryz.prog.underlying 40 = some (.struct fs) ∧ oneCellFields Tryz.prog fs = true := ⟨_, Tryz.underlying40, by kernel_rfl⟩
  rw [Tryz.underlying40] at hs
  obtain rfl := TypeDesc.struct.inj (Option.some.inj hs)
  match cs, hl with
  | [v0, v1, v2, v3, v4, v5, v6], _ =>
    obtain ⟨xs, k, _, hx, _, hlen, hg⟩ := DataW.trod_struct Tryz.underlying40 h
    match xs, hlen with
    | [y0, y1, y2, y3, y4, y5, y6], _ =>
      have g := fun i f (hi : _ = some f) => by
        have h1 := hg i f hi
        obtain ⟨o, c⟩ := hone_of hone i f hi
        rw [o, c] at h1; exact h1
      obtain ⟨k0, e0, _⟩ := DataW.trod_int Tryz.underlying3 (g 0 _ rfl)
      obtain ⟨k1, e1, _⟩ := DataW.trod_int Tryz.underlying3 (g 1 _ rfl)
      obtain ⟨k2, e2, _, w2⟩ := DataW.trod_int Tryz.underlying3 (g 2 _ rfl)
      obtain ⟨k3, e3, _⟩ := DataW.trod_int Tryz.underlying3 (g 3 _ rfl)
      obtain ⟨k4, e4, _⟩ := DataW.trod_bool Tryz.underlying4 (g 4 _ rfl)
      obtain ⟨p5, c5, l5, e5, m5, r5⟩ := open_strs1 (g 5 _ rfl)
      obtain ⟨p6, c6, l6, e6, m6, r6⟩ := open_strs1 (g 6 _ rfl)
      have q0 : v0 = .int .i64 k0 := by simpa using e0
      have q1 : v1 = .int .i64 k1 := by simpa using e1
      have q2 : v2 = .int .i64 k2 := by simpa using e2
      have q3 : v3 = .int .i64 k3 := by simpa using e3
      have q4 : v4 = .bool k4 := by simpa using e4
      subst q0; subst q1; subst q2; subst q3; subst q4; subst e5; subst e6
      exact ⟨⟨k0, k1, k2, k3, k4, p5, c5, l5, p6, c6, l6⟩, rfl, m5, m6, int_lt w2, r5, r6⟩
set_option maxRecDepth 100000 in
/-- A slice of deeds that came in. -/
theorem open_dds {v : Value} {d : DataW H} {ps : List MemPlace} {b0 : Nat} (hv : Value.okWide Tryz.prog w .any b0 23 v) (h : DataW.Trod enc Tryz.prog w base spare held 23 v d ps) :
    ∃ (p : Option Addr) (n c : Nat) (l : List Dd), v = .slice p n c ∧ n = l.length ∧ n ≤ 9223372036854775807 ∧ Reads w p n c 7 (ddV l) ∧ ∀ d ∈ l, d.Good w := by
  obtain ⟨fuel, hf⟩ := h
  obtain ⟨p, n, c, rfl⟩ : ∃ p n c, v = .slice p n c := okWide_slice Tryz.underlying23 hv
  have hC : Tryz.prog.cellsOf 40 = 7 := by kernel_rfl
  rcases open_slice Tryz.underlying23 hf with ⟨h1, _⟩ | ⟨a, len, cap, m, k, D, Pl, h1, _, hl, hm, hmm, _, hx⟩
  · simp only [Value.cells, List.cons.injEq, Value.slice.injEq, and_true] at h1
    obtain ⟨rfl, rfl, rfl⟩ := h1
    exact ⟨none, 0, 0, [], rfl, rfl, by omega, ⟨by simp [ddV], Nat.le_refl _, fun h => absurd h (Nat.lt_irrefl _)⟩, fun d hd => absurd hd (List.not_mem_nil)⟩
  · simp only [Value.cells, List.cons.injEq, Value.slice.injEq, and_true] at h1
    obtain ⟨rfl, rfl, rfl⟩ := h1
    have hlm : n ≤ m := by rw [hmm]; split <;> omega
    rw [hC] at hx
    have : Inhabited Dd := ⟨Dd.none⟩
    obtain ⟨f, hf⟩ := choose_lt (α := Dd) (n := n) (p := fun i x => (∀ j u, (x.cellsL)[j]? = some u → w.cell? (a.add (i * 7 + j)) = some u) ∧ x.Good w) (fun i hi => by
      obtain ⟨cs', q1, q2⟩ := hx i (by omega)
      obtain ⟨_, hlen, hcell⟩ := World.cells?_some q1
      obtain ⟨x, rfl, hgd⟩ := deed_cells q2 hlen
      refine ⟨x, fun j u hu => ?_, hgd⟩
      have hj : j < 7 := (List.getElem?_eq_some_iff.1 hu).1
      have := hcell j hj
      rw [addr_add] at this
      rw [this]; exact hu)
    refine ⟨some a, n, c, (List.range n).map f, rfl, by simp, by unfold maxLen at hm; omega, ⟨?_, hl, fun hn => ⟨a, rfl, fun j u hu => ?_⟩⟩, fun d hd => ?_⟩
    · rw [ddV_len]; simp
    · obtain ⟨i, k, x, h1, h2, rfl, h4, h5⟩ := flat_get (size := 7) (fun _ _ => rfl) hu
      rw [List.length_map, List.length_range] at h1
      rw [List.getElem?_map, List.getElem?_range h1] at h2
      simp only [Option.map_some, Option.some.injEq] at h2
      rw [← h2] at h5
      exact (hf i h1).1 k u h5
    · obtain ⟨i, hi, rfl⟩ := List.mem_map.1 hd
      exact (hf i (List.mem_range.1 hi)).2
end
end Go.Proofs.YtlajgickimgigaaGreat
