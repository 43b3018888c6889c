import Derived.Test.YtcjmdkklbbollaaProg
import Derived.WalkKit
import Derived.Laws.EntriesVeiled
import Derived.WalkLawsBesides
import Derived.BigQuiet
import Derived.Deep.QuietTactic
import Derived.Deep.Draws
import Derived.Lib.Hide
set_option linter.unusedSimpArgs false
set_option linter.unusedVariables false
namespace Go.Proofs.Ytcjmdkklbbollaa
open Go.RowKit

/-- The slice value v reads as the cells xs (n elements of 'size' cells), its block lying in [lo, B). -/
def Rd (w : World) (lo B size : Nat) (v : Value) (xs : List Value) : Prop :=
  ∃ A n c, v = .slice A n c ∧ xs.length = n * size ∧ n ≤ c ∧ (0 < n → ∃ g o, A = some ⟨g, o, none⟩ ∧ (lo ≤ g ∧ g < B) ∧ ∀ j u, xs[j]? = some u → w.cell? ⟨g, o + j, none⟩ = some u)

theorem add_lit (g o j : Nat) : (⟨g, o, none⟩ : Addr).add j = ⟨g, o + j, none⟩ := by unfold Addr.add; split <;> simp_all

theorem Rd.keep {w w' : World} {lo B size : Nat} {v : Value} {xs : List Value} (h : Rd w lo B size v xs) (hk : ∀ p : Addr, lo ≤ p.block → p.block < B → w'.cell? p = w.cell? p) : Rd w' lo B size v xs := by
  obtain ⟨A, n, c, e, hl, hnc, h⟩ := h
  exact ⟨A, n, c, e, hl, hnc, fun hn => by
    obtain ⟨g, o, e, hb, hc⟩ := h hn
    exact ⟨g, o, e, hb, fun j u hu => (hk _ hb.1 hb.2).trans (hc j u hu)⟩⟩
theorem Rd.more {w : World} {lo lo' B B' size : Nat} {v : Value} {xs : List Value} (h : Rd w lo B size v xs) (hB : B ≤ B') (hlo : lo' ≤ lo) : Rd w lo' B' size v xs := by
  obtain ⟨A, n, c, e, hl, hnc, h⟩ := h
  exact ⟨A, n, c, e, hl, hnc, fun hn => by
    obtain ⟨g, o, e, hb, hc⟩ := h hn
    exact ⟨g, o, e, by omega, hc⟩⟩
theorem Rd.below {w w' : World} {lo B B' size : Nat} {v : Value} {xs : List Value} (h : Rd w lo B size v xs) (hb : Below B' w w') (hB : B ≤ B') : Rd w' lo B size v xs :=
  h.keep fun _ _ hp => hb.cell (by omega)
theorem Rd.nil (w : World) (lo B size c : Nat) (A : Option Addr) : Rd w lo B size (.slice A 0 c) [] := ⟨A, 0, c, rfl, by simp, Nat.zero_le _, fun h => absurd h (by omega)⟩

/-- Nothing that was there has turned. -/
abbrev Sub (w w' : World) : Prop := Below w.heap.size w w'
theorem Sub.al {w w' : World} (h : Sub w w') (o : Obj) : Sub w (w'.alloc o) := Below.alloc h h.size o
theorem Sub.tr {a b c : World} (h : Sub a b) (k : Sub b c) : Sub a c := Below.trans h (k.mono h.size)
theorem Sub.rfl' {w : World} : Sub w w := Below.refl _ _
theorem Sub.drawn {w w' : World} (h : Sub w w') (n : Nat) : Sub w (w'.drewN n) := ⟨h.os, h.tape, h.output, h.size, h.block⟩
theorem Sub.undrew {w w' : World} (h : Sub w.drew w') : Sub w w' := ⟨h.os, h.tape, h.output, h.size, h.block⟩
theorem Sub.undrewN {w w' : World} {n : Nat} (h : Sub (w.drewN n) w') : Sub w w' := ⟨h.os, h.tape, h.output, h.size, h.block⟩
theorem Sub.drew' {w w' : World} (h : Sub w w') : Sub w w'.drew := ⟨h.os, h.tape, h.output, h.size, h.block⟩
theorem Sub.cells {w w' : World} (h : Sub w w') : (∀ b o, b < w.heap.size → w'.cell? ⟨b, o, none⟩ = w.cell? ⟨b, o, none⟩) ∧ (∀ b o, b < w.heap.size → w'.frozen? ⟨b, o, none⟩ = w.frozen? ⟨b, o, none⟩) :=
  ⟨fun b o hb => Below.cell (p := ⟨b, o, none⟩) h hb, fun b o hb => Below.frozen (p := ⟨b, o, none⟩) h hb⟩
theorem Rd.sub {w w' : World} {lo size : Nat} {v : Value} {xs : List Value} (h : Rd w lo w.heap.size size v xs) (hb : Sub w w') : Rd w' lo w'.heap.size size v xs :=
  (h.below hb (Nat.le_refl _)).more hb.size (Nat.le_refl _)
theorem Rd.al {w : World} {lo size : Nat} {v : Value} {xs : List Value} (h : Rd w lo w.heap.size size v xs) (o : Obj) : Rd (w.alloc o) lo (w.alloc o).heap.size size v xs := h.sub (Sub.al (Below.refl _ _) o)

/-- Block g is just the cells cs of element type t, none frozen. -/
def Blk (w : World) (g : Nat) (t : TypeId) (cs : Array Value) : Prop := w.heap[g]? = some (.cells cs t (0, 0))
theorem Blk.lt {w : World} {g : Nat} {t : TypeId} {cs : Array Value} (h : Blk w g t cs) : g < w.heap.size := (Array.getElem?_eq_some_iff.1 h).1
theorem Blk.cell {w : World} {g : Nat} {t : TypeId} {cs : Array Value} (h : Blk w g t cs) (i : Nat) : w.cell? ⟨g, i, none⟩ = cs[i]? := cell_of_row w g i cs t (0, 0) h
theorem Blk.frozen {w : World} {g : Nat} {t : TypeId} {cs : Array Value} (h : Blk w g t cs) (i : Nat) : w.frozen? ⟨g, i, none⟩ = false := frozen_of_row w g i cs t h
theorem Blk.new (w : World) (t : TypeId) (cs : Array Value) : Blk (w.alloc (.cells cs t)) w.heap.size t cs := heap_alloc_new w _
theorem Blk.below {w w' : World} {g B : Nat} {t : TypeId} {cs : Array Value} (h : Blk w g t cs) (hb : Below B w w') (hg : g < B) : Blk w' g t cs := (hb.block g hg).trans h
theorem Blk.sub {w w' : World} {g : Nat} {t : TypeId} {cs : Array Value} (h : Blk w g t cs) (hb : Sub w w') : Blk w' g t cs := h.below hb h.lt
theorem Blk.alloc {w : World} {g : Nat} {t : TypeId} {cs : Array Value} (h : Blk w g t cs) (o : Obj) : Blk (w.alloc o) g t cs := h.sub (Sub.al (Below.refl _ _) o)
theorem Blk.grown {w w' : World} {row : Option Nat} {g : Nat} {t : TypeId} {cs : Array Value} (h : Blk w g t cs) (hb : w.grownBy w' row) (hg : some g ≠ row) : Blk w' g t cs := (hb.block g h.lt hg).trans h
theorem Blk.drew {w : World} {g : Nat} {t : TypeId} {cs : Array Value} (h : Blk w g t cs) : Blk w.drew g t cs := h
theorem Blk.drewN {w : World} {g : Nat} {t : TypeId} {cs : Array Value} (h : Blk w g t cs) (n : Nat) : Blk (w.drewN n) g t cs := h
theorem Blk.set_ {w : World} {g : Nat} {t : TypeId} {cs : Array Value} (h : Blk w g t cs) (i : Nat) (u : Value) : Blk (w.setCell ⟨g, i, none⟩ u) g t (cs.setIfInBounds i u) := by
  unfold Blk at h ⊢; simp [World.setCell, Array.getElem?_modify, h]
theorem Blk.far {w : World} {g : Nat} {t : TypeId} {cs : Array Value} (h : Blk w g t cs) {p : Addr} (hp : g ≠ p.block) (u : Value) : Blk (w.setCell p u) g t cs := (Below.heap_setCell w p u g hp).trans h
theorem heap_setRow_other (w : World) (g k : Nat) (cs : Array Value) (h : k ≠ g) : (w.setRow g cs).heap[k]? = w.heap[k]? := by
  simp only [World.setRow, Array.getElem?_modify]; rw [if_neg (by omega)]
theorem Blk.row {w : World} {g : Nat} {t : TypeId} {cs : Array Value} (h : Blk w g t cs) (cs' : Array Value) : Blk (w.setRow g cs') g t cs' := by
  unfold Blk at h ⊢; simp [World.setRow, Array.getElem?_modify, h]
theorem Blk.farRow {w : World} {g g' : Nat} {t : TypeId} {cs : Array Value} (h : Blk w g t cs) (hg : g ≠ g') (cs' : Array Value) : Blk (w.setRow g' cs') g t cs := (heap_setRow_other w g' g cs' hg).trans h
theorem below_setRow {B : Nat} {a w : World} (h : Below B a w) {g : Nat} (hg : B ≤ g) (cs : Array Value) : Below B a (w.setRow g cs) :=
  h.trans ⟨rfl, rfl, rfl, by simp, fun k hk => heap_setRow_other w g k cs (by omega)⟩
theorem Rd.of_pre {w : World} {g lo B size n c : Nat} {t : TypeId} {cur : Array Value} {xs : List Value} (h : Blk w g t cur) (ht : cur.toList.take (n * size) = xs) (hl : xs.length = n * size) (hn : n ≤ c) (hB : lo ≤ g ∧ g < B) : Rd w lo B size (.slice (some ⟨g, 0, none⟩) n c) xs :=
  ⟨_, n, c, rfl, hl, hn, fun _ => ⟨g, 0, rfl, hB, fun j u hu => by
    rw [Nat.zero_add, h.cell]
    rw [← ht, List.getElem?_take] at hu
    split at hu
    · simpa using hu
    · cases hu⟩⟩
theorem Rd.of_blk {w : World} {g lo B size n c : Nat} {t : TypeId} {cs : Array Value} (h : Blk w g t cs) (hl : cs.size = n * size) (hn : n ≤ c) (hB : lo ≤ g ∧ g < B) : Rd w lo B size (.slice (some ⟨g, 0, none⟩) n c) cs.toList :=
  Rd.of_pre h (List.take_of_length_le (by simp [hl])) (by simpa using hl) hn hB
theorem own_form {w : World} {base e size n : Nat} {v : Value} {xs : List Value} (h : w.ownsRow base e size v n xs) (hn : 0 < n) : ∃ g cap cur, v = .slice (some ⟨g, 0, none⟩) n cap ∧ base ≤ g ∧ Blk w g e cur ∧ n ≤ cap ∧ cap ≤ maxLen ∧ cur.size = cap * size ∧ cur.toList.take (n * size) = xs := by
  rcases h.2 with ⟨_, h⟩ | ⟨g, cap, cur, hv, hb, hg, h1, h2, h3, h4⟩
  · omega
  · exact ⟨g, cap, cur, hv, hb, hg, h1, h2, h3, h4⟩
theorem Rd.of_own {w : World} {base e size n : Nat} {v : Value} {xs : List Value} (h : w.ownsRow base e size v n xs) : Rd w base w.heap.size size v xs := by
  rcases Nat.eq_zero_or_pos n with rfl | hn
  · obtain ⟨h1, h2⟩ := h
    have hx : xs = [] := List.eq_nil_of_length_eq_zero (by simpa using h1)
    subst hx
    rcases h2 with ⟨rfl, _⟩ | ⟨g, cap, cur, rfl, _⟩ <;> exact Rd.nil _ _ _ _ _ _
  · obtain ⟨g, cap, cur, rfl, h0, hb, h1, _, _, h4⟩ := own_form h hn
    exact Rd.of_pre hb h4 h.1 h1 ⟨h0, hb.lt⟩

theorem grown_rfl (w : World) (r : Option Nat) : w.grownBy w r := ⟨rfl, rfl, rfl, Nat.le_refl _, fun _ _ _ => rfl⟩
theorem grown_sub {w w' w'' : World} {r : Option Nat} (h : w.grownBy w' r) (k : Sub w' w'') : w.grownBy w'' r :=
  ⟨k.os.trans h.os, k.tape.trans h.tape, k.output.trans h.output, Nat.le_trans h.size k.size, fun i hi hr => (k.block i (Nat.lt_of_lt_of_le hi h.size)).trans (h.block i hi hr)⟩
theorem grown_al {w w' : World} {r : Option Nat} (h : w.grownBy w' r) (o : Obj) : w.grownBy (w'.alloc o) r := grown_sub h (Sub.al Sub.rfl' o)
theorem grown_set {w w' : World} {g : Nat} (h : w.grownBy w' (some g)) (i : Nat) (u : Value) : w.grownBy (w'.setCell ⟨g, i, none⟩ u) (some g) :=
  ⟨h.os, h.tape, h.output, by have := h.size; simpa [World.setCell] using this, fun k hk hr => (Below.heap_setCell w' ⟨g, i, none⟩ u k (fun e => hr (by rw [e]))).trans (h.block k hk hr)⟩
theorem grown_set_new {w w' : World} {r : Option Nat} (h : w.grownBy w' r) {p : Addr} (hp : w.heap.size ≤ p.block) (u : Value) : w.grownBy (w'.setCell p u) r :=
  ⟨h.os, h.tape, h.output, by have := h.size; simpa [World.setCell] using this, fun k hk hr => (Below.heap_setCell w' p u k (by omega)).trans (h.block k hk hr)⟩
theorem grown_cell {w w' : World} {g0 : Nat} (h : w.grownBy w' (some g0)) (g o : Nat) (hg : g < w.heap.size) (hne : g ≠ g0) : w'.cell? ⟨g, o, none⟩ = w.cell? ⟨g, o, none⟩ :=
  World.cell?_of_block (h.block g hg (fun e => hne (Option.some.inj e)))
theorem sub_grown {w w1 w2 : World} {g : Nat} (h : Sub w w1) (k : w1.grownBy w2 (some g)) (hg : w.heap.size ≤ g) : Sub w w2 := Below.grown h k h.size (fun k e => by cases e; exact hg)

section
variable {P : Program}
/-- A whole struct (or array) is stored into a block of its size. -/
theorem run_storeVar_row (w : World) (g : Nat) (t ty : TypeId) (cs vs : Array Value) (hg : Blk w g t cs) (hi : (P.info? ty).map (·.size) = some vs.size) (hs : vs.size = cs.size)
    (h1 : ∀ v ∈ vs.toList, v.oneCell' = true) : (storeVar ty ⟨g, 0, none⟩ (.agg vs)).run P w = .ok () (w.setRow g vs) := by
  cases hq : P.info? ty with
  | none => simp [hq] at hi
  | some i =>
    have hz : i.size = vs.size := by simpa [hq] using hi
    have h := run_storeCells_at P g 0 t vs.toList 0 cs w hg (by simp [hs]) h1
    simp only [Nat.add_zero, List.take_zero, List.nil_append, Array.length_toList, Nat.zero_add] at h
    rw [List.drop_eq_nil_of_le (by simp [hs])] at h
    simp only [List.append_nil, Array.toArray_toList] at h
    simp [storeVar, Sem.run_bind, sizeOf, typeInfo, hq, hz, Value.cells, h]
theorem wp_store_row {o : Oper} {a : Act} {w : World} {K : Act → World → Prop} {Q : Exit → Act → World → Prop} (ty : TypeId) (p x : Operand) (ho : o.op = .store ty p x)
    (g : Nat) (hp : a.eval p = .pointer (some ⟨g, 0, none⟩)) (vs : Array Value) (hx : a.eval x = .agg vs) (t : TypeId) (cs : Array Value) (hg : Blk w g t cs)
    (hi : (P.info? ty).map (·.size) = some vs.size) (hs : vs.size = cs.size) (h1 : ∀ v ∈ vs.toList, v.oneCell' = true)
    (h : K (a.put o.dst undef) (w.setRow g vs)) : o.wp P a w K Q := by
  unfold Oper.wp execOp
  simp only [ho, hp, hx, Instr.storeAt, Instr.sureAddr, Sem.run_bind, Sem.run_pure, Result.andThen_ok, run_storeVar_row w g t ty cs vs hg hi hs h1]
  exact h
theorem wpList_store_row {ops : Array Oper} {rest : List Oper} {o : Oper} {a : Act} {w : World} {Q : Exit → Act → World → Prop} (hgd : o.guard = none) (ty : TypeId) (p x : Operand) (ho : o.op = .store ty p x)
    (g : Nat) (hp : a.eval p = .pointer (some ⟨g, 0, none⟩)) (vs : Array Value) (hx : a.eval x = .agg vs) (t : TypeId) (cs : Array Value) (hg : Blk w g t cs)
    (hi : (P.info? ty).map (·.size) = some vs.size) (hs : vs.size = cs.size) (h1 : ∀ v ∈ vs.toList, v.oneCell' = true)
    (h : wpList P ops Q rest (a.put o.dst undef) (w.setRow g vs)) : wpList P ops Q (o :: rest) a w :=
  wpList_plain hgd fun _ hK => wp_store_row ty p x ho g hp vs hx t cs hg hi hs h1 (hK _ _ h)
/-- '==' and '!=' of structs, by an equation on the run. -/
theorem wp_eq_agg {o : Oper} {a : Act} {w : World} {K : Act → World → Prop} {Q : Exit → Act → World → Prop} (op : BinOp) (t : TypeId) (x y : Operand) (ty : TypeId) (ho : o.op = .binOp op t x y ty)
    (xs ys : Array Value) (hx : a.eval x = .agg xs) (hy : a.eval y = .agg ys) (hm : P.eqGuardType P.depth t = false) (b : Bool)
    (hrun : (binOp op t (.agg xs) (.agg ys)).run P w = .ok (.bool b) w) (h : K (a.put o.dst (.bool b)) w) : o.wp P a w K Q := by
  unfold Oper.wp execOp
  simp only [ho, hx, hy, Sem.run_bind, run_eqGuard_agg w op t x y xs ys hm, Result.andThen_ok, hrun, Sem.run_pure]
  exact h
theorem wpList_eq_agg {ops : Array Oper} {rest : List Oper} {o : Oper} {a : Act} {w : World} {Q : Exit → Act → World → Prop} (hw : Region.wanted o (yielded ops a.tmps) = true) (op : BinOp) (t : TypeId) (x y : Operand) (ty : TypeId) (ho : o.op = .binOp op t x y ty)
    (xs ys : Array Value) (hx : a.eval x = .agg xs) (hy : a.eval y = .agg ys) (hm : P.eqGuardType P.depth t = false) (b : Bool)
    (hrun : (binOp op t (.agg xs) (.agg ys)).run P w = .ok (.bool b) w) (h : wpList P ops Q rest (a.put o.dst (.bool b)) w) : wpList P ops Q (o :: rest) a w :=
  BigFrame.wpList_want hw fun _ hK => wp_eq_agg op t x y ty ho xs ys hx hy hm b hrun (hK _ _ h)
end

end Go.Proofs.Ytcjmdkklbbollaa
