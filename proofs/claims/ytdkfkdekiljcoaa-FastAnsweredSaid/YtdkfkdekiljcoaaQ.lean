import Derived.Test.YtdkfkdekiljcoaaProg
import Derived.WalkKit
import Derived.Laws.EntriesVeiled
import Derived.WalkLawsBesides
import Derived.BigQuiet
import Derived.Deep.QuietTactic
import Derived.Deep.Draws
import Derived.Lib.Hide
import Derived.Deep.RegionHeld3
import Derived.Lib.AppendStr
import Derived.Deep.DeepCutAuto
import Derived.Maps.AppendAt
import Derived.WalkSpells
set_option linter.unusedSimpArgs false
set_option linter.unusedVariables false
namespace Go.Proofs.Ytdkfkdekiljcoaa
open Go.RowKit

/-- The slice value v reads as the cells xs (n elements of 'size' cells), its block lying in [lo, B). -/
def Rd (w : World) (lo B size : Nat) (v : Value) (xs : List Value) : Prop :=
  ∃ A n c, v = .slice A n c ∧ xs.length = n * size ∧ n ≤ c ∧ (0 < n → ∃ g o, A = some ⟨g, o, none⟩ ∧ (lo ≤ g ∧ g < B) ∧ ∀ j u, xs[j]? = some u → w.cell? ⟨g, o + j, none⟩ = some u)

theorem Rd.keep {w w' : World} {lo B size : Nat} {v : Value} {xs : List Value} (h : Rd w lo B size v xs) (hk : ∀ p : Addr, lo ≤ p.block → p.block < B → w'.cell? p = w.cell? p) : Rd w' lo B size v xs := by
  obtain ⟨A, n, c, e, hl, hnc, h⟩ := h
  exact ⟨A, n, c, e, hl, hnc, fun hn => by
    obtain ⟨g, o, e, hb, hc⟩ := h hn
    exact ⟨g, o, e, hb, fun j u hu => (hk _ hb.1 hb.2).trans (hc j u hu)⟩⟩
theorem Rd.more {w : World} {lo lo' B B' size : Nat} {v : Value} {xs : List Value} (h : Rd w lo B size v xs) (hB : B ≤ B') (hlo : lo' ≤ lo) : Rd w lo' B' size v xs := by
  obtain ⟨A, n, c, e, hl, hnc, h⟩ := h
  exact ⟨A, n, c, e, hl, hnc, fun hn => by
    obtain ⟨g, o, e, hb, hc⟩ := h hn
    exact ⟨g, o, e, by omega, hc⟩⟩
theorem Rd.below {w w' : World} {lo B B' size : Nat} {v : Value} {xs : List Value} (h : Rd w lo B size v xs) (hb : Below B' w w') (hB : B ≤ B') : Rd w' lo B size v xs :=
  h.keep fun _ _ hp => hb.cell (by omega)
theorem Rd.nil (w : World) (lo B size c : Nat) (A : Option Addr) : Rd w lo B size (.slice A 0 c) [] := ⟨A, 0, c, rfl, by simp, Nat.zero_le _, fun h => absurd h (by omega)⟩

/-- Nothing that was there has turned. -/
abbrev Sub (w w' : World) : Prop := Below w.heap.size w w'
theorem Sub.al {w w' : World} (h : Sub w w') (o : Obj) : Sub w (w'.alloc o) := Below.alloc h h.size o
theorem Sub.tr {a b c : World} (h : Sub a b) (k : Sub b c) : Sub a c := Below.trans h (k.mono h.size)
theorem Sub.rfl' {w : World} : Sub w w := Below.refl _ _
theorem Sub.drawn {w w' : World} (h : Sub w w') (n : Nat) : Sub w (w'.drewN n) := ⟨h.os, h.tape, h.output, h.size, h.block⟩
theorem Sub.undrew {w w' : World} (h : Sub w.drew w') : Sub w w' := ⟨h.os, h.tape, h.output, h.size, h.block⟩
theorem Sub.cells {w w' : World} (h : Sub w w') : (∀ b o, b < w.heap.size → w'.cell? ⟨b, o, none⟩ = w.cell? ⟨b, o, none⟩) ∧ (∀ b o, b < w.heap.size → w'.frozen? ⟨b, o, none⟩ = w.frozen? ⟨b, o, none⟩) :=
  ⟨fun b o hb => Below.cell (p := ⟨b, o, none⟩) h hb, fun b o hb => Below.frozen (p := ⟨b, o, none⟩) h hb⟩
theorem Rd.sub {w w' : World} {lo size : Nat} {v : Value} {xs : List Value} (h : Rd w lo w.heap.size size v xs) (hb : Sub w w') : Rd w' lo w'.heap.size size v xs :=
  (h.below hb (Nat.le_refl _)).more hb.size (Nat.le_refl _)
theorem Rd.al {w : World} {lo size : Nat} {v : Value} {xs : List Value} (h : Rd w lo w.heap.size size v xs) (o : Obj) : Rd (w.alloc o) lo (w.alloc o).heap.size size v xs := h.sub (Sub.al (Below.refl _ _) o)

/-- Block g is just the cells cs of element type t, none frozen. -/
def Blk (w : World) (g : Nat) (t : TypeId) (cs : Array Value) : Prop := w.heap[g]? = some (.cells cs t (0, 0))
theorem Blk.lt {w : World} {g : Nat} {t : TypeId} {cs : Array Value} (h : Blk w g t cs) : g < w.heap.size := (Array.getElem?_eq_some_iff.1 h).1
theorem Blk.cell {w : World} {g : Nat} {t : TypeId} {cs : Array Value} (h : Blk w g t cs) (i : Nat) : w.cell? ⟨g, i, none⟩ = cs[i]? := cell_of_row w g i cs t (0, 0) h
theorem Blk.frozen {w : World} {g : Nat} {t : TypeId} {cs : Array Value} (h : Blk w g t cs) (i : Nat) : w.frozen? ⟨g, i, none⟩ = false := frozen_of_row w g i cs t h
theorem Blk.new (w : World) (t : TypeId) (cs : Array Value) : Blk (w.alloc (.cells cs t)) w.heap.size t cs := heap_alloc_new w _
theorem Blk.below {w w' : World} {g B : Nat} {t : TypeId} {cs : Array Value} (h : Blk w g t cs) (hb : Below B w w') (hg : g < B) : Blk w' g t cs := (hb.block g hg).trans h
theorem Blk.sub {w w' : World} {g : Nat} {t : TypeId} {cs : Array Value} (h : Blk w g t cs) (hb : Sub w w') : Blk w' g t cs := h.below hb h.lt
theorem Blk.alloc {w : World} {g : Nat} {t : TypeId} {cs : Array Value} (h : Blk w g t cs) (o : Obj) : Blk (w.alloc o) g t cs := h.sub (Sub.al (Below.refl _ _) o)
theorem Blk.grown {w w' : World} {row : Option Nat} {g : Nat} {t : TypeId} {cs : Array Value} (h : Blk w g t cs) (hb : w.grownBy w' row) (hg : some g ≠ row) : Blk w' g t cs := (hb.block g h.lt hg).trans h
theorem Blk.drew {w : World} {g : Nat} {t : TypeId} {cs : Array Value} (h : Blk w g t cs) : Blk w.drew g t cs := h
theorem Blk.drewN {w : World} {g : Nat} {t : TypeId} {cs : Array Value} (h : Blk w g t cs) (n : Nat) : Blk (w.drewN n) g t cs := h
theorem Blk.set_ {w : World} {g : Nat} {t : TypeId} {cs : Array Value} (h : Blk w g t cs) (i : Nat) (u : Value) : Blk (w.setCell ⟨g, i, none⟩ u) g t (cs.setIfInBounds i u) := by
  unfold Blk at h ⊢; simp [World.setCell, Array.getElem?_modify, h]
theorem Blk.far {w : World} {g : Nat} {t : TypeId} {cs : Array Value} (h : Blk w g t cs) {p : Addr} (hp : g ≠ p.block) (u : Value) : Blk (w.setCell p u) g t cs := (Below.heap_setCell w p u g hp).trans h
theorem heap_setRow_other (w : World) (g k : Nat) (cs : Array Value) (h : k ≠ g) : (w.setRow g cs).heap[k]? = w.heap[k]? := by
  simp only [World.setRow, Array.getElem?_modify]; rw [if_neg (by omega)]
theorem Blk.row {w : World} {g : Nat} {t : TypeId} {cs : Array Value} (h : Blk w g t cs) (cs' : Array Value) : Blk (w.setRow g cs') g t cs' := by
  unfold Blk at h ⊢; simp [World.setRow, Array.getElem?_modify, h]
theorem Blk.farRow {w : World} {g g' : Nat} {t : TypeId} {cs : Array Value} (h : Blk w g t cs) (hg : g ≠ g') (cs' : Array Value) : Blk (w.setRow g' cs') g t cs := (heap_setRow_other w g' g cs' hg).trans h
theorem below_setRow {B : Nat} {a w : World} (h : Below B a w) {g : Nat} (hg : B ≤ g) (cs : Array Value) : Below B a (w.setRow g cs) :=
  h.trans ⟨rfl, rfl, rfl, by simp, fun k hk => heap_setRow_other w g k cs (by omega)⟩
theorem Rd.of_pre {w : World} {g lo B size n c : Nat} {t : TypeId} {cur : Array Value} {xs : List Value} (h : Blk w g t cur) (ht : cur.toList.take (n * size) = xs) (hl : xs.length = n * size) (hn : n ≤ c) (hB : lo ≤ g ∧ g < B) : Rd w lo B size (.slice (some ⟨g, 0, none⟩) n c) xs :=
  ⟨_, n, c, rfl, hl, hn, fun _ => ⟨g, 0, rfl, hB, fun j u hu => by
    rw [Nat.zero_add, h.cell]
    rw [← ht, List.getElem?_take] at hu
    split at hu
    · simpa using hu
    · cases hu⟩⟩
theorem Rd.of_blk {w : World} {g lo B size n c : Nat} {t : TypeId} {cs : Array Value} (h : Blk w g t cs) (hl : cs.size = n * size) (hn : n ≤ c) (hB : lo ≤ g ∧ g < B) : Rd w lo B size (.slice (some ⟨g, 0, none⟩) n c) cs.toList :=
  Rd.of_pre h (List.take_of_length_le (by simp [hl])) (by simpa using hl) hn hB
theorem own_form {w : World} {base e size n : Nat} {v : Value} {xs : List Value} (h : w.ownsRow base e size v n xs) (hn : 0 < n) : ∃ g cap cur, v = .slice (some ⟨g, 0, none⟩) n cap ∧ base ≤ g ∧ Blk w g e cur ∧ n ≤ cap ∧ cap ≤ maxLen ∧ cur.size = cap * size ∧ cur.toList.take (n * size) = xs := by
  rcases h.2 with ⟨_, h⟩ | ⟨g, cap, cur, hv, hb, hg, h1, h2, h3, h4⟩
  · omega
  · exact ⟨g, cap, cur, hv, hb, hg, h1, h2, h3, h4⟩
theorem grown_rfl (w : World) (r : Option Nat) : w.grownBy w r := ⟨rfl, rfl, rfl, Nat.le_refl _, fun _ _ _ => rfl⟩
theorem grown_sub {w w' w'' : World} {r : Option Nat} (h : w.grownBy w' r) (k : Sub w' w'') : w.grownBy w'' r :=
  ⟨k.os.trans h.os, k.tape.trans h.tape, k.output.trans h.output, Nat.le_trans h.size k.size, fun i hi hr => (k.block i (Nat.lt_of_lt_of_le hi h.size)).trans (h.block i hi hr)⟩
theorem grown_al {w w' : World} {r : Option Nat} (h : w.grownBy w' r) (o : Obj) : w.grownBy (w'.alloc o) r := grown_sub h (Sub.al Sub.rfl' o)
theorem grown_set {w w' : World} {g : Nat} (h : w.grownBy w' (some g)) (i : Nat) (u : Value) : w.grownBy (w'.setCell ⟨g, i, none⟩ u) (some g) :=
  ⟨h.os, h.tape, h.output, by have := h.size; simpa [World.setCell] using this, fun k hk hr => (Below.heap_setCell w' ⟨g, i, none⟩ u k (fun e => hr (by rw [e]))).trans (h.block k hk hr)⟩
theorem grown_cell {w w' : World} {g0 : Nat} (h : w.grownBy w' (some g0)) (g o : Nat) (hg : g < w.heap.size) (hne : g ≠ g0) : w'.cell? ⟨g, o, none⟩ = w.cell? ⟨g, o, none⟩ :=
  World.cell?_of_block (h.block g hg (fun e => hne (Option.some.inj e)))
theorem sub_grown {w w1 w2 : World} {g : Nat} (h : Sub w w1) (k : w1.grownBy w2 (some g)) (hg : w.heap.size ≤ g) : Sub w w2 := Below.grown h k h.size (fun k e => by cases e; exact hg)

section
variable {P : Program}
/-- A whole struct (or array) is stored into a block of its size. -/
theorem run_storeVar_row (w : World) (g : Nat) (t ty : TypeId) (cs vs : Array Value) (hg : Blk w g t cs) (hi : (P.info? ty).map (·.size) = some vs.size) (hs : vs.size = cs.size)
    (h1 : ∀ v ∈ vs.toList, v.oneCell' = true) : (storeVar ty ⟨g, 0, none⟩ (.agg vs)).run P w = .ok () (w.setRow g vs) := by
  cases hq : P.info? ty with
  | none => simp [hq] at hi
  | some i =>
    have hz : i.size = vs.size := by simpa [hq] using hi
    have h := run_storeCells_at P g 0 t vs.toList 0 cs w hg (by simp [hs]) h1
    simp only [Nat.add_zero, List.take_zero, List.nil_append, Array.length_toList, Nat.zero_add] at h
    rw [List.drop_eq_nil_of_le (by simp [hs])] at h
    simp only [List.append_nil, Array.toArray_toList] at h
    simp [storeVar, Sem.run_bind, sizeOf, typeInfo, hq, hz, Value.cells, h]
theorem wp_store_row {o : Oper} {a : Act} {w : World} {K : Act → World → Prop} {Q : Exit → Act → World → Prop} (ty : TypeId) (p x : Operand) (ho : o.op = .store ty p x)
    (g : Nat) (hp : a.eval p = .pointer (some ⟨g, 0, none⟩)) (vs : Array Value) (hx : a.eval x = .agg vs) (t : TypeId) (cs : Array Value) (hg : Blk w g t cs)
    (hi : (P.info? ty).map (·.size) = some vs.size) (hs : vs.size = cs.size) (h1 : ∀ v ∈ vs.toList, v.oneCell' = true)
    (h : K (a.put o.dst undef) (w.setRow g vs)) : o.wp P a w K Q := by
  unfold Oper.wp execOp
  simp only [ho, hp, hx, Instr.storeAt, Instr.sureAddr, Sem.run_bind, Sem.run_pure, Result.andThen_ok, run_storeVar_row w g t ty cs vs hg hi hs h1]
  exact h
theorem wpList_store_row {ops : Array Oper} {rest : List Oper} {o : Oper} {a : Act} {w : World} {Q : Exit → Act → World → Prop} (hgd : o.guard = none) (ty : TypeId) (p x : Operand) (ho : o.op = .store ty p x)
    (g : Nat) (hp : a.eval p = .pointer (some ⟨g, 0, none⟩)) (vs : Array Value) (hx : a.eval x = .agg vs) (t : TypeId) (cs : Array Value) (hg : Blk w g t cs)
    (hi : (P.info? ty).map (·.size) = some vs.size) (hs : vs.size = cs.size) (h1 : ∀ v ∈ vs.toList, v.oneCell' = true)
    (h : wpList P ops Q rest (a.put o.dst undef) (w.setRow g vs)) : wpList P ops Q (o :: rest) a w :=
  wpList_plain hgd fun _ hK => wp_store_row ty p x ho g hp vs hx t cs hg hi hs h1 (hK _ _ h)
/-- '==' and '!=' of structs, by an equation on the run. -/
theorem wp_eq_agg {o : Oper} {a : Act} {w : World} {K : Act → World → Prop} {Q : Exit → Act → World → Prop} (op : BinOp) (t : TypeId) (x y : Operand) (ty : TypeId) (ho : o.op = .binOp op t x y ty)
    (xs ys : Array Value) (hx : a.eval x = .agg xs) (hy : a.eval y = .agg ys) (hm : P.eqGuardType P.depth t = false) (b : Bool)
    (hrun : (binOp op t (.agg xs) (.agg ys)).run P w = .ok (.bool b) w) (h : K (a.put o.dst (.bool b)) w) : o.wp P a w K Q := by
  unfold Oper.wp execOp
  simp only [ho, hx, hy, Sem.run_bind, run_eqGuard_agg w op t x y xs ys hm, Result.andThen_ok, hrun, Sem.run_pure]
  exact h
theorem wpList_eq_agg {ops : Array Oper} {rest : List Oper} {o : Oper} {a : Act} {w : World} {Q : Exit → Act → World → Prop} (hw : Region.wanted o (yielded ops a.tmps) = true) (op : BinOp) (t : TypeId) (x y : Operand) (ty : TypeId) (ho : o.op = .binOp op t x y ty)
    (xs ys : Array Value) (hx : a.eval x = .agg xs) (hy : a.eval y = .agg ys) (hm : P.eqGuardType P.depth t = false) (b : Bool)
    (hrun : (binOp op t (.agg xs) (.agg ys)).run P w = .ok (.bool b) w) (h : wpList P ops Q rest (a.put o.dst (.bool b)) w) : wpList P ops Q (o :: rest) a w :=
  BigFrame.wpList_want hw fun _ hK => wp_eq_agg op t x y ty ho xs ys hx hy hm b hrun (hK _ _ h)
end

end Go.Proofs.Ytdkfkdekiljcoaa
namespace Go.Proofs.Ytdkfkdekiljcoaa
open Go.RowKit

theorem four_b (k : Nat) (w : World) :
    Calls Try.prog 61 #[.func (.func k) #[] #[]] w fun e w' => e = .returned (.agg #[.int .i64 4, .func (.func k) #[] #[], .nilFunc, .int .i64 0, .int .i64 4294967295, .int .i64 0]) ∧ Sub w w' := by
  go_enter Try.func61, Try.ntmps61
  go_wp2
  refine bodyPost_ret (v := .agg #[.int .i64 4, .func (.func k) #[] #[], .nilFunc, .int .i64 0, .int .i64 4294967295, .int .i64 0]) (by simp [results, Try.results61, go_sem]) rfl ⟨rfl, Sub.al (Below.refl _ _) _⟩

theorem rest_b (a b c : Int) (w : World) :
    Calls Try.prog 68 #[.int .i64 a, .int .i64 b, .int .i64 c] w fun e w' => e = .returned (.agg #[.int .i64 0, .nilFunc, .func (.func 78) #[] #[], .int .i64 a, .int .i64 b, .int .i64 c]) ∧ Sub w w' := by
  go_enter Try.func68, Try.ntmps68
  go_wp2
  refine bodyPost_ret (v := .agg #[.int .i64 0, .nilFunc, .func (.func 78) #[] #[], .int .i64 a, .int .i64 b, .int .i64 c]) (by simp [results, Try.results68, go_sem]) rfl ⟨rfl, Sub.al (Below.refl _ _) _⟩

theorem clip_p (a : Addr) (w : World) :
    Calls Try.prog 69 #[.slice (some a) 5 5] w fun e w' => e = .returned (.slice (some a) 5 5) ∧ w = w' := by
  go_enter Try.func69, Try.ntmps69
  go_wp2
  go_ret
  exact ⟨rfl, rfl⟩

/-! The fields, as cells. -/
def f4 (k : Nat) : List Value := [.int .i64 4, .func (.func k) #[] #[], .nilFunc, .int .i64 0, .int .i64 4294967295, .int .i64 0]
def fLen : List Value := [.int .i64 4, .func (.func 64) #[] #[], .nilFunc, .int .i64 1, .int .i64 1024, .int .i64 0]
def fRest (a b c : Int) : List Value := [.int .i64 0, .nilFunc, .func (.func 78) #[] #[], .int .i64 a, .int .i64 b, .int .i64 c]
def fRoot : List Value := [.int .i64 32, .nilFunc, .func (.func 65) #[] #[], .int .i64 32, .int .i64 32, .int .i64 1]
def fPort : List Value := [.int .i64 2, .func (.func 62) #[] #[], .nilFunc, .int .i64 1, .int .i64 65535, .int .i64 0]
def fExt : List Value := [.int .i64 1, .func (.func 62) #[] #[], .nilFunc, .int .i64 0, .int .i64 255, .int .i64 0]
def sBlock : List Value := f4 62 ++ f4 63 ++ fLen
def sAsk : List Value := fRoot ++ f4 66 ++ f4 62 ++ f4 64 ++ f4 67
def sOne : List Value := f4 62
def sBits : List Value := fRest 0 512 1
def sPiece : List Value := f4 62 ++ f4 63 ++ fRest 1 1024 1
def sExt : List Value := fExt ++ fRest 0 4096 1
def sHash : List Value := sAsk ++ fRest 32 2048 32

/-- The array of shapes, over its slices. -/
def shapesRow (o b a bi pi po ex ha : Value) : Array Value := #[.int .i64 0, .slice none 0 0, .int .i64 0, .slice none 0 0, .int .i64 0, .slice none 0 0, .int .i64 1, .slice none 0 0, .int .i64 2, .slice none 0 0, .int .i64 3, .slice none 0 0,
  .int .i64 4, o, .int .i64 5, bi, .int .i64 6, b, .int .i64 7, pi, .int .i64 8, b, .int .i64 9, po, .int .i64 13, o, .int .i64 14, .slice none 0 0, .int .i64 15, .slice none 0 0,
  .int .i64 16, b, .int .i64 17, o, .int .i64 20, ex, .int .i64 21, a, .int .i64 22, ha, .int .i64 23, a]
def shapesVal (o b a bi pi po ex ha : Value) : Value := .agg (shapesRow o b a bi pi po ex ha)

def Shapes (lo : Nat) (w : World) (v : Value) : Prop := ∃ o b a bi pi po ex ha, v = shapesVal o b a bi pi po ex ha ∧
  Rd w lo w.heap.size 6 o sOne ∧ Rd w lo w.heap.size 6 b sBlock ∧ Rd w lo w.heap.size 6 a sAsk ∧ Rd w lo w.heap.size 6 bi sBits ∧ Rd w lo w.heap.size 6 pi sPiece ∧ Rd w lo w.heap.size 6 po fPort ∧ Rd w lo w.heap.size 6 ex sExt ∧ Rd w lo w.heap.size 6 ha sHash

theorem info79 : (Try.prog.info? 93).map (fun i => (i.zero, i.size, i.bytes)) = some (some (.agg #[.int .i64 0, .nilFunc, .nilFunc, .int .i64 0, .int .i64 0, .int .i64 0]), 6, 48) := by kernel_rfl

set_option maxRecDepth 100000 in
set_option maxHeartbeats 4000000 in
theorem shapes_p (w : World) : Calls Try.prog 39 #[] w fun e w' => ∃ v, e = .returned v ∧ Shapes (w.heap.size + 1) w' v ∧ Sub w w' := by
  obtain ⟨i0, hi0, hz0, hz1, hz2⟩ := info_parts info79
  go_enter Try.func39, Try.ntmps39
  go_wp2_with fail
  refine (four_b _ _).mono ?_; rintro e w1 ⟨rfl, hb1⟩
  go_wp2_with fail
  refine (four_b _ _).mono ?_; rintro e w2 ⟨rfl, hb2⟩
  go_wp2_with fail
  refine (four_b _ _).mono ?_; rintro e w3 ⟨rfl, hb3⟩
  go_wp2_with fail
  refine (four_b _ _).mono ?_; rintro e w4 ⟨rfl, hb4⟩
  go_wp2_with fail
  refine (four_b _ _).mono ?_; rintro e w5 ⟨rfl, hb5⟩
  go_wp2_with fail
  refine (four_b _ _).mono ?_; rintro e w6 ⟨rfl, hb6⟩
  go_wp2_with fail
  refine (four_b _ _).mono ?_; rintro e w7 ⟨rfl, hb7⟩
  go_wp2_with fail
  refine (rest_b _ _ _ _).mono ?_; rintro e w8 ⟨rfl, hb8⟩
  go_wp2_with fail
  refine (four_b _ _).mono ?_; rintro e w9 ⟨rfl, hb9⟩
  go_wp2_with fail
  refine (four_b _ _).mono ?_; rintro e w10 ⟨rfl, hb10⟩
  go_wp2_with fail
  refine (rest_b _ _ _ _).mono ?_; rintro e w11 ⟨rfl, hb11⟩
  go_wp2_with fail
  refine (rest_b _ _ _ _).mono ?_; rintro e w12 ⟨rfl, hb12⟩
  go_wp2_with fail
  refine (clip_p _ _).mono ?_; rintro e w12 ⟨rfl, rfl⟩
  go_wp2_with fail
  refine (rest_b _ _ _ _).mono ?_; rintro e w13 ⟨rfl, hb13⟩
  have hz : w.heap.size + 1 ≤ w1.heap.size ∧ w2.heap.size + 1 ≤ w3.heap.size ∧ w6.heap.size + 1 ≤ w7.heap.size ∧ w7.heap.size + 1 ≤ w8.heap.size ∧ w8.heap.size + 1 ≤ w9.heap.size ∧ w11.heap.size + 2 ≤ w12.heap.size ∧ w12.heap.size + 1 ≤ w13.heap.size := by
    have h1 := hb1.size; have h3 := hb3.size; have h7 := hb7.size; have h8 := hb8.size; have h9 := hb9.size; have h12 := hb12.size; have h13 := hb13.size
    simp at h1 h3 h7 h8 h9 h12 h13
    omega
  have hle : w1.heap.size ≤ w2.heap.size ∧ w3.heap.size ≤ w4.heap.size ∧ w4.heap.size ≤ w5.heap.size ∧ w5.heap.size ≤ w6.heap.size ∧ w9.heap.size ≤ w10.heap.size ∧ w10.heap.size ≤ w11.heap.size := ⟨hb2.size, hb4.size, hb5.size, hb6.size, hb10.size, hb11.size⟩
  have hask : Blk w13 w6.heap.size 93 sAsk.toArray :=
    ((((((Blk.new w6 93 sAsk.toArray).sub hb7).alloc _).sub hb8 |>.alloc _).sub hb9).sub hb10 |>.sub hb11 |>.alloc _ |>.alloc _).sub hb12 |>.alloc _ |>.sub hb13
  have Hask := Lib.hid hask; clear hask
  go_wp2_with (at_builtin; refine wpList_append_grows _ rfl (.tmp 52) (.tmp 54) 85 rfl 93 i0 _ 6 48 Try.underlying85 hi0 hz0 hz1 hz2 rfl (by decide) (some ⟨w6.heap.size, 0, none⟩) 5 5 sAsk rfl (by simp) rfl ?c0 ⟨w13.heap.size, 0, none⟩ 1 1 (fRest 32 2048 32) rfl rfl ?c1 ?c2 (by decide) (by decide) (by decide) ?_)
  case c0 =>
    intro b hb j u hj
    obtain rfl := Option.some.inj hb
    have : (⟨w6.heap.size, 0, none⟩ : Addr).add j = ⟨w6.heap.size, j, none⟩ := by unfold Addr.add; split <;> simp_all
    rw [this, (Hask.out.alloc _).cell, ← hj]; simp
  case c1 =>
    intro j u hj
    have : (⟨w13.heap.size, 0, none⟩ : Addr).add j = ⟨w13.heap.size, j, none⟩ := by unfold Addr.add; split <;> simp_all
    rw [this, World.cell?_alloc_at _ _ _ _ rfl, ← hj]; simp [fRest]
  case c2 => intro u hu; simp [fRest] at hu; rcases hu with rfl | rfl | rfl | rfl | rfl | rfl <;> rfl
  intro v' w14 hown hgrow
  obtain ⟨gh, ch, cur, hv, hgh, hbl, hn6, _, hcs, htk⟩ := own_form hown (by decide)
  rw [hv]
  clear hv hown
  have hgh' : w13.heap.size + 1 ≤ gh := by simpa using hgh
  have Hh := Lib.hid (And.intro hbl (And.intro htk hn6)); clear hbl htk hcs hn6 hgh
  have hs14 : w13.heap.size + 1 ≤ w14.heap.size := by have := hgrow.size; simpa using this
  have hrow : ∀ g t cs, Blk w13 g t cs → Blk w14 g t cs := fun g t cs h => (h.alloc _).grown hgrow (by simp)
  have h0 : Blk w14 w.heap.size 88 _ := hrow _ _ _ ((((((((((Blk.new w 88 _).sub hb1).sub hb2).alloc _).sub hb3).sub hb4 |>.sub hb5).sub hb6 |>.alloc _).sub hb7 |>.alloc _).sub hb8 |>.alloc _).sub hb9 |>.sub hb10 |>.sub hb11 |>.alloc _ |>.alloc _ |>.sub hb12 |>.alloc _ |>.sub hb13)
  have Hg := Lib.hid hgrow; clear hgrow
  have Hr := Lib.hid hrow; clear hrow
  have H0 := Lib.hid h0; clear h0
  go_wp2_with (refine wpList_store_row rfl 88 (.tmp 0) (.tmp 59) rfl w.heap.size rfl _ rfl 88 _ H0.out ?d1 rfl ?d2 ?_)
  case d1 => rfl
  case d2 => simp [Value.oneCell']
  have hB := (H0.out).row (shapesRow (.slice (some ⟨w7.heap.size, 0, none⟩) 1 1) (.slice (some ⟨w2.heap.size, 0, none⟩) 3 3) (.slice (some ⟨w6.heap.size, 0, none⟩) 5 5) (.slice (some ⟨w8.heap.size, 0, none⟩) 1 1) (.slice (some ⟨w11.heap.size, 0, none⟩) 3 3) (.slice (some ⟨w11.heap.size + 1, 0, none⟩) 1 1) (.slice (some ⟨w12.heap.size, 0, none⟩) 2 2) (.slice (some ⟨gh, 0, none⟩) 6 ch))
  have hrd : ∀ g n c cs, Blk w13 g 93 cs → cs.size = n * 6 → n ≤ c → w.heap.size + 1 ≤ g → Rd (w14.setRow w.heap.size (shapesRow (.slice (some ⟨w7.heap.size, 0, none⟩) 1 1) (.slice (some ⟨w2.heap.size, 0, none⟩) 3 3) (.slice (some ⟨w6.heap.size, 0, none⟩) 5 5) (.slice (some ⟨w8.heap.size, 0, none⟩) 1 1) (.slice (some ⟨w11.heap.size, 0, none⟩) 3 3) (.slice (some ⟨w11.heap.size + 1, 0, none⟩) 1 1) (.slice (some ⟨w12.heap.size, 0, none⟩) 2 2) (.slice (some ⟨gh, 0, none⟩) 6 ch))) (w.heap.size + 1) w14.heap.size 6 (.slice (some ⟨g, 0, none⟩) n c) cs.toList :=
    fun g n c cs h hs hn hne2 => Rd.of_blk ((Hr.out _ _ _ h).farRow (by omega) _) hs hn ⟨hne2, by have := h.lt; omega⟩
  refine bodyPost_ret (v := shapesVal (.slice (some ⟨w7.heap.size, 0, none⟩) 1 1) (.slice (some ⟨w2.heap.size, 0, none⟩) 3 3) (.slice (some ⟨w6.heap.size, 0, none⟩) 5 5) (.slice (some ⟨w8.heap.size, 0, none⟩) 1 1) (.slice (some ⟨w11.heap.size, 0, none⟩) 3 3) (.slice (some ⟨w11.heap.size + 1, 0, none⟩) 1 1) (.slice (some ⟨w12.heap.size, 0, none⟩) 2 2) (.slice (some ⟨gh, 0, none⟩) 6 ch)) ?_ rfl ⟨_, rfl, ?_, ?_⟩
  · exact results_cell_row rfl _ _ w.heap.size 88 _ (0, 0) _ rfl hB Try.underlying88 rfl rfl
  · have e : ∀ cs, (w14.setRow w.heap.size cs).heap.size = w14.heap.size := fun _ => size_setRow _ _ _
    refine ⟨_, _, _, _, _, _, _, _, rfl, ?_, ?_, ?_, ?_, ?_, ?_, ?_, ?_⟩ <;> rw [e]
    · exact hrd _ _ _ #[_, _, _, _, _, _] ((Blk.new w7 93 _).sub hb8 |>.alloc _ |>.sub hb9 |>.sub hb10 |>.sub hb11 |>.alloc _ |>.alloc _ |>.sub hb12 |>.alloc _ |>.sub hb13) rfl (Nat.le_refl _) (by omega)
    · exact hrd _ _ _ sBlock.toArray ((Blk.new w2 93 _).sub hb3 |>.sub hb4 |>.sub hb5 |>.sub hb6 |>.alloc _ |>.sub hb7 |>.alloc _ |>.sub hb8 |>.alloc _ |>.sub hb9 |>.sub hb10 |>.sub hb11 |>.alloc _ |>.alloc _ |>.sub hb12 |>.alloc _ |>.sub hb13) rfl (Nat.le_refl _) (by omega)
    · exact hrd _ _ _ sAsk.toArray Hask.out rfl (Nat.le_refl _) (by omega)
    · exact hrd _ _ _ sBits.toArray ((Blk.new w8 93 _).sub hb9 |>.sub hb10 |>.sub hb11 |>.alloc _ |>.alloc _ |>.sub hb12 |>.alloc _ |>.sub hb13) rfl (Nat.le_refl _) (by omega)
    · exact hrd _ _ _ sPiece.toArray ((Blk.new w11 93 _).alloc _ |>.sub hb12 |>.alloc _ |>.sub hb13) rfl (Nat.le_refl _) (by omega)
    · have hn := Blk.new (w11.alloc (.cells sPiece.toArray 93)) 93 fPort.toArray
      rw [World.size_alloc] at hn
      exact hrd _ _ _ fPort.toArray (hn.sub hb12 |>.alloc _ |>.sub hb13) rfl (Nat.le_refl _) (by omega)
    · exact hrd _ _ _ sExt.toArray ((Blk.new w12 93 _) |>.sub hb13) rfl (Nat.le_refl _) (by omega)
    · exact Rd.of_pre (Hh.out.1.farRow (by omega) _) Hh.out.2.1 rfl Hh.out.2.2 ⟨by omega, Hh.out.1.lt⟩
  · refine below_setRow ?_ (Nat.le_refl _) _
    have h13 := ((((((((Sub.tr (Sub.al (Below.refl _ w) _) hb1).tr hb2).al _ |>.tr hb3).tr hb4 |>.tr hb5).tr hb6 |>.al _).tr hb7 |>.al _).tr hb8 |>.al _).tr hb9 |>.tr hb10 |>.tr hb11 |>.al _ |>.al _ |>.tr hb12 |>.al _ |>.tr hb13)
    exact (h13.al _).grown Hg.out (by have := h13.size; simp; omega) (fun k hk => by cases hk)

end Go.Proofs.Ytdkfkdekiljcoaa
namespace Go.Proofs.Ytdkfkdekiljcoaa
open Go.RowKit

theorem acc_p (k off : Nat) (h : (k = 62 ∧ off = 1) ∨ (k = 63 ∧ off = 2) ∨ (k = 64 ∧ off = 3) ∨ (k = 66 ∧ off = 4) ∨ (k = 67 ∧ off = 5) ∨ (k = 65 ∧ off = 6) ∨ (k = 78 ∧ off = 7)) (g : Nat) (w : World) :
    Calls Try.prog k #[.pointer (some ⟨g, 0, none⟩)] w fun e w' => e = .returned (.pointer (some ⟨g, off, none⟩)) ∧ w = w' := by
  rcases h with ⟨rfl, rfl⟩ | ⟨rfl, rfl⟩ | ⟨rfl, rfl⟩ | ⟨rfl, rfl⟩ | ⟨rfl, rfl⟩ | ⟨rfl, rfl⟩ | ⟨rfl, rfl⟩
  · go_enter Try.func62, Try.ntmps62
    go_wp2; go_ret; exact ⟨rfl, rfl⟩
  · go_enter Try.func63, Try.ntmps63
    go_wp2; go_ret; exact ⟨rfl, rfl⟩
  · go_enter Try.func64, Try.ntmps64
    go_wp2; go_ret; exact ⟨rfl, rfl⟩
  · go_enter Try.func66, Try.ntmps66
    go_wp2; go_ret; exact ⟨rfl, rfl⟩
  · go_enter Try.func67, Try.ntmps67
    go_wp2; go_ret; exact ⟨rfl, rfl⟩
  · go_enter Try.func65, Try.ntmps65
    go_wp2; go_ret; exact ⟨rfl, rfl⟩
  · go_enter Try.func78, Try.ntmps78
    go_wp2; go_ret; exact ⟨rfl, rfl⟩

abbrev AccOf (k off : Nat) : Prop := (k = 62 ∧ off = 1) ∨ (k = 63 ∧ off = 2) ∨ (k = 64 ∧ off = 3) ∨ (k = 66 ∧ off = 4) ∨ (k = 67 ∧ off = 5) ∨ (k = 65 ∧ off = 6) ∨ (k = 78 ∧ off = 7)
theorem acc_enters (k off : Nat) (h : AccOf k off) (v : Value) (w : World) : (callFunc k #[v]).run Try.prog w = .ok (.enter k #[v]) w := by
  rcases h with ⟨rfl, rfl⟩ | ⟨rfl, rfl⟩ | ⟨rfl, rfl⟩ | ⟨rfl, rfl⟩ | ⟨rfl, rfl⟩ | ⟨rfl, rfl⟩ | ⟨rfl, rfl⟩ <;> kernel_rfl

/-- the test of a number -/
def okNum (a b n : Int) : Bool := decide (a ≤ n) && decide (n ≤ b)
/-- the test of a text -/
def okText (a b c : Int) (n : Nat) : Bool := decide (a ≤ (n : Int)) && decide ((n : Int) ≤ b) && decide ((n : Int) % c = 0)

theorem fn_ne (t : TypeId) (ht : t = 90 ∨ t = 91) (k : Nat) (w : World) : (binOp .neq t (.func (.func k) #[] #[]) .nilFunc).run Try.prog w = .ok (.bool true) w := by
  rcases ht with rfl | rfl <;> kernel_rfl
theorem nil_ne (w : World) : (binOp .neq 90 .nilFunc .nilFunc).run Try.prog w = .ok (.bool false) w := by kernel_rfl
set_option maxRecDepth 20000 in
theorem right_num (k off : Nat) (H : AccOf k off) (sz a b c n : Int) (g : Nat) (w : World) (hc : w.cell? ⟨g, off, none⟩ = some (.int .i64 n)) (hg : g < w.heap.size) :
    Calls Try.prog 40 #[.agg #[.int .i64 sz, .func (.func k) #[] #[], .nilFunc, .int .i64 a, .int .i64 b, .int .i64 c], .pointer (some ⟨g, 0, none⟩)] w fun e w' => e = .returned (.bool (okNum a b n)) ∧ Sub w w' := by
  have hen := acc_enters k off H
  have Hh := Lib.hid (acc_p k off H)
  have H := Lib.hid H
  have hf := fn_ne 90 (by decide)
  by_cases h1 : a ≤ n <;> by_cases h2 : n ≤ b <;>
  · go_enter Try.func40, Try.ntmps40
    go_wp2_with ((with_reducible refine (Hh.out _ _).mono ?_); rintro e w' ⟨rfl, rfl⟩)
    go_ret
    exact ⟨by simp [okNum, h1, h2], Sub.al (Below.refl _ _) _⟩

set_option maxRecDepth 20000 in
set_option maxHeartbeats 1000000 in
theorem right_text (k off : Nat) (H : AccOf k off) (sz a b c : Int) (s : ByteArray) (g : Nat) (w : World) (hc : w.cell? ⟨g, off, none⟩ = some (.string s)) (hg : g < w.heap.size) (hc0 : 0 < c) :
    Calls Try.prog 40 #[.agg #[.int .i64 sz, .nilFunc, .func (.func k) #[] #[], .int .i64 a, .int .i64 b, .int .i64 c], .pointer (some ⟨g, 0, none⟩)] w fun e w' => e = .returned (.bool (okText a b c s.size)) ∧ Sub w w' := by
  have hen := acc_enters k off H
  have Hh := Lib.hid (acc_p k off H)
  have H := Lib.hid H
  have hf := nil_ne
  have hcs : (¬ a ≤ (s.size : Int)) ∨ (a ≤ (s.size : Int) ∧ ¬ (s.size : Int) ≤ b) ∨ (a ≤ (s.size : Int) ∧ (s.size : Int) ≤ b ∧ ((s.size : Int) % c == 0) = false ∧ ¬ (s.size : Int) % c = 0) ∨ (a ≤ (s.size : Int) ∧ (s.size : Int) ≤ b ∧ ((s.size : Int) % c == 0) = true ∧ (s.size : Int) % c = 0) := by
    simp; omega
  rcases hcs with h1 | ⟨h1, h2⟩ | ⟨h1, h2, h3, h4⟩ | ⟨h1, h2, h3, h4⟩ <;>
  · go_enter Try.func40, Try.ntmps40
    go_wp2_with ((with_reducible refine (Hh.out _ _).mono ?_); rintro e w' ⟨rfl, rfl⟩)
    go_ret
    exact ⟨by simp [okText]; omega, Sub.al (Below.refl _ _) _⟩

end Go.Proofs.Ytdkfkdekiljcoaa
namespace Go.Proofs.Ytdkfkdekiljcoaa
open Go.RowKit

/-- A field of a message's form: where it lies in the message (1 to 5: a number, 6 and 7: a text), its accessor's number, its bounds. -/
structure F where
  size : Int
  k : Nat
  off : Nat
  lo : Int
  hi : Int
  st : Int
def F.cells (f : F) : List Value :=
  [.int .i64 f.size, if f.off ≤ 5 then .func (.func f.k) #[] #[] else .nilFunc, if f.off ≤ 5 then .nilFunc else .func (.func f.k) #[] #[], .int .i64 f.lo, .int .i64 f.hi, .int .i64 f.st]
def F4 (k off : Nat) : F := ⟨4, k, off, 0, 4294967295, 0⟩
def FLen : F := ⟨4, 64, 3, 1, 1024, 0⟩
def FRest (a b c : Int) : F := ⟨0, 78, 7, a, b, c⟩
def FRoot : F := ⟨32, 65, 6, 32, 32, 1⟩
def fsOne : List F := [F4 62 1]
def fsBlock : List F := [F4 62 1, F4 63 2, FLen]
def fsBits : List F := [FRest 0 512 1]
def fsPiece : List F := [F4 62 1, F4 63 2, FRest 1 1024 1]
def fsPort : List F := [⟨2, 62, 1, 1, 65535, 0⟩]
def fsExt : List F := [⟨1, 62, 1, 0, 255, 0⟩, FRest 0 4096 1]
def fsAsk : List F := [FRoot, F4 66 4, F4 62 1, F4 64 3, F4 67 5]
def fsHash : List F := fsAsk ++ [FRest 32 2048 32]
/-- The fields of a kind. -/
def fields : Nat → List F
  | 6 | 12 | 16 => fsOne
  | 7 => fsBits
  | 8 | 10 | 15 => fsBlock
  | 9 => fsPiece
  | 11 => fsPort
  | 17 => fsExt
  | 18 | 20 => fsAsk
  | 19 => fsHash
  | _ => []
/-- The number of a kind on the wire. -/
def numb : Nat → Int
  | 3 => 1 | 4 => 2 | 5 => 3 | 6 => 4 | 7 => 5 | 8 => 6 | 9 => 7 | 10 => 8 | 11 => 9 | 12 => 13 | 13 => 14 | 14 => 15 | 15 => 16 | 16 => 17 | 17 => 20 | 18 => 21 | 19 => 22 | 20 => 23
  | _ => 0
def cellsOf (fs : List F) : List Value := fs.flatMap F.cells
theorem len_cells (f : F) : f.cells.length = 6 := rfl
theorem len_cellsOf (fs : List F) : (cellsOf fs).length = fs.length * 6 := by
  induction fs with
  | nil => rfl
  | cons f fs ih => simp only [cellsOf, List.flatMap_cons, List.length_append, len_cells, List.length_cons] at *; omega
theorem cellsOf_at (fs : List F) (j i : Nat) (f : F) (h : fs[j]? = some f) (hi : i < 6) : (cellsOf fs)[j * 6 + i]? = f.cells[i]? := by
  induction fs generalizing j with
  | nil => simp at h
  | cons f' fs ih =>
    cases j with
    | zero => simp at h; subst h; simp only [cellsOf, List.flatMap_cons]; rw [List.getElem?_append_left (by rw [len_cells]; omega)]; simp
    | succ j =>
      simp at h
      have := ih j h
      simp only [cellsOf, List.flatMap_cons] at *
      rw [List.getElem?_append_right (by rw [len_cells]; omega), ← this]
      congr 1; rw [len_cells]; omega

/-- The values at a kind, out of the array of shapes. -/
theorem shapes_at {lo : Nat} {w : World} {v : Value} (h : Shapes lo w v) (k : Nat) (hk : k ≤ 20) :
    ∃ sl, (∀ w' : World, (Instr.index 88 v (.int .i64 k)).run Try.prog w' = .ok (.agg #[.int .i64 (numb k), sl]) w') ∧ Rd w lo w.heap.size 6 sl (cellsOf (fields k)) := by
  obtain ⟨o, b, a, bi, pi, po, ex, ha, rfl, ho, hb, hA, hbi, hpi, hpo, hex, hha⟩ := h
  have nil : Rd w lo w.heap.size 6 (.slice none 0 0) (cellsOf []) := Rd.nil _ _ _ _ _ _
  rcases (by omega : k = 0 ∨ k = 1 ∨ k = 2 ∨ k = 3 ∨ k = 4 ∨ k = 5 ∨ k = 6 ∨ k = 7 ∨ k = 8 ∨ k = 9 ∨ k = 10 ∨ k = 11 ∨ k = 12 ∨ k = 13 ∨ k = 14 ∨ k = 15 ∨ k = 16 ∨ k = 17 ∨ k = 18 ∨ k = 19 ∨ k = 20) with rfl | rfl | rfl | rfl | rfl | rfl | rfl | rfl | rfl | rfl | rfl | rfl | rfl | rfl | rfl | rfl | rfl | rfl | rfl | rfl | rfl
  · exact ⟨(.slice none 0 0), fun _ => by kernel_rfl, nil⟩
  · exact ⟨(.slice none 0 0), fun _ => by kernel_rfl, nil⟩
  · exact ⟨(.slice none 0 0), fun _ => by kernel_rfl, nil⟩
  · exact ⟨(.slice none 0 0), fun _ => by kernel_rfl, nil⟩
  · exact ⟨(.slice none 0 0), fun _ => by kernel_rfl, nil⟩
  · exact ⟨(.slice none 0 0), fun _ => by kernel_rfl, nil⟩
  · exact ⟨o, fun _ => by kernel_rfl, ho⟩
  · exact ⟨bi, fun _ => by kernel_rfl, hbi⟩
  · exact ⟨b, fun _ => by kernel_rfl, hb⟩
  · exact ⟨pi, fun _ => by kernel_rfl, hpi⟩
  · exact ⟨b, fun _ => by kernel_rfl, hb⟩
  · exact ⟨po, fun _ => by kernel_rfl, hpo⟩
  · exact ⟨o, fun _ => by kernel_rfl, ho⟩
  · exact ⟨(.slice none 0 0), fun _ => by kernel_rfl, nil⟩
  · exact ⟨(.slice none 0 0), fun _ => by kernel_rfl, nil⟩
  · exact ⟨b, fun _ => by kernel_rfl, hb⟩
  · exact ⟨o, fun _ => by kernel_rfl, ho⟩
  · exact ⟨ex, fun _ => by kernel_rfl, hex⟩
  · exact ⟨a, fun _ => by kernel_rfl, hA⟩
  · exact ⟨ha, fun _ => by kernel_rfl, hha⟩
  · exact ⟨a, fun _ => by kernel_rfl, hA⟩

def kindP (n : Int) : Nat := ((List.range 21).find? fun k => decide (1 < k) && numb k == n).getD 0
def NoKind (n : Int) (k : Nat) : Prop := ∀ j, 1 < j → j < k → numb j ≠ n
theorem NoKind.step {n : Int} {k : Nat} (h : NoKind n k) (hk : 1 < k → numb k ≠ n) : NoKind n (k + 1) := by
  intro j h1 h2
  rcases Nat.lt_or_ge j k with h3 | h3
  · exact h j h1 h3
  · obtain rfl : j = k := by omega
    exact hk h1

end Go.Proofs.Ytdkfkdekiljcoaa
namespace Go.Proofs.Ytdkfkdekiljcoaa
open Go.RowKit

structure F.Wf (f : F) : Prop where
  s0 : 0 ≤ f.size
  s32 : f.size ≤ 32
  rest : f.size = 0 → 0 < f.st ∧ 0 ≤ f.lo
  acc : AccOf f.k f.off
  txt : ¬ f.off ≤ 5 → 0 < f.st
def okRest (f : F) (n : Int) : Bool := decide (f.lo ≤ n) && decide (n ≤ f.hi) && decide (n % f.st = 0)
def mayP : List F → Int → Bool
  | [], n => n == 0
  | f :: rest, n => if rest = [] ∧ f.size = 0 then okRest f n else mayP rest (n - f.size)
def fnOf (f : F) : Value := .func (.func f.k) #[] #[]

/-- The six cells of a field in memory. -/
theorem six {w : World} {g o j : Nat} {fs : List F} {f : F} (hc : ∀ j u, (cellsOf fs)[j]? = some u → w.cell? ⟨g, o + j, none⟩ = some u) (h : fs[j]? = some f) :
    w.cell? ⟨g, o + j * 6, none⟩ = some (.int .i64 f.size) ∧ w.cell? ⟨g, o + j * 6 + 1, none⟩ = some (if f.off ≤ 5 then .func (.func f.k) #[] #[] else .nilFunc) ∧
    w.cell? ⟨g, o + j * 6 + 2, none⟩ = some (if f.off ≤ 5 then .nilFunc else .func (.func f.k) #[] #[]) ∧ w.cell? ⟨g, o + j * 6 + 3, none⟩ = some (.int .i64 f.lo) ∧
    w.cell? ⟨g, o + j * 6 + 4, none⟩ = some (.int .i64 f.hi) ∧ w.cell? ⟨g, o + j * 6 + 5, none⟩ = some (.int .i64 f.st) := by
  have e := fun i (hi : i < 6) => hc (j * 6 + i) _ (by rw [cellsOf_at fs j i f h hi]; exact List.getElem?_eq_getElem (by rw [len_cells]; exact hi))
  refine ⟨e 0 (by decide), ?_, ?_, ?_, ?_, ?_⟩ <;> rw [Nat.add_assoc]
  · exact e 1 (by decide)
  · exact e 2 (by decide)
  · exact e 3 (by decide)
  · exact e 4 (by decide)
  · exact e 5 (by decide)
/-- The same, the accessor's place decided. -/
theorem six' {w : World} {g o j : Nat} {fs : List F} {f : F} (hc : ∀ j u, (cellsOf fs)[j]? = some u → w.cell? ⟨g, o + j, none⟩ = some u) (h : fs[j]? = some f) :
    ∃ v1 v2, ((f.off ≤ 5 ∧ v1 = .func (.func f.k) #[] #[] ∧ v2 = .nilFunc) ∨ (¬ f.off ≤ 5 ∧ v1 = .nilFunc ∧ v2 = .func (.func f.k) #[] #[])) ∧
    w.cell? ⟨g, o + j * 6, none⟩ = some (.int .i64 f.size) ∧ w.cell? ⟨g, o + j * 6 + 1, none⟩ = some v1 ∧ w.cell? ⟨g, o + j * 6 + 2, none⟩ = some v2 ∧ w.cell? ⟨g, o + j * 6 + 3, none⟩ = some (.int .i64 f.lo) ∧
    w.cell? ⟨g, o + j * 6 + 4, none⟩ = some (.int .i64 f.hi) ∧ w.cell? ⟨g, o + j * 6 + 5, none⟩ = some (.int .i64 f.st) := by
  have e := six hc h
  by_cases hf : f.off ≤ 5
  · rw [if_pos hf, if_pos hf] at e; exact ⟨_, _, .inl ⟨hf, rfl, rfl⟩, e⟩
  · rw [if_neg hf, if_neg hf] at e; exact ⟨_, _, .inr ⟨hf, rfl, rfl⟩, e⟩

end Go.Proofs.Ytdkfkdekiljcoaa
namespace Go.Proofs.Ytdkfkdekiljcoaa
open Go.RowKit

/-- A message. -/
structure M where
  kind : Int
  i1 : Int
  i2 : Int
  i3 : Int
  i4 : Int
  i5 : Int
  root : ByteArray
  data : ByteArray
  deriving DecidableEq
def M.cells (m : M) : Array Value := #[.int .i64 m.kind, .int .i64 m.i1, .int .i64 m.i2, .int .i64 m.i3, .int .i64 m.i4, .int .i64 m.i5, .string m.root, .string m.data]
def M.num (m : M) : Nat → Int | 1 => m.i1 | 2 => m.i2 | 3 => m.i3 | 4 => m.i4 | _ => m.i5
def M.text (m : M) : Nat → ByteArray | 6 => m.root | _ => m.data
def M.setNum (m : M) (off : Nat) (x : Int) : M := match off with | 1 => { m with i1 := x } | 2 => { m with i2 := x } | 3 => { m with i3 := x } | 4 => { m with i4 := x } | _ => { m with i5 := x }
def M.setText (m : M) (off : Nat) (x : ByteArray) : M := match off with | 6 => { m with root := x } | _ => { m with data := x }
def rightP (f : F) (m : M) : Bool := if f.off ≤ 5 then okNum f.lo f.hi (m.num f.off) else okText f.lo f.hi f.st (m.text f.off).size
def M.zero (m : M) (f : F) : M := if f.off ≤ 5 then m.setNum f.off 0 else m.setText f.off ⟨#[]⟩
def M.only (k : Int) : M := ⟨k, 0, 0, 0, 0, 0, ⟨#[]⟩, ⟨#[]⟩⟩
def validP (m : M) : Bool :=
  decide (1 ≤ m.kind) && decide (m.kind ≤ 20) && (fields m.kind.toNat).all (rightP · m) && decide ((fields m.kind.toNat).foldl M.zero m = M.only m.kind)

theorem bytes_eq (a b : ByteArray) : (a.toList == b.toList) = decide (a = b) := by
  rw [Bool.eq_iff_iff]
  simp only [beq_iff_eq, decide_eq_true_eq, ByteArray.toList_eq]
  exact ⟨fun h => ByteArray.ext (Array.toList_inj.mp h), fun h => by rw [h]⟩
theorem bytes_ne {a b : ByteArray} (h : ¬ a = b) : (a.toList == b.toList) = false := by rw [bytes_eq]; simp [h]

theorem eqg33 : Try.prog.eqGuardType Try.prog.depth 33 = false := by kernel_rfl
theorem msg_eql (a b : M) (w : World) : (binOp .eql 33 (.agg a.cells) (.agg b.cells)).run Try.prog w = .ok (.bool (decide (a = b))) w := by
  obtain ⟨ak, a1, a2, a3, a4, a5, ar, ad⟩ := a
  obtain ⟨bk, b1, b2, b3, b4, b5, br, bd⟩ := b
  by_cases h0 : ak = bk
  · subst h0
    by_cases h1 : a1 = b1
    · subst h1
      by_cases h2 : a2 = b2
      · subst h2
        by_cases h3 : a3 = b3
        · subst h3
          by_cases h4 : a4 = b4
          · subst h4
            by_cases h5 : a5 = b5
            · subst h5
              by_cases h6 : ar = br
              · subst h6
                by_cases h7 : ad = bd
                · subst h7; simp [M.cells, go_sem]
                · have := bytes_ne h7; simp [M.cells, go_sem, h7, this]
              · have := bytes_ne h6; simp [M.cells, go_sem, h6, this]
            · simp [M.cells, go_sem, h5]
          · simp [M.cells, go_sem, h4]
        · simp [M.cells, go_sem, h3]
      · simp [M.cells, go_sem, h2]
    · simp [M.cells, go_sem, h1]
  · simp [M.cells, go_sem, h0]
theorem off_num {f : F} (h : f.Wf) (hf : f.off ≤ 5) : f.off = 1 ∨ f.off = 2 ∨ f.off = 3 ∨ f.off = 4 ∨ f.off = 5 := by
  rcases h.acc with ⟨_, e⟩ | ⟨_, e⟩ | ⟨_, e⟩ | ⟨_, e⟩ | ⟨_, e⟩ | ⟨_, e⟩ | ⟨_, e⟩ <;> omega
theorem off_text {f : F} (h : f.Wf) (hf : ¬ f.off ≤ 5) : f.off = 6 ∨ f.off = 7 := by
  rcases h.acc with ⟨_, e⟩ | ⟨_, e⟩ | ⟨_, e⟩ | ⟨_, e⟩ | ⟨_, e⟩ | ⟨_, e⟩ | ⟨_, e⟩ <;> omega
theorem cells_num (m : M) {f : F} (h : f.Wf) (hf : f.off ≤ 5) : m.cells[f.off]? = some (.int .i64 (m.num f.off)) := by
  rcases off_num h hf with e | e | e | e | e <;> rw [e] <;> rfl
theorem cells_text (m : M) {f : F} (h : f.Wf) (hf : ¬ f.off ≤ 5) : m.cells[f.off]? = some (.string (m.text f.off)) := by
  rcases off_text h hf with e | e <;> rw [e] <;> rfl
theorem set_num (m : M) {f : F} (h : f.Wf) (hf : f.off ≤ 5) (x : Int) : m.cells.setIfInBounds f.off (.int .i64 x) = (m.setNum f.off x).cells := by
  rcases off_num h hf with e | e | e | e | e <;> rw [e] <;> rfl
theorem set_text (m : M) {f : F} (h : f.Wf) (hf : ¬ f.off ≤ 5) (x : ByteArray) : m.cells.setIfInBounds f.off (.string x) = (m.setText f.off x).cells := by
  rcases off_text h hf with e | e <;> rw [e] <;> rfl

theorem fields_wf (k : Nat) : ∀ f ∈ fields k, f.Wf := by
  have h4 : ∀ k off, AccOf k off ∧ off ≤ 5 → (F4 k off).Wf := fun k off h => ⟨by simp [F4], by simp [F4], by simp [F4], h.1, fun hh => absurd h.2 hh⟩
  have hL : FLen.Wf := ⟨by simp [FLen], by simp [FLen], by simp [FLen], by simp [FLen, AccOf], by simp [FLen]⟩
  have hR : FRoot.Wf := ⟨by simp [FRoot], by simp [FRoot], by simp [FRoot], by simp [FRoot, AccOf], by simp [FRoot]⟩
  have hr : ∀ a b c, 0 < c → 0 ≤ a → (FRest a b c).Wf := fun a b c h h' => ⟨by simp [FRest], by simp [FRest], fun _ => ⟨h, h'⟩, by simp [FRest, AccOf], fun _ => h⟩
  have hAsk : ∀ f ∈ fsAsk, f.Wf := by
    intro f hf
    simp only [fsAsk, List.mem_cons, List.not_mem_nil, or_false] at hf
    rcases hf with rfl | rfl | rfl | rfl | rfl
    · exact hR
    all_goals exact h4 _ _ (by decide)
  have hB : ∀ f ∈ fsBlock, f.Wf := by
    intro f hf
    simp only [fsBlock, List.mem_cons, List.not_mem_nil, or_false] at hf
    rcases hf with rfl | rfl | rfl
    · exact h4 _ _ (by decide)
    · exact h4 _ _ (by decide)
    · exact hL
  have hO : ∀ f ∈ fsOne, f.Wf := by
    intro f hf
    simp only [fsOne, List.mem_cons, List.not_mem_nil, or_false] at hf
    subst hf
    exact h4 _ _ (by decide)
  intro f hf
  unfold fields at hf
  split at hf
  · exact hO f hf
  · exact hO f hf
  · exact hO f hf
  · simp only [fsBits, List.mem_cons, List.not_mem_nil, or_false] at hf; subst hf; exact hr _ _ _ (by decide) (by decide)
  · exact hB f hf
  · exact hB f hf
  · exact hB f hf
  · simp only [fsPiece, List.mem_cons, List.not_mem_nil, or_false] at hf
    rcases hf with rfl | rfl | rfl
    · exact h4 _ _ (by decide)
    · exact h4 _ _ (by decide)
    · exact hr _ _ _ (by decide) (by decide)
  · simp only [fsPort, List.mem_cons, List.not_mem_nil, or_false] at hf; subst hf; exact ⟨by simp, by simp, by simp, by simp [AccOf], by simp⟩
  · simp only [fsExt, List.mem_cons, List.not_mem_nil, or_false] at hf
    rcases hf with rfl | rfl
    · exact ⟨by simp, by simp, by simp, by simp [AccOf], by simp⟩
    · exact hr _ _ _ (by decide) (by decide)
  · exact hAsk f hf
  · exact hAsk f hf
  · simp only [fsHash, List.mem_append, List.mem_cons, List.not_mem_nil, or_false] at hf
    rcases hf with hf | rfl
    · exact hAsk f hf
    · exact hr _ _ _ (by decide) (by decide)
  · cases hf
theorem fields_len (k : Nat) : (fields k).length ≤ 6 := by
  unfold fields
  split <;> decide


/-- The values at a kind, its fields' slice taken apart. -/
theorem shapes_at' {lo : Nat} {w : World} {v : Value} (h : Shapes lo w v) (k : Nat) (hk : k ≤ 20) :
    ∃ A c, (∀ w' : World, (Instr.index 88 v (.int .i64 k)).run Try.prog w' = .ok (.agg #[.int .i64 (numb k), .slice A (fields k).length c]) w') ∧
      Hid (0 < (fields k).length → ∃ g o, A = some ⟨g, o, none⟩ ∧ (lo ≤ g ∧ g < w.heap.size) ∧ ∀ j u, (cellsOf (fields k))[j]? = some u → w.cell? ⟨g, o + j, none⟩ = some u) := by
  obtain ⟨sl, hix, A, n, c, rfl, hl, hn, hc⟩ := shapes_at h k hk
  rw [len_cellsOf] at hl
  obtain rfl : n = (fields k).length := by omega
  exact ⟨A, c, hix, hc⟩

theorem field_fields (x1 : Int) (A : Option Addr) (n c : Nat) (w : World) : (Instr.field 87 (.agg #[.int .i64 x1, .slice A n c]) 1).run Try.prog w = .ok (.slice A n c) w := by kernel_rfl

theorem all_false {fs : List F} {j : Nat} {f : F} {m : M} (h : fs[j]? = some f) (hr : rightP f m = false) : fs.all (rightP · m) = false := by
  rw [List.all_eq_false]
  exact ⟨f, List.mem_of_getElem? h, by simp [hr]⟩
theorem take_snoc' {fs : List F} {j : Nat} {f : F} (h : fs[j]? = some f) : fs.take (j + 1) = fs.take j ++ [f] := by
  rw [List.take_add_one, h]; rfl
theorem all_snoc {fs : List F} {j : Nat} {f : F} {m : M} (h : fs[j]? = some f) (ha : (fs.take j).all (rightP · m) = true) (hr : rightP f m = true) : (fs.take (j + 1)).all (rightP · m) = true := by
  rw [take_snoc' h, List.all_append, ha]; simp [hr]
theorem fold_snoc {fs : List F} {j : Nat} {f : F} {m : M} (h : fs[j]? = some f) : (fs.take (j + 1)).foldl M.zero m = M.zero ((fs.take j).foldl M.zero m) f := by
  rw [take_snoc' h, List.foldl_append]; rfl

def validEq (a b : M) : Bool := a.kind == b.kind && (a.i1 == b.i1 && (a.i2 == b.i2 && (a.i3 == b.i3 && (a.i4 == b.i4 && (a.i5 == b.i5 && (a.root.toList == b.root.toList && a.data.toList == b.data.toList))))))

set_option maxRecDepth 20000 in
set_option maxHeartbeats 2000000 in
theorem valid_p (m : M) (w : World) : Calls Try.prog 28 #[.agg m.cells] w fun e w' => e = .returned (.bool (validP m)) ∧ Sub w w' := by
  by_cases hk : 1 ≤ m.kind ∧ m.kind ≤ 20
  · obtain ⟨kind, i1, i2, i3, i4, i5, root, data⟩ := m
    obtain ⟨hk1, hk2⟩ := hk
    simp only at hk1 hk2
    obtain ⟨k, rfl⟩ := Int.eq_ofNat_of_zero_le (by omega : 0 ≤ kind)
    unfold M.cells
    simp only
    go_enter Try.func28, Try.ntmps28
    go_wp2_with fail
    have hB1 := (Blk.new w 33 #[.int .i64 k, .int .i64 i1, .int .i64 i2, .int .i64 i3, .int .i64 i4, .int .i64 i5, .string root, .string data]).alloc (.cells #[.int .i64 k, .int .i64 i1, .int .i64 i2, .int .i64 i3, .int .i64 i4, .int .i64 i5, .string root, .string data] 33)
    have hB3 := Blk.new (w.alloc (.cells #[.int .i64 k, .int .i64 i1, .int .i64 i2, .int .i64 i3, .int .i64 i4, .int .i64 i5, .string root, .string data] 33)) 33 #[.int .i64 k, .int .i64 i1, .int .i64 i2, .int .i64 i3, .int .i64 i4, .int .i64 i5, .string root, .string data]
    rw [World.size_alloc] at hB3
    have hsub0 : Sub w ((w.alloc (.cells #[.int .i64 k, .int .i64 i1, .int .i64 i2, .int .i64 i3, .int .i64 i4, .int .i64 i5, .string root, .string data] 33)).alloc (.cells #[.int .i64 k, .int .i64 i1, .int .i64 i2, .int .i64 i3, .int .i64 i4, .int .i64 i5, .string root, .string data] 33)) := Sub.al (Sub.al Sub.rfl' _) _
    generalize (w.alloc (.cells #[.int .i64 k, .int .i64 i1, .int .i64 i2, .int .i64 i3, .int .i64 i4, .int .i64 i5, .string root, .string data] 33)).alloc (.cells #[.int .i64 k, .int .i64 i1, .int .i64 i2, .int .i64 i3, .int .i64 i4, .int .i64 i5, .string root, .string data] 33) = W0 at hB1 hB3 hsub0 ⊢
    have hc0 : W0.cell? ⟨w.heap.size, 0, none⟩ = some (.int .i64 (k : Int)) := by rw [hB1.cell]; rfl
    have hlt := hB1.lt
    have hfl := field_fields
    have H1 := Lib.hid hB1; clear hB1
    have H3 := Lib.hid hB3; clear hB3
    have H0 := Lib.hid hsub0; clear hsub0
    go_region_held3 (fun w' => w'.cell? ⟨w.heap.size, 0, none⟩ = some (.int .i64 (k : Int))) (first | exact hc0 | exact (hb.cells.1 _ _ hlt).trans hc0) (first | (go_at_call 39; refine (shapes_p _).mono ?_; rintro e w1 ⟨v, rfl, hs, hb⟩; obtain ⟨A, c, hix, Hc⟩ := shapes_at' hs k (by omega)))
    have hb := hb.undrew
    have hG1 := H1.out.sub hb
    have hG3 := H3.out.sub hb
    have hS := H0.out.tr hb
    have hz2 : w.heap.size + 2 ≤ W0.heap.size := H3.out.lt
    have hix := True.intro
    clear hs
    have hw := fields_wf k
    have hlen := fields_len k
    have hval : ∀ m : M, m.kind = k → validP m = ((fields k).all (rightP · m) && decide ((fields k).foldl M.zero m = M.only k)) := by
      intro m hm
      simp only [validP, hm, Int.toNat_natCast]
      simp [hk1, hk2]
    have hv := hval ⟨k, i1, i2, i3, i4, i5, root, data⟩ rfl
    clear hval
    generalize fields k = fs at *
    obtain ⟨m, hm⟩ : ∃ m : M, m = ⟨k, i1, i2, i3, i4, i5, root, data⟩ := ⟨_, rfl⟩
    have hmk : m.kind = k := by rw [hm]
    have hc : #[.int .i64 (k : Int), .int .i64 i1, .int .i64 i2, .int .i64 i3, .int .i64 i4, .int .i64 i5, .string root, .string data] = m.cells := by rw [hm]; rfl
    rw [← hm] at hv
    rw [hc] at hG1 hG3
    have HV := Lib.hid (And.intro hv (And.intro hmk hm)); clear hv hmk hm hc
    have Hw := Lib.hid hw; clear hw
    have HG1 := Lib.hid hG1; clear hG1
    have HG3 := Lib.hid hG3; clear hG3
    have HS := Lib.hid hS; clear hS
    have Hb := Lib.hid hb; clear hb
    have hc0 := True.intro
    go_wp2_with fail
    go_loopw [21] (fun i wr => ∃ j : Nat, j ≤ fs.length ∧ i = .int .i64 j ∧ (fs.take j).all (rightP · m) = true ∧ Blk wr w.heap.size 33 m.cells ∧ Blk wr (w.heap.size + 1) 33 ((fs.take j).foldl M.zero m).cells ∧ w1.grownBy wr (some (w.heap.size + 1))) (fun i _ => fs.length - (intOf i).toNat)
    case atStart => exact ⟨0, Nat.zero_le _, rfl, rfl, HG1.out, HG3.out, grown_rfl _ _⟩
    case round =>
      obtain ⟨j, hj, rfl, hall, hr1, hr3, hgr⟩ := hrel
      have Hall := Lib.hid hall; clear hall
      have HR1 := Lib.hid hr1; clear hr1
      have HR3 := Lib.hid hr3; clear hr3
      have Hgr := Lib.hid hgr; clear hgr
      by_cases hltj : j < fs.length
      · obtain ⟨g, o, rfl, hg, hc⟩ := Hc.out (by omega)
        obtain ⟨f, hf⟩ : ∃ f, fs[j]? = some f := ⟨_, List.getElem?_eq_getElem hltj⟩
        have hwf := Hw.out f (List.mem_of_getElem? hf)
        obtain ⟨v1, v2, hv, c0, c1, c2, c3, c4, c5⟩ := six' hc hf
        clear hc
        have hs := grown_cell Hgr.out g
        have hdr : W0.drew.heap.size = W0.heap.size := rfl
        have hgne : g ≠ w.heap.size + 1 := by omega
        rw [← hs _ hg.2 hgne] at c0 c1 c2 c3 c4 c5
        clear hdr
        clear hs
        have Hf := Lib.hid hf; clear hf
        have hlr := HR3.out.lt
        rcases hv with ⟨hoff, rfl, rfl⟩ | ⟨hoff, rfl, rfl⟩
        · have hcell : wr.cell? ⟨w.heap.size, f.off, none⟩ = some (.int .i64 (m.num f.off)) := by rw [HR1.out.cell]; exact cells_num m hwf hoff
          have hcell3 : wr.cell? ⟨w.heap.size + 1, f.off, none⟩ = some (.int .i64 (((fs.take j).foldl M.zero m).num f.off)) := by rw [HR3.out.cell]; exact cells_num _ hwf hoff
          have hfr3 := HR3.out.frozen f.off
          have hacc := acc_p f.k f.off hwf.acc
          have hen := acc_enters f.k f.off hwf.acc
          have Hacc := Lib.hid hacc; clear hacc
          have hfne := fn_ne 90 (by decide)
          have Hwf := Lib.hid hwf; clear hwf
          go_wp2_with fail
          refine (right_num f.k f.off Hwf.out.acc _ _ _ _ _ _ _ ((World.cell?_alloc_past _ _ _ (by omega)).trans hcell) (by simp; omega)).mono ?_
          rintro e w2 ⟨rfl, hb2⟩
          have hB5 := (Blk.new wr 93 #[.int .i64 f.size, .func (.func f.k) #[] #[], .nilFunc, .int .i64 f.lo, .int .i64 f.hi, .int .i64 f.st]).sub hb2
          have hB3 := (HR3.out.alloc (.cells #[.int .i64 f.size, .func (.func f.k) #[] #[], .nilFunc, .int .i64 f.lo, .int .i64 f.hi, .int .i64 f.st] 93)).sub hb2
          have hB1 := (HR1.out.alloc (.cells #[.int .i64 f.size, .func (.func f.k) #[] #[], .nilFunc, .int .i64 f.lo, .int .i64 f.hi, .int .i64 f.st] 93)).sub hb2
          have hgr2 := grown_sub (grown_al Hgr.out (.cells #[.int .i64 f.size, .func (.func f.k) #[] #[], .nilFunc, .int .i64 f.lo, .int .i64 f.hi, .int .i64 f.st] 93)) hb2
          clear c0 c1 c2 c3 c4 c5 hcell hcell3 hfr3 hb2
          have d1 : w2.cell? ⟨wr.heap.size, 1, none⟩ = some (.func (.func f.k) #[] #[]) := by rw [hB5.cell]; rfl
          have d3 : w2.cell? ⟨w.heap.size + 1, f.off, none⟩ = some (.int .i64 (((fs.take j).foldl M.zero m).num f.off)) := by rw [hB3.cell]; exact cells_num _ Hwf.out hoff
          have df := hB3.frozen f.off
          have hset := hB3.set_ f.off (.int .i64 0)
          rw [set_num _ Hwf.out hoff] at hset
          have HB := Lib.hid (And.intro hset (And.intro (hB1.far (p := ⟨w.heap.size + 1, f.off, none⟩) (by simp) (.int .i64 0)) (grown_set hgr2 f.off (.int .i64 0))))
          have HBx := Lib.hid (And.intro hB1 hgr2)
          clear hB5 hB3 hB1 hgr2 hset
          have hrp : rightP f m = okNum f.lo f.hi (m.num f.off) := by simp [rightP, hoff]
          have hz : M.zero ((fs.take j).foldl M.zero m) f = ((fs.take j).foldl M.zero m).setNum f.off 0 := by simp [M.zero, hoff]
          have Hz := Lib.hid hz; clear hz
          cases hr : okNum f.lo f.hi (m.num f.off)
          · rw [hr] at hrp
            have Hrp := Lib.hid hrp; clear hrp hr
            go_wp2_with fail
            go_ret
            refine ⟨?_, sub_grown HS.out HBx.out.2 (by omega)⟩
            rw [← HV.out.2.2, HV.out.1, all_false Hf.out Hrp.out]; rfl
          · rw [hr] at hrp
            have Hrp := Lib.hid hrp; clear hrp hr
            go_wp2_with ((with_reducible refine (Hacc.out _ _).mono ?_); rintro e w' ⟨rfl, rfl⟩)
            go_roundw
            case rel => exact ⟨j + 1, by omega, by go_num, all_snoc Hf.out Hall.out Hrp.out, HB.out.2.1, by rw [fold_snoc Hf.out, Hz.out]; exact HB.out.1, HB.out.2.2⟩
            case measure => simp [intOf]; omega
        · have hcell : wr.cell? ⟨w.heap.size, f.off, none⟩ = some (.string (m.text f.off)) := by rw [HR1.out.cell]; exact cells_text m hwf hoff
          have hcell3 : wr.cell? ⟨w.heap.size + 1, f.off, none⟩ = some (.string (((fs.take j).foldl M.zero m).text f.off)) := by rw [HR3.out.cell]; exact cells_text _ hwf hoff
          have hfr3 := HR3.out.frozen f.off
          have hacc := acc_p f.k f.off hwf.acc
          have hen := acc_enters f.k f.off hwf.acc
          have Hacc := Lib.hid hacc; clear hacc
          have hfne := nil_ne
          have Hwf := Lib.hid hwf; clear hwf
          have hst0 : 0 < f.st := Hwf.out.txt hoff
          go_wp2_with fail
          refine (right_text f.k f.off Hwf.out.acc _ _ _ _ _ _ _ ((World.cell?_alloc_past _ _ _ (by omega)).trans hcell) (by simp; omega) (hst0)).mono ?_
          rintro e w2 ⟨rfl, hb2⟩
          have hB5 := (Blk.new wr 93 #[.int .i64 f.size, .nilFunc, .func (.func f.k) #[] #[], .int .i64 f.lo, .int .i64 f.hi, .int .i64 f.st]).sub hb2
          have hB3 := (HR3.out.alloc (.cells #[.int .i64 f.size, .nilFunc, .func (.func f.k) #[] #[], .int .i64 f.lo, .int .i64 f.hi, .int .i64 f.st] 93)).sub hb2
          have hB1 := (HR1.out.alloc (.cells #[.int .i64 f.size, .nilFunc, .func (.func f.k) #[] #[], .int .i64 f.lo, .int .i64 f.hi, .int .i64 f.st] 93)).sub hb2
          have hgr2 := grown_sub (grown_al Hgr.out (.cells #[.int .i64 f.size, .nilFunc, .func (.func f.k) #[] #[], .int .i64 f.lo, .int .i64 f.hi, .int .i64 f.st] 93)) hb2
          clear c0 c1 c2 c3 c4 c5 hcell hcell3 hfr3 hb2
          have d1 : w2.cell? ⟨wr.heap.size, 2, none⟩ = some (.func (.func f.k) #[] #[]) := by rw [hB5.cell]; rfl
          have d1b : w2.cell? ⟨wr.heap.size, 1, none⟩ = some .nilFunc := by rw [hB5.cell]; rfl
          have d3 : w2.cell? ⟨w.heap.size + 1, f.off, none⟩ = some (.string (((fs.take j).foldl M.zero m).text f.off)) := by rw [hB3.cell]; exact cells_text _ Hwf.out hoff
          have df := hB3.frozen f.off
          have hset := hB3.set_ f.off (.string ⟨#[]⟩)
          rw [set_text _ Hwf.out hoff] at hset
          have HB := Lib.hid (And.intro hset (And.intro (hB1.far (p := ⟨w.heap.size + 1, f.off, none⟩) (by simp) (.string ⟨#[]⟩)) (grown_set hgr2 f.off (.string ⟨#[]⟩))))
          have HBx := Lib.hid (And.intro hB1 hgr2)
          clear hB5 hB3 hB1 hgr2 hset
          have hrp : rightP f m = okText f.lo f.hi f.st (m.text f.off).size := by simp [rightP, hoff]
          have hz : M.zero ((fs.take j).foldl M.zero m) f = ((fs.take j).foldl M.zero m).setText f.off ⟨#[]⟩ := by simp [M.zero, hoff]
          have Hz := Lib.hid hz; clear hz
          cases hr : okText f.lo f.hi f.st (m.text f.off).size
          · rw [hr] at hrp
            have Hrp := Lib.hid hrp; clear hrp hr
            go_wp2_with fail
            go_ret
            refine ⟨?_, sub_grown HS.out HBx.out.2 (by omega)⟩
            rw [← HV.out.2.2, HV.out.1, all_false Hf.out Hrp.out]; rfl
          · rw [hr] at hrp
            have Hrp := Lib.hid hrp; clear hrp hr
            go_wp2_with ((with_reducible refine (Hacc.out _ _).mono ?_); rintro e w' ⟨rfl, rfl⟩)
            go_roundw
            case rel => exact ⟨j + 1, by omega, by go_num, all_snoc Hf.out Hall.out Hrp.out, HB.out.2.1, by rw [fold_snoc Hf.out, Hz.out]; exact HB.out.1, HB.out.2.2⟩
            case measure => simp [intOf]; omega
      · obtain rfl : j = fs.length := by omega
        have hfin : validP m = decide (fs.foldl M.zero m = M.only k) := by
          have h := Hall.out
          rw [List.take_length] at h
          rw [HV.out.1, h]; rfl
        have hb3 := HR3.out
        rw [List.take_length] at hb3
        have hck : wr.cell? ⟨w.heap.size, 0, none⟩ = some (.int .i64 (k : Int)) := by rw [HR1.out.cell, ← HV.out.2.1]; rfl
        have hltr := hb3.lt
        generalize fs.foldl M.zero m = p at hfin hb3
        have Hfin := Lib.hid hfin; clear hfin
        obtain ⟨pk, p1, p2, p3, p4, p5, pr, pd⟩ := p
        have e0 : wr.cell? ⟨w.heap.size + 1, 0, none⟩ = some (.int .i64 pk) := by rw [hb3.cell]; rfl
        have e1 : wr.cell? ⟨w.heap.size + 1, 1, none⟩ = some (.int .i64 p1) := by rw [hb3.cell]; rfl
        have e2 : wr.cell? ⟨w.heap.size + 1, 2, none⟩ = some (.int .i64 p2) := by rw [hb3.cell]; rfl
        have e3 : wr.cell? ⟨w.heap.size + 1, 3, none⟩ = some (.int .i64 p3) := by rw [hb3.cell]; rfl
        have e4 : wr.cell? ⟨w.heap.size + 1, 4, none⟩ = some (.int .i64 p4) := by rw [hb3.cell]; rfl
        have e5 : wr.cell? ⟨w.heap.size + 1, 5, none⟩ = some (.int .i64 p5) := by rw [hb3.cell]; rfl
        have e6 : wr.cell? ⟨w.heap.size + 1, 6, none⟩ = some (.string pr) := by rw [hb3.cell]; rfl
        have e7 : wr.cell? ⟨w.heap.size + 1, 7, none⟩ = some (.string pd) := by rw [hb3.cell]; rfl
        clear hb3
        generalize hdd : decide ((⟨pk, p1, p2, p3, p4, p5, pr, pd⟩ : M) = ⟨k, 0, 0, 0, 0, 0, ⟨#[]⟩, ⟨#[]⟩⟩) = dd
        have Hdd := Lib.hid hdd; clear hdd
        go_wp2_with (refine wpList_eq_agg rfl .eql 33 (.tmp 40) (.tmp 43) 33 rfl _ _ rfl rfl eqg33 dd (by rw [← Hdd.out]; exact msg_eql ⟨pk, p1, p2, p3, p4, p5, pr, pd⟩ (M.only k) _) ?_)
        go_ret
        refine ⟨?_, sub_grown HS.out Hgr.out (by omega)⟩
        rw [← HV.out.2.2, Hfin.out]
        exact congrArg (fun b => Ending.returned (.bool b)) Hdd.out.symm
  · have hv : validP m = false := by
      simp only [validP]
      by_cases h1 : 1 ≤ m.kind
      · have h2 : ¬ m.kind ≤ 20 := fun h => hk ⟨h1, h⟩
        simp [h2]
      · simp [h1]
    rw [hv]
    obtain ⟨kind, i1, i2, i3, i4, i5, root, data⟩ := m
    simp only at hk
    unfold M.cells
    simp only
    have hcs : kind < 1 ∨ (¬ kind < 1 ∧ 20 < kind) := by omega
    clear hv
    rcases hcs with h1 | ⟨h1, h2⟩
    all_goals
      go_enter Try.func28, Try.ntmps28
      go_wp2_with fail
      go_ret
      exact ⟨rfl, Sub.al Sub.rfl' _⟩
end Go.Proofs.Ytdkfkdekiljcoaa
namespace Go.Proofs.Ytdkfkdekiljcoaa
open Go.RowKit

def byteCells (l : List UInt8) : List Value := l.map fun b => Value.int .u8 b.toNat
def beByte (n : Int) (k : Nat) : UInt8 := UInt8.ofNat ((n.toNat / 2 ^ (8 * k)) % 256)
/-- The bytes of a number, the highest first. -/
def be (size : Nat) (n : Int) : List UInt8 := (List.range size).map fun i => beByte n (size - 1 - i)
def encF (f : F) (m : M) : List UInt8 := if f.off ≤ 5 then be f.size.toNat (m.num f.off) else (m.text f.off).data.toList
def encBody (m : M) : List UInt8 := UInt8.ofNat (numb m.kind.toNat).toNat :: (fields m.kind.toNat).flatMap (encF · m)
def encP (m : M) : List UInt8 :=
  if m.kind = 1 then [0, 0, 0, 0] else [0, 0, UInt8.ofNat ((encBody m).length / 256 % 256), UInt8.ofNat ((encBody m).length % 256)] ++ encBody m

/-- What the numbers and texts of a form are, in numbers: checked for each kind. -/
def F.ok (f : F) : Bool := if f.off ≤ 5 then (f.size == 1 || f.size == 2 || f.size == 4) && f.lo ≥ 0 && f.hi ≤ 4294967295 else f.lo ≥ 0 && f.hi ≤ 4096
/-- What is written behind j fields. -/
def outTo (nk : Int) (m : M) (fs : List F) (j : Nat) : List UInt8 := [0, 0, 0, 0, UInt8.ofNat nk.toNat] ++ (fs.take j).flatMap (encF · m)
/-- The bytes that were written so far: an own row; nothing else has turned since wc. -/
def OutIs (wc wr : World) (v : Value) (l : List UInt8) : Prop := wr.ownsRow wc.heap.size 5 1 v l.length (byteCells l) ∧ Sub wc wr
end Go.Proofs.Ytdkfkdekiljcoaa
namespace Go.Proofs.Ytdkfkdekiljcoaa
open Go.RowKit

/-- What Encode answers. -/
def encR (m : M) : List UInt8 × Int := if validP m then (encP m, 0) else ([], 1)

end Go.Proofs.Ytdkfkdekiljcoaa
namespace Go.Proofs.Ytdkfkdekiljcoaa
open Go.RowKit

/-- A handshake. -/
structure Hs where
  e : Bool
  f : Bool
  n : Bool
  name : ByteArray
  peer : ByteArray
  deriving DecidableEq
def Hs.cells (h : Hs) : Array Value := #[.bool h.e, .bool h.f, .bool h.n, .string h.name, .string h.peer]
def greeting : List UInt8 := [19, 99, 111, 118, 101, 121, 32, 112, 101, 101, 114, 32, 112, 114, 111, 116, 111, 99, 111, 108]
def validH (h : Hs) : Bool := decide (h.name.size = 20) && decide (h.peer.size = 20)
def flag7 (f n : Bool) : UInt8 := (if f then 4 else 0) + (if n then 16 else 0)
def helloB (h : Hs) : List UInt8 := greeting ++ [0, 0, 0, 0, 0, if h.e then 16 else 0, 0, flag7 h.f h.n] ++ h.name.data.toList ++ h.peer.data.toList
def helloR (h : Hs) : List UInt8 × Int := if validH h then (helloB h, 0) else ([], 1)

end Go.Proofs.Ytdkfkdekiljcoaa
namespace Go.Proofs.Ytdkfkdekiljcoaa
open Go.RowKit

/-- The byte at a place, 0 behind the end. -/
def bt (s : ByteArray) (i : Nat) : Nat := (s.data.toList[i]?.getD 0).toNat
def goodH (i c : Nat) : Bool :=
  if i < 20 then c == (greeting[i]?.getD 0).toNat else if i = 25 then c == 0 || c == 16 else if i = 27 then c == 0 || c == 4 || c == 16 || c == 20 else c == 0
def GoodTo (s : ByteArray) (k : Nat) : Prop := ∀ j, j < k → goodH j (bt s j) = true
def mayB : Nat → Int | 5 => 16 | 7 => 20 | _ => 0
def Hs.zero : Hs := ⟨false, false, false, ⟨#[]⟩, ⟨#[]⟩⟩
def badAt (s : ByteArray) : Option Nat := (List.range (min s.size 28)).find? fun i => !goodH i (bt s i)
def gotH (s : ByteArray) : Hs := ⟨bt s 25 == 16, bt s 27 == 4 || bt s 27 == 20, bt s 27 == 16 || bt s 27 == 20, s.extract 28 48, s.extract 48 68⟩
def readR (s : ByteArray) : Hs × Int × Int × Int :=
  if 65536 < s.size then (Hs.zero, 0, 0, 3) else
  match badAt s with
  | some i => (Hs.zero, 0, i, 12)
  | none => if s.size < 68 then (Hs.zero, 0, s.size, 8) else (gotH s, 68, -1, 0)
def mayCells : Array Value := #[.int .u8 0, .int .u8 0, .int .u8 0, .int .u8 0, .int .u8 0, .int .u8 16, .int .u8 0, .int .u8 20]
end Go.Proofs.Ytdkfkdekiljcoaa
namespace Go.Proofs.Ytdkfkdekiljcoaa
open Go.RowKit

end Go.Proofs.Ytdkfkdekiljcoaa
namespace Go.Proofs.Ytdkfkdekiljcoaa
open Go.RowKit

/-! The plain law: a handshake that was written is read back. -/
def p28 (e f n : Bool) : List UInt8 := greeting ++ [0, 0, 0, 0, 0, if e then 16 else 0, 0, flag7 f n]
end Go.Proofs.Ytdkfkdekiljcoaa
namespace Go.Proofs.Ytdkfkdekiljcoaa
open Go.RowKit

end Go.Proofs.Ytdkfkdekiljcoaa
namespace Go.Proofs.Ytdkfkdekiljcoaa
open Go.RowKit

def wordR (n : Int) : Bool := decide (0 ≤ n) && decide (n ≤ 4294967295)
/-- One of three numbers. -/
def one3 (a b c k : Int) : Bool := k == a || (k == b || k == c)
def isIdx := one3 6 12 16
def isBlock := one3 8 10 15
def isHash := one3 18 19 20
def numR (k : Int) : Int := if 2 ≤ k ∧ k ≤ 20 then numb k.toNat else -1
end Go.Proofs.Ytdkfkdekiljcoaa
