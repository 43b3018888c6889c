import Derived.Test.YtdkfkdekiljcoaaEk
import Derived.Lib.ConvBytes
import Derived.Deep.Upon
import Derived.Laws.Bits64
import Derived.Maps.Keyed
import Derived.Maps.RangeRun
import Derived.DeepKeys4
import Derived.Laws.Externs
import Derived.LoopN
import Derived.Test.YtdkfkdekiljcoaaProg
set_option linter.unusedSimpArgs false
set_option linter.unusedVariables false
namespace Go.Proofs.Ytdkfkdekiljcoaa
open Go.RowKit

/-! ## Numbers told as natural ones; bytes of a text -/
section
variable {P : Program} {w : World} {t : TypeId} {xo yo : Operand}
theorem wrap_nat {a : Nat} (h : a ≤ 9223372036854775807) : IntKind.i64.wrap (a : Int) = (a : Int) := w64 (by omega)
theorem b_quoN {a b : Nat} (h : 0 < b ∧ a ≤ 9223372036854775807) : Bin P .quo t xo yo (.int .i64 (a : Int)) (.int .i64 (b : Int)) w (.int .i64 ((a / b : Nat) : Int)) :=
  b_quo (by omega) (by rw [quo64 (by omega)]; rfl)
theorem b_remN {a b : Nat} (h : 0 < b) : Bin P .rem t xo yo (.int .i64 (a : Int)) (.int .i64 (b : Int)) w (.int .i64 ((a % b : Nat) : Int)) :=
  b_rem (by omega) (by rw [rem0 (by omega)]; rfl)
theorem b_subN {a b : Nat} (h : b ≤ a ∧ a ≤ 9223372036854775807) : Bin P .sub t xo yo (.int .i64 (a : Int)) (.int .i64 (b : Int)) w (.int .i64 ((a - b : Nat) : Int)) :=
  b_sub (by rw [w64 (by omega)]; omega)
theorem b_addN {a b : Nat} (h : a + b ≤ 9223372036854775807) : Bin P .add t xo yo (.int .i64 (a : Int)) (.int .i64 (b : Int)) w (.int .i64 ((a + b : Nat) : Int)) :=
  b_add (by rw [w64 (by omega)]; omega)
theorem b_mulN {a b : Nat} (h : a * b ≤ 9223372036854775807) : Bin P .mul t xo yo (.int .i64 (a : Int)) (.int .i64 (b : Int)) w (.int .i64 ((a * b : Nat) : Int)) :=
  b_mul (by rw [← Int.natCast_mul, wrap_nat h])
theorem b_shrN {a n : Nat} {k yk : IntKind} (h : n ≤ k.bits) : Bin P .shr t xo yo (.int k (a : Int)) (.int yk (n : Int)) w (.int k ((a / 2 ^ n : Nat) : Int)) :=
  b_shr (by rw [Nat.min_eq_left h]; exact Int.fdiv_eq_ediv_of_nonneg _ (by exact Int.natCast_nonneg _))
theorem b_and1 {a : Nat} (h : a < 256) : Bin P .and t xo yo (.int .u8 (a : Int)) (.int .u8 1) w (.int .u8 ((a % 2 : Nat) : Int)) := by
  refine b_bits (.inl rfl) ?_
  have e : (BitVec.ofInt IntKind.u8.bits (a : Int) &&& BitVec.ofInt IntKind.u8.bits (1 : Int)).toNat = a % 2 := by
    show (BitVec.ofInt 8 (a : Int) &&& BitVec.ofInt 8 ((1 : Nat) : Int)).toNat = _
    rw [ofInt_nat, ofInt_nat, BitVec.toNat_and, BitVec.toNat_ofNat, BitVec.toNat_ofNat, Nat.mod_eq_of_lt (by omega), Nat.mod_eq_of_lt (by omega), Nat.and_one_is_mod]
  simp only [Op.intBits, e]
  rw [wu8 (by omega)]; rfl
theorem b_or8 {a b : Nat} (h : a < 256 ∧ b < 256) : Bin P .or t xo yo (.int .u8 (a : Int)) (.int .u8 (b : Int)) w (.int .u8 ((a ||| b : Nat) : Int)) := by
  refine b_bits (.inr (.inl rfl)) ?_
  have h2 : a ||| b < 2 ^ 8 := Nat.or_lt_two_pow (by omega) (by omega)
  have e : (BitVec.ofInt IntKind.u8.bits (a : Int) ||| BitVec.ofInt IntKind.u8.bits (b : Int)).toNat = a ||| b := by
    show (BitVec.ofInt 8 (a : Int) ||| BitVec.ofInt 8 (b : Int)).toNat = _
    rw [ofInt_nat, ofInt_nat, BitVec.toNat_or, BitVec.toNat_ofNat, BitVec.toNat_ofNat, Nat.mod_eq_of_lt (by omega), Nat.mod_eq_of_lt (by omega)]
  simp only [Op.intBits, e]
  rw [wu8 (by omega)]; rfl
end
section
variable {P : Program} {N : Nat} {Q : Exit → Act → World → Prop} {f : Fr} {ds : List Deferred} {w w' : World} {o : Oper} {ops : Array Oper} {L : List Item} {K : Act → World → Prop}
theorem same_bytes (w : World) (e : TypeId) (s : ByteArray) : Same (fun g => g < w.heap.size) w (Lib.bytesWorld w e s) :=
  ⟨rfl, rfl, rfl, by rw [Lib.bytesWorld_size]; omega, fun g hg => Lib.bytesWorld_at_old w e s g hg⟩
/-- A text as a new row of bytes. -/
theorem s_bytesOf {d sT dT e : Nat} {x : Operand} {s : ByteArray} (H : S w L) (hw : Wt ops f o) (hd : o.dst = some d) (hN : Nat.blt d N = true) (ho : o.op = .convert sT dT x) (hx : evo f x = some (.string s))
    (hs : P.underlying sT = some .string) (hd' : P.underlying dT = some (.slice e)) (he : P.underlying e = some (.int .u8))
    (h : ∀ g c fr cs w', S w' (Ob g (.cells cs e fr) :: L) → (∀ j, j < s.size → cs[j]? = some (.int .u8 ((s.data.toList.getD j 0).toNat : Nat))) → s.size ≤ c → G N K ((d, .slice (some ⟨g, 0, none⟩) s.size c) :: f) ds w') : G N (StepK P ops Q o K) f ds w := by
  have hrun := Lib.run_convert_string_bytes (P := P) w sT dT e s hs hd' he
  have hS : S (Lib.bytesWorld w e s) (Ob w.heap.size (.cells (Lib.bytesCells w e s) e ((Lib.bytesCells w e s).size, (Lib.bytesCells w e s).size + 1)) :: L) := by
    refine (H.move (same_bytes w e s)).cons (Lib.bytesWorld_at_new w e s) (fun g hg => ?_) (fun x hx g hg hx' => ?_)
    · rw [Lib.bytesWorld_size]; have hg : g = w.heap.size := hg; omega
    · have hg : g = w.heap.size := hg
      have := (H.1 x hx).2 g hx'
      omega
  exact s_val hw hd hN (ex_of (x := convert sT dT (.string s)) (fun a ha => by unfold execOp; simp only [ho, ha.eval hx]) hrun)
    (h _ _ _ _ _ hS (fun j hj => by
      simp only [Lib.bytesCells]
      rw [Array.getElem?_append_left (by simpa using hj)]
      simp [List.getD, hj]) (grownCap_ge w s.size 0 e))
/-- A store into a row of one's own. -/
theorem s_storeW {t e size n c j : Nat} {x y : Operand} {p : Option Addr} {xs : List Value} {v : Value} (H : S w L) (k : Nat) (hw : Wt ops f o) (hd : o.dst = none) (ho : o.op = .store t x y) (hx : evo f x = some (.pointer (p.map fun q => q.add (j * size))))
    (hy : evo f y = some v) (hk : L[k]? = some (Rw e size p n c xs)) (hn : szO P t = some v.cells.size) (hv : v.cells.size = size) (h1 : v.cells.toList.all (·.oneCell') = true) (hj : j < n)
    (h : ∀ w', S w' (L.set k (Rw e size p n c (xs.take (j * size) ++ v.cells.toList ++ xs.drop (j * size + size)))) → G N K f ds w') : G N (StepK P ops Q o K) f ds w := by
  obtain ⟨k1, k2, k3, k4⟩ := H.rw hk
  rcases k4 with ⟨_, h0, _⟩ | ⟨g, off, cur, rfl, hg, hcs, hc⟩
  · omega
  · have hjs : j * size + size ≤ n * size := by
      have : (j + 1) * size ≤ n * size := Nat.mul_le_mul_right _ hj
      rw [Nat.add_mul, Nat.one_mul] at this; exact this
    have hns : n * size ≤ c * size := Nat.mul_le_mul_right _ k2
    have hr := run_storeR (P := P) (t := t) (g := g) (i := off + j * size) (v := v) hg hn (by omega) (List.all_eq_true.1 h1)
    rw [hv] at hr
    have ha : (Option.map (fun q : Addr => q.add (j * size)) (some ⟨g, off, none⟩)) = some ⟨g, off + j * size, none⟩ := by rw [Option.map_some, add_lit']
    rw [ha] at hx
    have hvl : v.cells.toList.length = size := by simpa using hv
    have hcl : cur.toList.length = cur.size := by simp
    have hlt : g < w.heap.size := (Array.getElem?_eq_some_iff.1 hg).1
    refine s_unit hw hd (exu_store ho hx hy hr) (h _ (H.turn hk ((same_setRow w g _).less fun b hb he => hb.2 ⟨off, by rw [he]⟩) ⟨?_, k2, k3, .inr ⟨g, off, _, rfl, by simp only [World.setRow, Array.getElem?_modify, if_true, hg, Option.map_some]; rfl, ?_, fun i u hu => ?_⟩⟩ (fun b hb => ⟨.inl hb, ?_⟩)))
    · simp only [List.length_append, List.length_take, List.length_drop, hvl, k1]; omega
    · simp only [List.size_toArray, List.length_append, List.length_take, List.length_drop, hvl, hcl]; omega
    · simp only [List.getElem?_toArray]
      rw [List.append_assoc, List.getElem?_append] at hu ⊢
      simp only [List.length_take, k1, hcl] at hu ⊢
      rw [Nat.min_eq_left (by omega)] at hu ⊢
      by_cases hi : i < j * size
      · rw [if_pos hi, List.getElem?_take, if_pos hi] at hu
        rw [if_pos (by omega), List.getElem?_take, if_pos (by omega), Array.getElem?_toList]
        exact hc i u hu
      · rw [if_neg hi, List.getElem?_append, hvl] at hu
        rw [if_neg (by omega), List.getElem?_append, hvl, show off + i - (off + j * size) = i - j * size from by omega]
        by_cases hi2 : i - j * size < size
        · rw [if_pos hi2] at hu ⊢; exact hu
        · rw [if_neg hi2, List.getElem?_drop] at hu ⊢
          have hu' := hc _ u hu
          rw [Array.getElem?_toList]
          rw [show off + j * size + size + (i - j * size - size) = off + (j * size + size + (i - j * size - size)) from by omega]; exact hu'
    · exact Nat.lt_of_lt_of_le (H.lt hk hb) (by simp [World.setRow])
end
/-- What is asked behind the assignment, where the loop's variables are slots alone. -/
def AssignB {α : Type} (N B : Nat) (Kp : World → World → Prop) (J : List α → List Item → Prop) (FA : α → Fr) (pre : List α) (x : α) (W : World) (a' : Act) (W' : World) : Prop :=
  KeepsFrom B W W' ∧ Kp W W' ∧ (∃ Lx, J pre Lx ∧ S W' Lx) ∧ Rds N a' (FA x) []
section
variable {P : Program} {N : Nat} {Q : Exit → Act → World → Prop} {f : Fr} {ds : List Deferred} {w : World} {n : Nat} {ops : Array Oper} {rest : List Oper} {o : Oper} {L : List Item}
end
end Go.Proofs.Ytdkfkdekiljcoaa
namespace Go.Proofs.Ytdkfkdekiljcoaa
open Go.RowKit Go.Deep

/-! ## append of what reads somewhere, also of nothing -/
section
variable {P : Program} {N : Nat} {Q : Exit → Act → World → Prop} {f : Fr} {ds : List Deferred} {w w' : World} {o : Oper} {ops : Array Oper} {L : List Item} {K : Act → World → Prop}
/-- A block of one's own is a row. -/
theorem S.obRw {k g e size n : Nat} {cs : Array Value} (h : S w L) (hk : L[k]? = some (Ob g (.cells cs e (0, 0)))) (hn : cs.size = n * size) (hm : n ≤ maxLen) : S w (L.set k (Rw e size (some ⟨g, 0, none⟩) n n cs.toList)) :=
  h.turn hk Same.rfl' ⟨by simpa using hn, Nat.le_refl _, hm, .inr ⟨g, 0, cs, rfl, h.ob hk, by omega, fun j u hu => by rw [Nat.zero_add]; simpa using hu⟩⟩ (fun b hb => by
    obtain ⟨x, hx⟩ := hb
    cases hx
    exact ⟨.inl rfl, (Array.getElem?_eq_some_iff.1 (h.ob hk)).1⟩)
theorem list_set_self {α : Type} : ∀ {l : List α} {k : Nat} {x : α}, l[k]? = some x → l.set k x = l
  | [], _, _, h => by simp at h
  | a :: l, 0, x, h => by simp at h; simp [h]
  | a :: l, k + 1, x, h => by
    have h : l[k]? = some x := by simpa using h
    simp [list_set_self h]
theorem s_appendW {d t e size bytes n m c sc : Nat} {s x : Operand} {z : Value} {xs news : List Value} {p q : Option Addr} (H : S w L) (k : Nat) (hw : Wt ops f o) (hd : o.dst = some d) (hN : Nat.blt d N = true)
    (ho : o.op = .call { callee := .builtin .append, args := #[s, x], argTypes := #[t, t] }) (hs : evo f s = some (.slice p n sc)) (hx : evo f x = some (.slice q m c)) (hk : L[k]? = some (Rw e size p n sc xs))
    (ht : P.underlying t = some (.slice e)) (hi : infO P e = some (some z, size, bytes)) (hz : z.cells.size = size) (hsz : 0 < size) (hb0 : 0 < bytes) (hr : Reads w q m c size news) (h1 : news.all (·.oneCell') = true)
    (hb : (n + m) * bytes ≤ 140737488355328)
    (h : ∀ p' c' w', S w' (L.set k (Rw e size p' (n + m) c' (xs ++ news))) → G N K ((d, .slice p' (n + m) c') :: f) ds w') : G N (StepK P ops Q o K) f ds w := by
  by_cases hm : 0 < m
  · obtain ⟨k1, k2, k3⟩ := hr
    obtain ⟨ad, rfl, hc⟩ := k3 hm
    exact s_appendR H k hw hd hN ho hs hx hk ht hi hz hsz hb0 k1 hm hc h1 hb h
  · obtain rfl : m = 0 := by omega
    obtain ⟨k1, k2, k3⟩ := hr
    have hn0 : news = [] := List.eq_nil_of_length_eq_zero (by rw [k1, Nat.zero_mul])
    subst hn0
    obtain ⟨i, hi1, hi2, hi3, hi4⟩ := inf_of hi
    obtain ⟨r1, r2, r3, r4⟩ := H.rw hk
    have hrun : (Builtin.append_ #[t, t] o.type #[.slice p n sc, .slice q 0 c]).run P w = .ok (.slice p n sc) w := by
      cases p <;> cases q <;> simp [Builtin.append_, run_underlying ht, sizeOf, typeInfo, hi1, Builtin.lenOf, Builtin.firstCells, loadCells, loadCellsFrom, storeCells, r2]
    have hS : S w (L.set k (Rw e size p (n + 0) sc (xs ++ []))) := by
      rw [Nat.add_zero, List.append_nil, list_set_self hk]; exact H
    exact s_val hw hd hN (x_builtin (vs := [.slice p n sc, .slice q 0 c]) ho (by simp only [Array.toList, evs, hs, hx]) (fun cs => by
      simp only [builtin, Sem.run_bind, hrun, Result.andThen_ok, Sem.run_pure, Nat.add_zero])) (h p sc w hS)
/-- An empty composite literal of a slice: a new block without cells. -/
theorem s_buildSlice0 {d t e size : Nat} (H : S w L) (hw : Wt ops f o) (hd : o.dst = some d) (hN : Nat.blt d N = true) (ho : o.op = .buildSlice t 0 #[])
    (hu : P.underlying t = some (.slice e)) (hz : szO P e = some size)
    (h : ∀ g w', S w' (Ob g (.cells #[] e (0, 0)) :: L) → G N K ((d, .slice (some ⟨g, 0, none⟩) 0 0) :: f) ds w') : G N (StepK P ops Q o K) f ds w :=
  s_new (v := fun g => .slice (some ⟨g, 0, none⟩) 0 0) H hw hd hN (fun a ha => by
    unfold execOp
    have h2 : ¬ (0 * size > 2 ^ 24) := by omega
    have h3 : 0 * size = 0 := by omega
    simp only [ho, Instr.buildSlice, Sem.run_bind, run_underlying hu, Result.andThen_ok, run_sz hz, if_neg h2, if_pos h3, Sem.run_pure]
    rw [h3]
    simp [Instr.fill, newRow, newObj, go_sem]
    rfl) h
end
end Go.Proofs.Ytdkfkdekiljcoaa
namespace Go.Proofs.Ytdkfkdekiljcoaa
open Go.RowKit

/-! ## Numbers of 64 bits; arrays by value -/
section
variable {P : Program} {w : World} {t : TypeId} {xo yo : Operand}
end
section
variable {P : Program} {N : Nat} {f : Fr} {ds : List Deferred} {w : World} {o : Oper}
/-- An element of an array by value. -/
theorem x_indexW {t e : TypeId} {len : Nat} {d : TypeDesc} {x y : Operand} {cs : Array Value} {k : IntKind} {i : Int} {v : Value} (j : Nat) (ho : o.op = .index t x y) (hx : evo f x = some (.agg cs)) (hy : evo f y = some (.int k i)) (hu : P.underlying t = some (.array len e)) (hz : szO P e = some 1) (he : P.underlying e = some d) (hd : aggB d = false)
    (hb : i = (j : Int) ∧ j < len) (hv : cs[j]? = some v) : Ex P N f ds o w v w :=
  ex_of (x := Instr.index t (.agg cs) (.int k i)) (fun a ha => by unfold execOp; simp only [ho, ha.eval hx, ha.eval hy]) (by
    obtain ⟨rfl, hj⟩ := hb
    unfold Instr.index
    simp only [asIntOf, Sem.run_bind, Sem.run_pure, Result.andThen_ok, run_underlying hu]
    have : (0 : Int) ≤ (j : Int) ∧ (j : Int) < (len : Int) := by omega
    simp only [if_pos this, Sem.run_bind, run_sz hz, Result.andThen_ok, Int.toNat_natCast, Nat.mul_one]
    exact run_part1 he hd hv)
/-- A slice of bytes as a text. -/
theorem x_bytesR {s d e n c : Nat} {x : Operand} {p : Option Addr} {l : List UInt8} (ho : o.op = .convert s d x) (hx : evo f x = some (.slice p n c)) (hs : P.underlying s = some (.slice e)) (hd : P.underlying d = some .string) (he : P.underlying e = some (.int .u8))
    (hr : Reads w p n c 1 (bytesV l)) (hl : l.length = n) : Ex P N f ds o w (.string ⟨l.toArray⟩) w := by
  obtain ⟨k1, k2, k3⟩ := hr
  cases p with
  | none =>
    have hn : n = 0 := by
      rcases Nat.eq_zero_or_pos n with h | h
      · exact h
      · obtain ⟨a, ha, _⟩ := k3 h; cases ha
    have hl0 : l = [] := List.eq_nil_of_length_eq_zero (by omega)
    subst hl0
    exact x_bytes0 ho hx hs hd he
  | some a =>
    refine x_bytes ho hx hs hd he hl (fun j u hu => ?_)
    have hj := (List.getElem?_eq_some_iff.1 hu).1
    have : 0 < n := by omega
    obtain ⟨a', ha, hc⟩ := k3 this
    cases ha
    exact hc j u hu
end
section
variable {P : Program} {w : World} {t : TypeId} {xo yo : Operand}
end
end Go.Proofs.Ytdkfkdekiljcoaa
namespace Go.Proofs.Ytdkfkdekiljcoaa
open Go.RowKit

/-! ## A range over a function whose iterator has memory of its own, and writes it -/
/-- A list of items as one. -/
def Big (L : List Item) : Item := ⟨fps L, fun w => S w L, fun {w w'} h k =>
  ⟨fun it hit => ⟨it.loc (h.less fun g hg => ⟨it, hit, hg⟩) (k.1 it hit).1, fun g hg => Nat.lt_of_lt_of_le ((k.1 it hit).2 g hg) h.size⟩, k.2⟩⟩
/-- The iterator's word. At each yield the world is the base, the iterator's memory (one item) and the caller's (one item); the caller gives the first two back as they were. -/
def IterS {α : Type} (n : Nat) (P : Program) (g : Nat) (lb : Array Value) (encs : α → Array Value) (base : Item) (Φ : List α → α → Item → Prop) (Ok S' Sp : List α → Prop) (I0 : Item) : Prop :=
  ∀ (l : Nat) (J Jx : List α → Item → Prop) (W : World) (C : Item), (∀ pre C, J pre C → Ok pre) →
    (∀ pre x W1 I C, J pre C → Φ pre x I → S W1 [base, I, C] → YieldAt (WF none) (n - 1) P l (encs x) W1 fun e W' =>
      (e = .returned (.bool true) ∧ ∃ C', J (pre ++ [x]) C' ∧ S W' [base, I, C']) ∨ (e = .returned (.bool false) ∧ ∃ C', Jx (pre ++ [x]) C' ∧ S W' [base, I, C'])) →
    J [] C → S W [base, I0, C] →
    CallsIn (WF none) n P g (#[.func (.yield l) #[] #[]] ++ lb) W fun e W' => (∃ v, e = .returned v) ∧ ((∃ xs C, S' xs ∧ J xs C ∧ S W' [base, C]) ∨ (∃ pre C, Sp pre ∧ Jx pre C ∧ S W' [base, C]))
/-- How a round ends. -/
def RoundS {α : Type} (J Jx : List α → List Item → Prop) (base I K : Item) (xs : List α) : Exit → Act → World → Prop
  | .normal, _, W => ∃ Lx, J xs Lx ∧ S W (base :: I :: K :: Lx)
  | .ret, _, W => ∃ Lx, Jx xs Lx ∧ S W (base :: I :: K :: Lx)
  | _, _, _ => False
section
variable {P : Program} {N : Nat} {Q : Exit → Act → World → Prop} {f : Fr} {ds : List Deferred} {w : World} {n : Nat} {ops : Array Oper} {rest : List Oper} {o : Oper} {L : List Item}
/-- What is asked behind the assignment. -/
def AssignS (N : Nat) (FA : Fr) (L : List Item) (a : Act) (w : World) : Prop := Rds N a FA [] ∧ S w L
/-! Marks: what a range over a function leaves behind, at the end of the function. -/
def Marks (Ds : List Nat) : Item := ⟨fun g => g ∈ Ds, fun w => Ds.Nodup ∧ ∀ D ∈ Ds, w.heap[D]? = some (.deferred (some [])), fun {w w'} h k => ⟨k.1, fun D hD => (h.block D hD).trans (k.2 D hD)⟩⟩
end
end Go.Proofs.Ytdkfkdekiljcoaa
namespace Go.Proofs.Ytdkfkdekiljcoaa
open Go.RowKit

/-! ## Cuts of a slice, wherever it lies -/
section
variable {P : Program} {N : Nat} {f : Fr} {ds : List Deferred} {w : World} {o : Oper}
theorem x_sliceH {t e size n c : Nat} {p : Option Addr} {x y2 : Operand} {k2 : IntKind} {i2 : Int} (h : Nat) (ho : o.op = .slice t x none (some y2) none) (hx : evo f x = some (.slice p n c)) (h2 : evo f y2 = some (.int k2 i2))
    (hu : P.underlying t = some (.slice e)) (hz : szO P e = some size) (hb : i2 = (h : Int) ∧ h ≤ c) :
    Ex P N f ds o w (.slice (cutP p 0 c size) h c) w :=
  ex_of (x := Instr.sliceAt t (.slice p n c) none (some (.int k2 i2)) none) (fun a ha => by unfold execOp; simp only [ho, ha.eval hx, ha.eval h2, Option.map_some, Option.map_none]) (by
    obtain ⟨rfl, q2⟩ := hb
    have hel : P.elem t = e := by unfold Program.elem; rw [hu]
    have hu' : P.underlying t = some (.slice (P.elem t)) := by rw [hel]; exact hu
    rw [run_sliceAt_slice (P := P) w t _ _ _ _ hu', run_slice_h (P := P) w t p n c hu' k2 (h : Int) (by omega) (by omega), hel, run_sz hz]
    simp only [Result.andThen_ok, sliced, cutP, Int.toNat_natCast, Nat.sub_zero])
theorem Reads.cut {p : Option Addr} {n c size : Nat} {xs : List Value} (hr : Reads w p n c size xs) (l h : Nat) (hl : l ≤ h) (hh : h ≤ n) : Reads w (cutP p l c size) (h - l) (c - l) size ((xs.drop (l * size)).take ((h - l) * size)) := by
  obtain ⟨k1, k2, k3⟩ := hr
  have hx : h * size ≤ n * size := Nat.mul_le_mul_right _ hh
  refine ⟨?_, by omega, fun h0 => ?_⟩
  · rw [List.length_take, List.length_drop, k1, Nat.sub_mul]; omega
  · obtain ⟨a, rfl, hc⟩ := k3 (by omega)
    refine ⟨a.add (l * size), ?_, fun j u hu => ?_⟩
    · unfold cutP; rw [if_neg (by omega)]; rfl
    · rw [addr_add]
      refine hc _ _ ?_
      have hj := (List.getElem?_eq_some_iff.1 hu).1
      rw [List.length_take] at hj
      rw [List.getElem?_take_of_lt (by omega), List.getElem?_drop] at hu
      exact hu
end
/-! ## Rows of texts: a list of slices, each with memory of its own -/
/-- A row: where it lies, its capacity, what it holds. -/
structure Ro (α : Type) where
  p : Option Addr
  c : Nat
  l : List α
def roV {α : Type} (r : Ro α) : Value := .slice r.p r.l.length r.c
def rosV {α : Type} (rs : List (Ro α)) : List Value := rs.map roV
def roI {α : Type} (e size : Nat) (enc : α → List Value) (r : Ro α) : Item := Rw e size r.p r.l.length r.c (r.l.flatMap enc)
def RowsI {α : Type} (e size : Nat) (enc : α → List Value) (rs : List (Ro α)) : Item := Big (rs.map (roI e size enc))
end Go.Proofs.Ytdkfkdekiljcoaa
namespace Go.Proofs.Ytdkfkdekiljcoaa
open Go.RowKit
open Go.Maps (Keyed)
open Go.ChangeMaps (setBlock)

/-! ## Maps -/
section
variable {κ α : Type}
/-- What a map's type must be: how keys are written (of those that are allowed), how elements. -/
structure MapTy (P : Program) (t k e : TypeId) (ek : κ → Value) (ok : κ → Prop) : Prop where
  ht : P.underlying t = some (.map k e)
  K : Keyed P k
  key : ∀ x, ok x → ∃ l, keyOf P k (ek x) = some l
  inj : ∀ x y, ok x → ok y → ek x = ek y → x = y
/-- Entries and pairs say the same. -/
structure KV (ek : κ → Value) (va : α → Value) (ok : κ → Prop) (M : κ → Option α) (es : Array MapEntry) (c : Nat) (kv : List (κ × α)) : Prop where
  same : es.toList.map (fun e => (e.key, e.val)) = kv.map (fun p => (ek p.1, va p.2))
  nodup : (kv.map Prod.fst).Nodup
  oks : ∀ p ∈ kv, ok p.1
  born : (es.toList.map (·.born)).Nodup
  old : ∀ e ∈ es.toList, e.born < c
  is : ∀ p : κ × α, p ∈ kv ↔ (ok p.1 ∧ M p.1 = some p.2)
def Mp (ek : κ → Value) (va : α → Value) (ok : κ → Prop) (g : Nat) (M : κ → Option α) : Item :=
  ⟨fun j => j = g, fun w => ∃ es c kv, w.heap[g]? = some (.map es c) ∧ KV ek va ok M es c kv, fun h k => by
    obtain ⟨es, c, kv, h1, h2⟩ := k
    exact ⟨es, c, kv, (h.block g rfl).trans h1, h2⟩⟩
variable {ek : κ → Value} {va : α → Value} {ok : κ → Prop} {M : κ → Option α} {es : Array MapEntry} {c : Nat} {kv : List (κ × α)}
theorem KV.at (h : KV ek va ok M es c kv) {j : Nat} {e : MapEntry} (he : es.toList[j]? = some e) : ∃ p, kv[j]? = some p ∧ e.key = ek p.1 ∧ e.val = va p.2 := by
  have h1 : (es.toList.map (fun e => (e.key, e.val)))[j]? = some (e.key, e.val) := by rw [List.getElem?_map, he]; rfl
  rw [h.same, List.getElem?_map] at h1
  cases hp : kv[j]? with
  | none => rw [hp] at h1; cases h1
  | some p =>
    rw [hp] at h1
    simp only [Option.map_some, Option.some.injEq, Prod.mk.injEq] at h1
    exact ⟨p, rfl, h1.1.symm, h1.2.symm⟩
theorem KV.len (h : KV ek va ok M es c kv) : es.size = kv.length := by
  have := congrArg List.length h.same
  simpa using this
theorem KV.ofp (h : KV ek va ok M es c kv) {p : κ × α} (hp : p ∈ kv) : ∃ e ∈ es.toList, e.key = ek p.1 ∧ e.val = va p.2 := by
  have h1 : (ek p.1, va p.2) ∈ kv.map (fun p => (ek p.1, va p.2)) := List.mem_map.2 ⟨p, hp, rfl⟩
  rw [← h.same] at h1
  obtain ⟨e, he, h2⟩ := List.mem_map.1 h1
  simp only [Prod.mk.injEq] at h2
  exact ⟨e, he, h2.1, h2.2⟩
theorem KV.key {P : Program} {t k e0 : TypeId} (T : MapTy P t k e0 ek ok) (h : KV ek va ok M es c kv) : ∀ e ∈ es.toList, ∃ l, keyOf P k e.key = some l := fun e he => by
  obtain ⟨j, hj⟩ := List.getElem?_of_mem he
  obtain ⟨p, hp, h1, _⟩ := h.at hj
  rw [h1]; exact T.key _ (h.oks p (List.mem_of_getElem? hp))
/-- What is found under a key. -/
theorem KV.find {P : Program} {t k e0 : TypeId} (T : MapTy P t k e0 ek ok) (h : KV ek va ok M es c kv) (w : World) {x : κ} (hx : ok x) :
    (M x = none ∧ (Instr.findKey k (ek x) es.toList).run P w = .ok none w) ∨ ∃ j a, M x = some a ∧ kv[j]? = some (x, a) ∧ (Instr.findKey k (ek x) es.toList).run P w = .ok (some (j, va a)) w ∧ ∃ e, es.toList[j]? = some e ∧ e.key = ek x := by
  obtain ⟨l, hl⟩ := T.key x hx
  rcases T.K.find w hl es.toList (h.key T) with ⟨h1, h2⟩ | ⟨j, e, h1, h2, h3⟩
  · refine .inl ⟨?_, h1⟩
    cases hM : M x with
    | none => rfl
    | some a =>
      obtain ⟨e, he, h4, _⟩ := h.ofp ((h.is (x, a)).2 ⟨hx, hM⟩)
      exact absurd h4 (h2 e he)
  · obtain ⟨p, hp, h4, h5⟩ := h.at h2
    have hp1 := h.oks p (List.mem_of_getElem? hp)
    have hpx : p.1 = x := T.inj _ _ hp1 hx (by rw [← h4, h3])
    obtain ⟨p1, p2⟩ := p
    have hpx : p1 = x := hpx
    subst hpx
    exact .inr ⟨j, p2, ((h.is (p1, p2)).1 (List.mem_of_getElem? hp)).2, hp, by rw [h1, h5], e, h2, h3⟩
def upM [DecidableEq κ] (M : κ → Option α) (x : κ) (a : α) : κ → Option α := fun y => if y = x then some a else M y
theorem KV.push [DecidableEq κ] {P : Program} {t k e0 : TypeId} (T : MapTy P t k e0 ek ok) (h : KV ek va ok M es c kv) {x : κ} {a : α} (hx : ok x) (hM : M x = none) : KV ek va ok (upM M x a) (es.push ⟨ek x, va a, c⟩) (c + 1) (kv ++ [(x, a)]) := by
  have hno : ∀ p ∈ kv, p.1 ≠ x := fun p hp e => by
    have := ((h.is p).1 hp).2
    rw [e, hM] at this; cases this
  refine ⟨?_, ?_, ?_, ?_, ?_, ?_⟩
  · simp [h.same]
  · rw [List.map_append, List.nodup_append]
    refine ⟨h.nodup, by simp, ?_⟩
    intro y hy z hz e
    obtain ⟨p, hp, rfl⟩ := List.mem_map.1 hy
    have : z = x := by simpa using hz
    exact hno p hp (e.trans this)
  · intro p hp
    rcases List.mem_append.1 hp with hp | hp
    · exact h.oks p hp
    · have : p = (x, a) := by simpa using hp
      rw [this]; exact hx
  · rw [Array.toList_push, List.map_append, List.nodup_append]
    refine ⟨h.born, by simp, ?_⟩
    intro y hy z hz e
    obtain ⟨q, hq, rfl⟩ := List.mem_map.1 hy
    have := h.old q hq
    have hz : z = c := by simpa using hz
    omega
  · intro e he
    rw [Array.toList_push] at he
    rcases List.mem_append.1 he with he | he
    · have := h.old e he; omega
    · have : e = ⟨ek x, va a, c⟩ := by simpa using he
      rw [this]; exact Nat.lt_succ_self c
  · intro p
    rw [List.mem_append, h.is]
    unfold upM
    constructor
    · rintro (hp | hp)
      · have := hno p ((h.is p).2 hp)
        rw [if_neg this]; exact hp
      · have hp : p = (x, a) := by simpa using hp
        subst hp
        exact ⟨hx, if_pos rfl⟩
    · rintro ⟨h1, h2⟩
      split at h2
      · rename_i hpx
        right
        obtain ⟨p1, p2⟩ := p
        have hpx : p1 = x := hpx
        simp only [Option.some.injEq] at h2
        rw [hpx, ← h2]; simp
      · exact .inl ⟨h1, h2⟩
theorem nodup_fst {kv : List (κ × α)} (hn : (kv.map Prod.fst).Nodup) {i j : Nat} {p q : κ × α} (hi : kv[i]? = some p) (hj : kv[j]? = some q) (h : p.1 = q.1) : i = j := by
  obtain ⟨hi1, hi2⟩ := List.getElem?_eq_some_iff.1 hi
  obtain ⟨hj1, hj2⟩ := List.getElem?_eq_some_iff.1 hj
  have hw := List.pairwise_iff_getElem.1 hn
  rcases Nat.lt_trichotomy i j with hl | hl | hl
  · exact absurd (show (kv.map Prod.fst)[i]'(by simpa using hi1) = (kv.map Prod.fst)[j]'(by simpa using hj1) from by simp [hi2, hj2, h]) (hw i j (by simpa using hi1) (by simpa using hj1) hl)
  · exact hl
  · exact absurd (show (kv.map Prod.fst)[j]'(by simpa using hj1) = (kv.map Prod.fst)[i]'(by simpa using hi1) from by simp [hi2, hj2, h]) (hw j i (by simpa using hj1) (by simpa using hi1) hl)
theorem KV.set [DecidableEq κ] {P : Program} {t k e0 : TypeId} (T : MapTy P t k e0 ek ok) (h : KV ek va ok M es c kv) {x : κ} {a b : α} {j : Nat} (hx : ok x) (hj : kv[j]? = some (x, b)) : KV ek va ok (upM M x a) (es.modify j fun e => { e with key := ek x, val := va a }) c (kv.set j (x, a)) := by
  have hjl : j < kv.length := (List.getElem?_eq_some_iff.1 hj).1
  have hel : j < es.size := by rw [h.len]; exact hjl
  have hfst : (kv.set j (x, a)).map Prod.fst = kv.map Prod.fst := by
    apply List.ext_getElem?
    intro i
    rw [List.getElem?_map, List.getElem?_map, List.getElem?_set]
    by_cases e : j = i
    · subst e; rw [if_pos rfl, if_pos hjl, hj]; rfl
    · rw [if_neg e]
  have hto : (es.modify j fun e => { e with key := ek x, val := va a }).toList = es.toList.modify j (fun e => { e with key := ek x, val := va a }) := by simp
  refine ⟨?_, ?_, ?_, ?_, ?_, ?_⟩
  · rw [hto]
    apply List.ext_getElem?
    intro i
    rw [List.getElem?_map, List.getElem?_map, List.getElem?_modify, List.getElem?_set]
    have hs : (es.toList.map (fun e => (e.key, e.val)))[i]? = (kv.map (fun p => (ek p.1, va p.2)))[i]? := by rw [h.same]
    rw [List.getElem?_map, List.getElem?_map] at hs
    by_cases e : j = i
    · subst e
      rw [if_pos rfl, if_pos hjl]
      have : es.toList[j]? = some es[j] := by simp [hel]
      simp [this]
    · rw [if_neg e]
      cases h1 : es.toList[i]? with
      | none => rw [h1] at hs; simp only [Option.map_none] at hs ⊢; rw [← hs]; rfl
      | some q => rw [h1] at hs; rw [← hs]; simp [e]
  · rw [hfst]; exact h.nodup
  · intro p hp
    rcases List.mem_or_eq_of_mem_set hp with hp | rfl
    · exact h.oks p hp
    · exact hx
  · rw [hto]
    have : (es.toList.modify j (fun e => { e with key := ek x, val := va a })).map (·.born) = es.toList.map (·.born) := by
      apply List.ext_getElem?
      intro i
      rw [List.getElem?_map, List.getElem?_map, List.getElem?_modify]
      cases h1 : es.toList[i]? with
      | none => rfl
      | some q => by_cases e : j = i <;> simp [e]
    rw [this]; exact h.born
  · intro e he
    rw [hto] at he
    obtain ⟨i, hi⟩ := List.getElem?_of_mem he
    rw [List.getElem?_modify] at hi
    cases h1 : es.toList[i]? with
    | none => rw [h1] at hi; cases hi
    | some q =>
      rw [h1] at hi
      have := h.old q (List.mem_of_getElem? h1)
      by_cases e1 : j = i
      · simp [e1] at hi; rw [← hi]; exact this
      · simp [e1] at hi; rw [← hi]; exact this
  · intro p
    unfold upM
    constructor
    · intro hp
      obtain ⟨i, hi⟩ := List.getElem?_of_mem hp
      rw [List.getElem?_set] at hi
      by_cases e : j = i
      · rw [if_pos e, if_pos hjl] at hi
        cases hi
        exact ⟨hx, if_pos rfl⟩
      · rw [if_neg e] at hi
        have hp' := (h.is p).1 (List.mem_of_getElem? hi)
        rw [if_neg (fun e1 => e (nodup_fst h.nodup hj hi e1.symm))]
        exact hp'
    · rintro ⟨h1, h2⟩
      split at h2
      · rename_i hpx
        obtain ⟨p1, p2⟩ := p
        have hpx : p1 = x := hpx
        simp only [Option.some.injEq] at h2
        rw [hpx, ← h2]; exact List.mem_set hjl _
      · rename_i hpx
        obtain ⟨i, hi⟩ := List.getElem?_of_mem ((h.is p).2 ⟨h1, h2⟩)
        refine List.mem_of_getElem? (i := i) ?_
        rw [List.getElem?_set, if_neg ?_]
        · exact hi
        · intro e
          subst e
          rw [hj] at hi
          cases hi
          exact hpx rfl
variable {P : Program} {N : Nat} {Q : Exit → Act → World → Prop} {f : Fr} {ds : List Deferred} {w w' : World} {o : Oper} {ops : Array Oper} {L : List Item} {K : Act → World → Prop}
theorem S.mp {k0 g : Nat} (H : S w L) (hk : L[k0]? = some (Mp ek va ok g M)) : ∃ es c kv, w.heap[g]? = some (.map es c) ∧ KV ek va ok M es c kv := H.at hk
theorem x_lookup1 {t k e : TypeId} {m y : Operand} {g : Nat} {x : κ} {z : Value} (T : MapTy P t k e ek ok) (H : S w L) (k0 : Nat) (hk : L[k0]? = some (Mp ek va ok g M)) (ho : o.op = .lookup t m y false) (hm : evo f m = some (.map (some g))) (hy : evo f y = some (ek x)) (hx : ok x) (hz : zeO P e = some z) :
    Ex P N f ds o w (((M x).map va).getD z) w :=
  ex_of (x := Instr.lookup t (.map (some g)) (ek x) false) (fun a ha => by unfold execOp; simp only [ho, ha.eval hm, ha.eval hy]) (by
    obtain ⟨es, c, kv, hb, hkv⟩ := H.mp hk
    obtain ⟨l, hl⟩ := T.key x hx
    rcases hkv.find T w hx with ⟨h1, h2⟩ | ⟨j, a, h1, h2, h3, _⟩
    · rw [h1]; simp [Instr.lookup, run_underlying T.ht, MapKept.run_getObj_map hb, T.K.check w _ hl, h2, run_ze hz, Result.andThen]
    · rw [h1]; simp [Instr.lookup, run_underlying T.ht, MapKept.run_getObj_map hb, T.K.check w _ hl, h3, Result.andThen])
theorem same_setBlock (w : World) (b : Nat) (o : Obj) : Same (fun k => k ≠ b) w (setBlock w b o) :=
  ⟨rfl, rfl, rfl, by simp [setBlock], fun k hk => by simp only [setBlock]; rw [Array.getElem?_setIfInBounds_ne (fun e => hk e.symm)]⟩
theorem heap_setBlock {w : World} {b : Nat} {o o' : Obj} (h : w.heap[b]? = some o) : (setBlock w b o').heap[b]? = some o' := by
  have hl : b < w.heap.size := (Array.getElem?_eq_some_iff.1 h).1
  simp [setBlock, hl]
/-- An element is laid. -/
theorem s_mapUpdate [DecidableEq κ] {t k e : TypeId} {m y z : Operand} {g : Nat} {x : κ} {a : α} (T : MapTy P t k e ek ok) (H : S w L) (k0 : Nat) (hw : Wt ops f o) (hd : o.dst = none) (hk : L[k0]? = some (Mp ek va ok g M)) (ho : o.op = .mapUpdate t m y z) (hm : evo f m = some (.map (some g))) (hy : evo f y = some (ek x)) (hz : evo f z = some (va a)) (hx : ok x)
    (h : ∀ w', S w' (L.set k0 (Mp ek va ok g (upM M x a))) → G N K f ds w') : G N (StepK P ops Q o K) f ds w := by
  obtain ⟨es, c, kv, hb, hkv⟩ := H.mp hk
  obtain ⟨l, hl⟩ := T.key x hx
  have hrun : ∃ es' c' kv', (Instr.mapUpdate t (.map (some g)) (ek x) (va a)).run P w = .ok () (setBlock w g (.map es' c')) ∧ KV ek va ok (upM M x a) es' c' kv' := by
    rcases hkv.find T w hx with ⟨h1, h2⟩ | ⟨j, b, h1, h2, h3, q, hq, hqk⟩
    · refine ⟨es.push ⟨ek x, va a, c⟩, c + 1, _, ?_, hkv.push T hx h1⟩
      simp [Instr.mapUpdate, run_underlying T.ht, MapKept.run_getObj_map hb, T.K.check w _ hl, h2, MapKept.run_setObj_map _ hb, Result.andThen, setBlock]
    · refine ⟨_, c, _, ?_, hkv.set T hx h2⟩
      have hq' : es[j]? = some q := by simpa using hq
      simp [Instr.mapUpdate, run_underlying T.ht, MapKept.run_getObj_map hb, T.K.check w _ hl, h3, hq', hqk, T.K.stays w hl, MapKept.run_setObj_map _ hb, Result.andThen, setBlock]
  obtain ⟨es', c', kv', hrun, hkv'⟩ := hrun
  refine s_unit hw hd (w' := setBlock w g (.map es' c')) (fun a' ha => by unfold execOp; simp only [ho, ha.eval hm, ha.eval hy, ha.eval hz, Sem.run_bind, hrun, Result.andThen_ok, Sem.run_pure]) (h _ ?_)
  exact H.turn hk ((same_setBlock w g _).less fun j hj => hj.2) ⟨es', c', kv', heap_setBlock hb, hkv'⟩ (fun j hj => by
    have : j = g := hj
    exact ⟨.inl this, Nat.lt_of_lt_of_le (H.lt hk this) (same_setBlock w g _).size⟩)
/-- A new map. -/
theorem s_makeMap {t d : TypeId} (ek : κ → Value) (va : α → Value) (ok : κ → Prop) (H : S w L) (hw : Wt ops f o) (hd : o.dst = some d) (hN : Nat.blt d N = true) (ho : o.op = .makeMap t none)
    (h : ∀ g w', S w' (Mp ek va ok g (fun _ => (none : Option α)) :: L) → G N K ((d, .map (some g)) :: f) ds w') : G N (StepK P ops Q o K) f ds w := by
  refine s_val hw hd hN (ex_of (v := .map (some w.heap.size)) (w' := w.alloc (.map #[] 0)) (x := Instr.makeMap t none) (fun a ha => by unfold execOp; simp only [ho, Option.map_none]) (by simp [Instr.makeMap, newObj, Sem.run, Result.andThen])) (h _ _ ?_)
  have h1 := H.alloc (.map #[] 0)
  obtain ⟨a1, a2, a3⟩ := h1.head
  have hkv : KV ek va ok (fun _ => (none : Option α)) #[] 0 [] := ⟨rfl, List.nodup_nil, fun p hp => absurd hp (List.not_mem_nil), List.nodup_nil, fun e he => absurd he (List.not_mem_nil), fun p => ⟨fun h => absurd h (List.not_mem_nil), fun h => absurd h.2 (by simp)⟩⟩
  exact h1.tail.cons ⟨#[], 0, [], a1, hkv⟩ a2 a3
end
end Go.Proofs.Ytdkfkdekiljcoaa
namespace Go.Proofs.Ytdkfkdekiljcoaa
open Go.RowKit

section
variable {P : Program} {N : Nat} {Q : Exit → Act → World → Prop} {f : Fr} {ds : List Deferred} {w w' : World} {o : Oper} {ops : Array Oper} {L : List Item} {n : Nat}
end
/-! Places as keys. -/
def placeV (x : Nat × Nat) : Value := .agg #[.int .i64 (x.1 : Int), .int .i64 (x.2 : Int)]
def placeOk (x : Nat × Nat) : Prop := x.1 ≤ 1099511627776 ∧ x.2 ≤ 1099511627776
end Go.Proofs.Ytdkfkdekiljcoaa
namespace Go.Proofs.Ytdkfkdekiljcoaa
open Go.RowKit

/-! ## A range over a function that is left by a jump -/
def RoundX {α : Type} (b : Nat) (J Jx : List α → List Item → Prop) (base I K : Item) (xs : List α) : Exit → Act → World → Prop
  | .normal, _, W => ∃ Lx, J xs Lx ∧ S W (base :: I :: K :: Lx)
  | .exit b', _, W => b' = b ∧ ∃ Lx, Jx xs Lx ∧ S W (base :: I :: K :: Lx)
  | _, _, _ => False
section
variable {P : Program} {N : Nat} {Q : Exit → Act → World → Prop} {f : Fr} {ds : List Deferred} {w : World} {n : Nat} {ops : Array Oper} {rest : List Oper} {o : Oper} {L : List Item}
end
end Go.Proofs.Ytdkfkdekiljcoaa
namespace Go.Proofs.Ytdkfkdekiljcoaa
open Go.RowKit

/-! ## A function that defers and ranges over a function -/
/-- How a frame leaves: deferred functions and marks, in whatever order. -/
def LeavesW (P : Program) (fn : Func) (tmps : Array Value) (R : Ending → World → Prop) : List Deferred → FrameMode → World → Prop
  | [], u, w => Leaves P fn tmps R [] u w
  | d :: ds, u, w => u ≠ .run ∧
      ((∃ r w', d.target = .collected r ∧ (Instr.takeDeferred r).run P w = .ok [] w' ∧ LeavesW P fn tmps R ds u w') ∨
       (∃ fv cap f args, d.target = .fn fv cap ∧ (invoke d.target d.args).run P w = .ok (.enter f args) w ∧
        CallsD P f args u w fun
          | .returned _, u', w' => LeavesW P fn tmps R ds (settle u') w'
          | .panicked chain, u', w' => LeavesW P fn tmps R ds (raised u' chain) w'
          | .outgrown, _, w' => R .outgrown w'))
section
variable {P : Program}
def bodyPostW (P : Program) (fn : Func) (R : Ending → World → Prop) : Exit → Act → World → Prop
  | .normal, a, w | .ret, a, w => LeavesW P fn a.tmps R a.defers .returning w
  | .panic chain, a, w => LeavesW P fn a.tmps R a.defers (.panicking chain) w
  | .outgrown, _, w => R .outgrown w
  | _, _, _ => False
end
section
variable {P : Program} {N : Nat} {f : Fr} {ds : List Deferred} {w : World} {L : List Item}
/-- What is left of a body: the deferred calls and marks. -/
def GLW (N : Nat) (P : Program) (fn : Func) (R : Ending → World → Prop) (f : Fr) (ds : List Deferred) (u : FrameMode) (w : World) : Prop := ∀ a, Rds N a f a.defers → LeavesW P fn a.tmps R ds u w
end
end Go.Proofs.Ytdkfkdekiljcoaa
namespace Go.Proofs.Ytdkfkdekiljcoaa
open Go.RowKit
open Go.Maps (Keyed)
open Go.ChangeMaps (setBlock)

/-! ## A range over a map -/
section
variable {κ α : Type} {ek : κ → Value} {va : α → Value} {ok : κ → Prop} {M : κ → Option α} {es : Array MapEntry} {c : Nat} {kv : List (κ × α)}
/-- What is left. -/
def zipOf (es : Array MapEntry) (kv : List (κ × α)) (seen : Array Nat) : List (MapEntry × (κ × α)) := (es.toList.zip kv).filter (fun z => !seen.contains z.1.born)
def remOf (es : Array MapEntry) (kv : List (κ × α)) (seen : Array Nat) : List (κ × α) := (zipOf es kv seen).map Prod.snd
theorem KV.zip_at (h : KV ek va ok M es c kv) {z : MapEntry × (κ × α)} (hz : z ∈ es.toList.zip kv) : ∃ j : Nat, es.toList[j]? = some z.1 ∧ kv[j]? = some z.2 ∧ z.1.key = ek z.2.1 ∧ z.1.val = va z.2.2 := by
  obtain ⟨j, hj⟩ := List.getElem?_of_mem hz
  rw [List.getElem?_zip_eq_some] at hj
  obtain ⟨p, hp, h1, h2⟩ := h.at hj.1
  rw [hj.2] at hp
  cases hp
  exact ⟨j, hj.1, hj.2, h1, h2⟩
theorem KV.fst_zip (h : KV ek va ok M es c kv) : (es.toList.zip kv).map Prod.fst = es.toList := List.map_fst_zip (by have := h.len; simp; omega)
theorem KV.left (h : KV ek va ok M es c kv) (seen : Array Nat) : (leftOf es seen).toList = (zipOf es kv seen).map Prod.fst := by
  unfold leftOf zipOf
  rw [Array.toList_filter]
  conv => lhs; rw [← h.fst_zip]
  rw [List.filter_map]; rfl
theorem nodup_at {β : Type} {l : List β} {γ : Type} {f : β → γ} (hn : (l.map f).Nodup) {i j : Nat} {x y : β} (hi : l[i]? = some x) (hj : l[j]? = some y) (h : f x = f y) : i = j := by
  obtain ⟨hi1, hi2⟩ := List.getElem?_eq_some_iff.1 hi
  obtain ⟨hj1, hj2⟩ := List.getElem?_eq_some_iff.1 hj
  have hw := List.pairwise_iff_getElem.1 hn
  rcases Nat.lt_trichotomy i j with hl | hl | hl
  · exact absurd (show (l.map f)[i]'(by simpa using hi1) = (l.map f)[j]'(by simpa using hj1) from by simp [hi2, hj2, h]) (hw i j (by simpa using hi1) (by simpa using hj1) hl)
  · exact hl
  · exact absurd (show (l.map f)[j]'(by simpa using hj1) = (l.map f)[i]'(by simpa using hi1) from by simp [hi2, hj2, h]) (hw j i (by simpa using hj1) (by simpa using hi1) hl)
/-- One is taken: what is left then. -/
theorem KV.rem_next (h : KV ek va ok M es c kv) {seen : Array Nat} {e : MapEntry} (he : e ∈ (leftOf es seen).toList) :
    ∃ p, p ∈ remOf es kv seen ∧ e ∈ es.toList ∧ e.key = ek p.1 ∧ e.val = va p.2 ∧ (∀ q, q ∈ remOf es kv (seen.push e.born) ↔ q ∈ remOf es kv seen ∧ q ≠ p) ∧ (remOf es kv (seen.push e.born)).length < (remOf es kv seen).length := by
  rw [h.left, List.mem_map] at he
  obtain ⟨z, hz, rfl⟩ := he
  have hz' := List.mem_filter.1 hz
  obtain ⟨j, h1, h2, h3, h4⟩ := h.zip_at hz'.1
  have key : ∀ y ∈ es.toList.zip kv, (y.1.born = z.1.born ↔ y.2 = z.2) := fun y hy => by
    obtain ⟨i, i1, i2, _, _⟩ := h.zip_at hy
    constructor
    · intro e
      have := nodup_at (f := fun x : MapEntry => x.born) h.born i1 h1 e
      subst this
      rw [i2] at h2; exact Option.some.inj h2
    · intro e
      have := nodup_fst h.nodup i2 h2 (by rw [e])
      subst this
      rw [i1] at h1; rw [Option.some.inj h1]
  have hf : zipOf es kv (seen.push z.1.born) = (zipOf es kv seen).filter (fun y => !(y.1.born == z.1.born)) := by
    unfold zipOf
    rw [List.filter_filter]
    refine List.filter_congr fun y hy => ?_
    simp only [Array.contains_push, Bool.not_or]
    rw [Bool.and_comm]
  refine ⟨z.2, List.mem_map.2 ⟨z, hz, rfl⟩, List.mem_of_getElem? h1, h3, h4, fun q => ?_, ?_⟩
  · unfold remOf
    rw [hf]
    constructor
    · intro hq
      obtain ⟨y, hy, rfl⟩ := List.mem_map.1 hq
      obtain ⟨y1, y2⟩ := List.mem_filter.1 hy
      have y3 := (List.mem_filter.1 y1).1
      refine ⟨List.mem_map.2 ⟨y, y1, rfl⟩, fun e => ?_⟩
      have := (key y y3).2 e
      simp [this] at y2
    · rintro ⟨hq, hne⟩
      obtain ⟨y, hy, rfl⟩ := List.mem_map.1 hq
      have y3 := (List.mem_filter.1 hy).1
      refine List.mem_map.2 ⟨y, List.mem_filter.2 ⟨hy, ?_⟩, rfl⟩
      have : ¬ y.1.born = z.1.born := fun e => hne ((key y y3).1 e)
      simp [this]
  · unfold remOf
    rw [hf, List.length_map, List.length_map]
    exact List.length_filter_lt_length_iff_exists.2 ⟨z, hz, by simp⟩
def CurOk (ek : κ → Value) (va : α → Value) (es : Array MapEntry) (seen : Array Nat) : Option (κ × α) → Prop
  | none => True
  | some p => ∃ (seen0 : Array Nat) (e : MapEntry), seen = seen0.push e.born ∧ e ∈ es.toList ∧ e.key = ek p.1 ∧ e.val = va p.2
/-- A map and an iterator over it: what is left, what was handed out last. -/
def MpR (ek : κ → Value) (va : α → Value) (ok : κ → Prop) (g r : Nat) (M : κ → Option α) (rem : List (κ × α)) (cur : Option (κ × α)) : Item :=
  ⟨fun j => j = g ∨ j = r, fun w => g ≠ r ∧ ∃ es c kv seen since st, w.heap[g]? = some (.map es c) ∧ KV ek va ok M es c kv ∧ w.heap[r]? = some (.mapIter (some g) since seen st) ∧ (∀ e ∈ es.toList, e.born < since) ∧ (since ≤ st ∧ since ≤ c) ∧ rem = remOf es kv seen ∧ (cur.isSome = true → st = c) ∧ CurOk ek va es seen cur, fun h k => by
    obtain ⟨hn, es, c, kv, seen, since, st, h1, h2, h3, h4⟩ := k
    exact ⟨hn, es, c, kv, seen, since, st, (h.block g (.inl rfl)).trans h1, h2, (h.block r (.inr rfl)).trans h3, h4⟩⟩
variable {P : Program} {N : Nat} {Q : Exit → Act → World → Prop} {f : Fr} {ds : List Deferred} {w w' : World} {o : Oper} {ops : Array Oper} {L : List Item} {K : Act → World → Prop}
theorem S.unR {k0 g r : Nat} {rem : List (κ × α)} {cur : Option (κ × α)} (H : S w L) (hk : L[k0]? = some (MpR ek va ok g r M rem cur)) : S w (L.set k0 (Mp ek va ok g M)) := by
  have h := H.at hk
  obtain ⟨hn, es, c, kv, seen, since, st, h1, h2, h3, h4⟩ := h
  refine H.turn hk Same.rfl' ⟨es, c, kv, h1, h2⟩ (fun j hj => ?_)
  have hj : j = g := hj
  exact ⟨.inl (.inl hj), H.lt hk (.inl hj)⟩
theorem Mp_congr {k0 g : Nat} {M' : κ → Option α} (H : S w L) (hk : L[k0]? = some (Mp ek va ok g M)) (h : ∀ x, ok x → M x = M' x) : S w (L.set k0 (Mp ek va ok g M')) := by
  obtain ⟨es, c, kv, h1, h2⟩ := H.mp hk
  refine H.turn hk Same.rfl' ⟨es, c, kv, h1, h2.same, h2.nodup, h2.oks, h2.born, h2.old, fun p => ?_⟩ (fun j hj => ⟨.inl hj, H.lt hk hj⟩)
  rw [h2.is]
  exact ⟨fun ⟨a, b⟩ => ⟨a, by rw [← h _ a]; exact b⟩, fun ⟨a, b⟩ => ⟨a, by rw [h _ a]; exact b⟩⟩
theorem s_range {t k e d : TypeId} {y : Operand} {g : Nat} (T : MapTy P t k e ek ok) (H : S w L) (k0 : Nat) (hw : Wt ops f o) (hd : o.dst = some d) (hN : Nat.blt d N = true) (hk : L[k0]? = some (Mp ek va ok g M)) (ho : o.op = .range t y) (hy : evo f y = some (.map (some g)))
    (h : ∀ r rem w', (∀ p, p ∈ rem ↔ ok p.1 ∧ M p.1 = some p.2) → S w' (L.set k0 (MpR ek va ok g r M rem none)) → G N K ((d, .pointer (some ⟨r, 0, none⟩)) :: f) ds w') : G N (StepK P ops Q o K) f ds w := by
  obtain ⟨es, c, kv, hb, hkv⟩ := H.mp hk
  have hgl : g < w.heap.size := (Array.getElem?_eq_some_iff.1 hb).1
  have hrun : (Instr.range t (.map (some g))).run P w = .ok (.pointer (some ⟨w.heap.size, 0, none⟩)) (w.alloc (.mapIter (some g) c #[] c)) := by
    simp [Instr.range, run_underlying T.ht, MapKept.run_getObj_map hb, newObj, Sem.run, Result.andThen]
  have hs : Same (fun j => j < w.heap.size) w (w.alloc (.mapIter (some g) c #[] c)) := ⟨rfl, rfl, rfl, by simp, fun j hj => Below.heap_alloc _ _ _ hj⟩
  have hrem : remOf es kv #[] = kv := by
    unfold remOf zipOf
    rw [List.filter_eq_self.2 (fun z _ => by simp)]
    exact List.map_snd_zip (by have := hkv.len; simp; omega)
  refine s_val hw hd hN (ex_of (x := Instr.range t (.map (some g))) (fun a ha => by unfold execOp; simp only [ho, ha.eval hy]) hrun) (h _ kv _ hkv.is ?_)
  refine H.turn hk (hs.less fun j hj => hj.1) ⟨by omega, es, c, kv, #[], c, c, ?_, hkv, heap_alloc_new w _, hkv.old, ⟨Nat.le_refl _, Nat.le_refl _⟩, hrem.symm, fun h => Bool.noConfusion h, trivial⟩ (fun j hj => ?_)
  · rw [Below.heap_alloc _ _ _ hgl]; exact hb
  · rcases hj with rfl | rfl
    · exact ⟨.inl rfl, by simp; omega⟩
    · exact ⟨.inr (Nat.le_refl _), by simp⟩
/-- The next one: nothing is left, or one of those that are. -/
theorem s_next {d : TypeId} {y : Operand} {g r : Nat} {rem : List (κ × α)} {cur : Option (κ × α)} (H : S w L) (k0 : Nat) (hw : Wt ops f o) (hd : o.dst = some d) (hN : Nat.blt d N = true) (hk : L[k0]? = some (MpR ek va ok g r M rem cur)) (ho : o.op = .next y false) (hy : evo f y = some (.pointer (some ⟨r, 0, none⟩)))
    (h0 : rem = [] → G N K ((d, .tuple #[.bool false]) :: f) ds w)
    (h1 : ∀ p rem' w', p ∈ rem → ok p.1 → M p.1 = some p.2 → (∀ q, q ∈ rem' ↔ q ∈ rem ∧ q ≠ p) → rem'.length < rem.length → S w' (L.set k0 (MpR ek va ok g r M rem' (some p))) → G N K ((d, .tuple #[.bool true, ek p.1, va p.2]) :: f) ds w') : G N (StepK P ops Q o K) f ds w := by
  obtain ⟨hn, es, c, kv, seen, since, st, hb, hkv, hr, hold, hsc, hrem, _, hcur⟩ := H.at hk
  rcases run_next_at (P := P) w o.type r g since st seen es c hr hb hold hsc.1 with ⟨h2, h3⟩ | ⟨e, he, w1, hw1, h3⟩
  · refine s_val hw hd hN (ex_of (x := Instr.next (.pointer (some ⟨r, 0, none⟩)) false o.type) (fun a ha => by unfold execOp; simp only [ho, ha.eval hy]) h3) (h0 ?_)
    rw [hrem]
    unfold remOf
    have h4 := hkv.left seen
    have h5 : (leftOf es seen).toList = [] := by
      have : (leftOf es seen).toList.length = 0 := by simpa using h2
      exact List.eq_nil_of_length_eq_zero this
    rw [h5] at h4
    have : zipOf es kv seen = [] := List.map_eq_nil_iff.1 h4.symm
    rw [this]; rfl
  · obtain ⟨p, p1, p2, p3, p4, p5, p6⟩ := hkv.rem_next he
    have hpk : p ∈ kv := by
      obtain ⟨z, hz, rfl⟩ := List.mem_map.1 p1
      obtain ⟨j, _, j2, _⟩ := hkv.zip_at (List.mem_filter.1 hz).1
      exact List.mem_of_getElem? j2
    have hp := (hkv.is p).1 hpk
    rw [p3, p4] at h3
    refine s_val hw hd hN (ex_of (x := Instr.next (.pointer (some ⟨r, 0, none⟩)) false o.type) (fun a ha => by unfold execOp; simp only [ho, ha.eval hy]) h3) (h1 p (remOf es kv (seen.push e.born)) _ (hrem ▸ p1) hp.1 hp.2 (by rw [hrem]; exact p5) (by rw [hrem]; exact p6) ?_)
    have hw1h : w1.heap = w.heap := by rcases hw1 with rfl | rfl <;> rfl
    have hr1 : w1.heap[r]? = some (.mapIter (some g) since seen st) := by rw [hw1h]; exact hr
    have hS1 : S w1 L := by
      rcases hw1 with rfl | rfl
      · exact H
      · exact H.drew
    refine hS1.turn hk ((same_setBlock w1 r _).less fun j hj => fun e => hj.2 (.inr e)) ⟨hn, es, c, kv, _, since, c, ?_, hkv, heap_setBlock hr1, hold, ⟨hsc.2, hsc.2⟩, rfl, fun _ => rfl, seen, e, rfl, p2, p3, p4⟩ (fun j hj => ⟨.inl hj, ?_⟩)
    · rw [(same_setBlock w1 r _).block g hn, hw1h]; exact hb
    · exact Nat.lt_of_lt_of_le (hS1.lt hk hj) (same_setBlock w1 r _).size
theorem x_entry {t k e0 : TypeId} {y : Operand} {g r : Nat} {rem : List (κ × α)} {p : κ × α} (H : S w L) (k0 : Nat) (hk : L[k0]? = some (MpR ek va ok g r M rem (some p))) (ho : o.op = .entry y) (hy : evo f y = some (.pointer (some ⟨r, 0, none⟩))) : Ex P N f ds o w (.tuple #[ek p.1, va p.2]) w :=
  ex_of (x := Instr.entry (.pointer (some ⟨r, 0, none⟩))) (fun a ha => by unfold execOp; simp only [ho, ha.eval hy]) (by
    obtain ⟨hn, es, c, kv, seen, since, st, hb, hkv, hr, hold, hsc, hrem, hst, seen0, e, rfl, h2, h3, h4⟩ := H.at hk
    have hst := hst rfl
    subst hst
    rw [run_entry_at w r g since seen0 es _ e hr hb h2 hkv.born, h3, h4])
end
end Go.Proofs.Ytdkfkdekiljcoaa
namespace Go.Proofs.Ytdkfkdekiljcoaa
open Go.RowKit

/-! ## Functions without a body; the copy of a map -/
section
variable {P : Program} {N : Nat} {Q : Exit → Act → World → Prop} {f : Fr} {ds : List Deferred} {w w' : World} {o : Oper} {ops : Array Oper} {L : List Item} {K : Act → World → Prop}
variable {κ α : Type} {ek : κ → Value} {va : α → Value} {ok : κ → Prop} {M : κ → Option α}
end
end Go.Proofs.Ytdkfkdekiljcoaa
namespace Go.Proofs.Ytdkfkdekiljcoaa
open Go.RowKit

section
variable {P : Program} {N : Nat} {f : Fr} {ds : List Deferred} {w : World} {ops : Array Oper} {Q : Exit → Act → World → Prop} {K : Act → World → Prop} {o : Oper} {L : List Item}
end
theorem Reads.take {w : World} {p : Option Addr} {n c size : Nat} {xs : List Value} (hr : Reads w p n c size xs) (k : Nat) (hk : k ≤ n) : Reads w p k c size (xs.take (k * size)) := by
  obtain ⟨k1, k2, k3⟩ := hr
  have hx : k * size ≤ n * size := Nat.mul_le_mul_right _ hk
  refine ⟨by rw [List.length_take, k1]; omega, by omega, fun h0 => ?_⟩
  obtain ⟨a, ha, hc⟩ := k3 (by omega)
  refine ⟨a, ha, fun j u hu => hc j u ?_⟩
  have hj := (List.getElem?_eq_some_iff.1 hu).1
  rw [List.length_take] at hj
  rwa [List.getElem?_take_of_lt (by omega)] at hu
/-- A cut from the front, with its own end as capacity. -/
def clipP (p : Option Addr) (k size : Nat) : Option Addr := if k = 0 then p else p.map fun q => q.add (0 * size)
end Go.Proofs.Ytdkfkdekiljcoaa
namespace Go.Proofs.Ytdkfkdekiljcoaa
open Go.RowKit
open Go.ChangeMaps (setBlock)

/-! ## Loops round by round; clear; delete -/
section
variable {P : Program} {N : Nat} {Q : Exit → Act → World → Prop} {f : Fr} {ds : List Deferred} {w w' : World} {o : Oper} {ops : Array Oper} {L : List Item} {K : Act → World → Prop}
theorem g_rounds {c : Code} (n : Nat) (h : G N (Code.rounds P c Q n) f ds w) : G N ((Code.loop c).wp P Q) f ds w := fun a ha => wp_loop_rounds n (h a ha)
theorem g_roundU {c : Code} {n : Nat} (h : G N (c.wp P (Exit.then (Code.rounds P c Q n) Q)) f ds w) : G N (Code.rounds P c Q (n + 1)) f ds w := h
theorem zero_ones {z : Value} {n : Nat} (h1 : z.cells.toList.all (·.oneCell') = true) (hs : 0 < z.cells.size) : ∀ v ∈ (Builtin.zeroCells z.cells n).toList, v.oneCell' = true := fun v hv => by
  unfold Builtin.zeroCells at hv
  rw [Array.toList_map] at hv
  obtain ⟨i, _, rfl⟩ := List.mem_map.1 hv
  have hi : i % z.cells.size < z.cells.size := Nat.mod_lt _ hs
  rw [getElem!_pos z.cells _ hi]
  exact List.all_eq_true.1 h1 _ (by simp)
theorem zero_len (cs : Array Value) (n : Nat) : (Builtin.zeroCells cs n).toList.length = n * cs.size := by unfold Builtin.zeroCells; simp
theorem s_clear {t e size n c i : Nat} {x : Operand} {z : Value} {p : Option Addr} {xs : List Value} (H : S w L) (k : Nat) (hw : Wt ops f o) (hd : o.dst = none) (ho : o.op = .call { callee := .builtin .clear, args := #[x], argTypes := #[t] })
    (hx : evo f x = some (.slice (cutP p i c size) (n - i) (c - i))) (hk : L[k]? = some (Rw e size p n c xs)) (ht : P.underlying t = some (.slice e)) (hz : zeO P e = some z) (hzs : z.cells.size = size) (h1 : z.cells.toList.all (·.oneCell') = true) (hs : 0 < size) (hi : i ≤ n)
    (h : ∀ w', S w' (L.set k (Rw e size p i c (xs.take (i * size)))) → G N K f ds w') : G N (StepK P ops Q o K) f ds w := by
  obtain ⟨k1, k2, k3, k4⟩ := H.rw hk
  have his : i * size ≤ n * size := Nat.mul_le_mul_right _ hi
  have hic : i * size ≤ c * size := Nat.mul_le_mul_right _ (Nat.le_trans hi k2)
  have hns : n * size ≤ c * size := Nat.mul_le_mul_right _ k2
  have hl : (xs.take (i * size)).length = i * size := by rw [List.length_take]; omega
  have hxt : ∀ j u, (xs.take (i * size))[j]? = some u → j < i * size ∧ xs[j]? = some u := fun j u hu => by
    rw [List.getElem?_take] at hu
    split at hu
    · rename_i hj; exact ⟨hj, hu⟩
    · cases hu
  rcases Nat.eq_zero_or_pos (n - i) with h0 | h0
  · rw [h0] at hx
    have hr : ∀ ty, (Builtin.clear_ #[t] ty #[.slice (cutP p i c size) 0 (c - i)]).run P w = .ok (.tuple #[]) w := fun ty => by
      cases cutP p i c size <;> simp [Builtin.clear_, run_underlying ht]
    refine s_val0 hw hd (x_builtin (vs := [.slice (cutP p i c size) 0 (c - i)]) (v := .tuple #[]) (w' := w) ho (by simp only [evs, hx]) (fun cs => by simp [builtin, hr])) (h _ ?_)
    refine H.turn hk ⟨rfl, rfl, rfl, Nat.le_refl _, fun _ _ => rfl⟩ ⟨hl, by omega, k3, ?_⟩ (fun g hg => ⟨.inl hg, H.lt hk hg⟩)
    rcases k4 with ⟨q1, q2, q3⟩ | ⟨g, off, cur, q1, q2, q3, q4⟩
    · exact .inl ⟨q1, by omega, q3⟩
    · exact .inr ⟨g, off, cur, q1, q2, q3, fun j u hu => q4 j u (hxt j u hu).2⟩
  · rcases k4 with ⟨_, q2, _⟩ | ⟨g, off, cur, rfl, q2, q3, q4⟩
    · omega
    · have hc : cutP (some ⟨g, off, none⟩) i c size = some ⟨g, off + i * size, none⟩ := by
        unfold cutP
        rw [if_neg (by omega), Option.map_some, add_lit']
      rw [hc] at hx
      have hnl : (n - i) * size = n * size - i * size := Nat.sub_mul n i size
      have hst := run_storeCells_at P g (off + i * size) e (Builtin.zeroCells z.cells (n - i)).toList 0 cur w q2 (by rw [zero_len, hzs, hnl]; omega) (zero_ones h1 (by omega))
      have hr : ∀ ty, (Builtin.clear_ #[t] ty #[.slice (some ⟨g, off + i * size, none⟩) (n - i) (c - i)]).run P w = .ok (.tuple #[]) (w.setRow g (cur.toList.take (off + i * size) ++ (Builtin.zeroCells z.cells (n - i)).toList ++ cur.toList.drop (off + i * size + (Builtin.zeroCells z.cells (n - i)).toList.length)).toArray) := fun ty => by
        obtain ⟨m, hm⟩ : ∃ m, n - i = m + 1 := ⟨n - i - 1, by omega⟩
        rw [hm] at hst ⊢
        simp only [Nat.add_zero] at hst
        simp [Builtin.clear_, run_underlying ht, run_ze hz, hst]
      refine s_val0 hw hd (x_builtin (vs := [.slice (some ⟨g, off + i * size, none⟩) (n - i) (c - i)]) (v := .tuple #[]) (w' := w.setRow g (cur.toList.take (off + i * size) ++ (Builtin.zeroCells z.cells (n - i)).toList ++ cur.toList.drop (off + i * size + (Builtin.zeroCells z.cells (n - i)).toList.length)).toArray) ho (by simp only [evs, hx]) (fun cs => by simp only [builtin, hr, Sem.run_bind, Result.andThen_ok, Sem.run_pure])) (h _ ?_)
      have hlt : g < w.heap.size := (Array.getElem?_eq_some_iff.1 q2).1
      have hcl : cur.toList.length = cur.size := by simp
      refine H.turn hk ((same_setRow w g _).less fun b hb he => hb.2 ⟨off, by rw [he]⟩) ⟨hl, by omega, k3, .inr ⟨g, off, _, rfl, by simp only [World.setRow, Array.getElem?_modify, if_true, q2, Option.map_some]; rfl, ?_, fun j u hu => ?_⟩⟩ (fun b hb => ⟨.inl hb, ?_⟩)
      · simp only [List.size_toArray, List.length_append, List.length_take, List.length_drop, zero_len, hzs, hnl, hcl]; omega
      · obtain ⟨hj, hu⟩ := hxt j u hu
        simp only [List.getElem?_toArray]
        rw [List.append_assoc, List.getElem?_append, List.length_take, hcl, if_pos (by omega), List.getElem?_take, if_pos (by omega), Array.getElem?_toList]
        exact q4 j u hu
      · obtain ⟨o', ho'⟩ := hb
        have : b = g := by cases ho'; rfl
        rw [this]
        exact Nat.lt_of_lt_of_le hlt (same_setRow w g _).size
end
section
variable {κ α : Type} {ek : κ → Value} {va : α → Value} {ok : κ → Prop}
theorem map_erase {α β : Type} (f : α → β) : ∀ (l : List α) (j : Nat), (l.eraseIdx j).map f = (l.map f).eraseIdx j
  | [], _ => rfl
  | a :: l, 0 => rfl
  | a :: l, j + 1 => by simp only [List.eraseIdx_cons_succ, List.map_cons, map_erase f l j]
theorem erase_list (es : Array MapEntry) (j : Nat) : (es.eraseIdxIfInBounds j).toList = es.toList.eraseIdx j := by
  unfold Array.eraseIdxIfInBounds
  split
  · simp
  · rename_i h
    rw [List.eraseIdx_of_length_le (by simpa using h)]
def delM {κ α : Type} [DecidableEq κ] (M : κ → Option α) (x : κ) : κ → Option α := fun y => if y = x then none else M y
theorem KV.del {κ α : Type} [DecidableEq κ] {ek : κ → Value} {va : α → Value} {ok : κ → Prop} {M : κ → Option α} {es : Array MapEntry} {c : Nat} {kv : List (κ × α)} (h : KV ek va ok M es c kv) {x : κ} {b : α} {j : Nat} (hj : kv[j]? = some (x, b)) : KV ek va ok (delM M x) (es.eraseIdxIfInBounds j) c (kv.eraseIdx j) := by
  refine ⟨?_, ?_, ?_, ?_, ?_, ?_⟩
  · rw [erase_list, map_erase, map_erase, h.same]
  · rw [map_erase]; exact h.nodup.sublist (List.eraseIdx_sublist _ _)
  · exact fun p hp => h.oks p (List.mem_of_mem_eraseIdx hp)
  · rw [erase_list, map_erase]; exact h.born.sublist (List.eraseIdx_sublist _ _)
  · intro e he
    rw [erase_list] at he
    exact h.old e (List.mem_of_mem_eraseIdx he)
  · intro p
    unfold delM
    constructor
    · intro hp
      obtain ⟨i, hi, hpi⟩ := List.mem_eraseIdx_iff_getElem?.1 hp
      obtain ⟨h1, h2⟩ := (h.is p).1 (List.mem_of_getElem? hpi)
      refine ⟨h1, ?_⟩
      rw [if_neg (fun e => hi (nodup_fst h.nodup hpi hj e))]
      exact h2
    · rintro ⟨h1, h2⟩
      split at h2
      · cases h2
      · rename_i hne
        obtain ⟨i, hi⟩ := List.getElem?_of_mem ((h.is p).2 ⟨h1, h2⟩)
        refine List.mem_eraseIdx_iff_getElem?.2 ⟨i, fun e => ?_, hi⟩
        subst e
        rw [hj] at hi
        cases hi
        exact hne rfl
theorem KV.delNone {κ α : Type} [DecidableEq κ] {ek : κ → Value} {va : α → Value} {ok : κ → Prop} {M : κ → Option α} {es : Array MapEntry} {c : Nat} {kv : List (κ × α)} (h : KV ek va ok M es c kv) {x : κ} (hM : M x = none) : KV ek va ok (delM M x) es c kv := by
  have e : delM M x = M := by
    funext y
    unfold delM
    split
    · rename_i h; rw [h, hM]
    · rfl
  rw [e]; exact h
variable {P : Program} {N : Nat} {Q : Exit → Act → World → Prop} {f : Fr} {ds : List Deferred} {w w' : World} {o : Oper} {ops : Array Oper} {L : List Item} {K : Act → World → Prop} {M : κ → Option α}
theorem s_delete {κ α : Type} [DecidableEq κ] {ek : κ → Value} {va : α → Value} {ok : κ → Prop} {M : κ → Option α} {t k e : TypeId} {m y : Operand} {g : Nat} {x : κ} (T : MapTy P t k e ek ok) (H : S w L) (k0 : Nat) (hw : Wt ops f o) (hd : o.dst = none) (hk : L[k0]? = some (Mp ek va ok g M))
    (ho : o.op = .call { callee := .builtin .delete, args := #[m, y], argTypes := #[t, k] }) (hm : evo f m = some (.map (some g))) (hy : evo f y = some (ek x)) (hx : ok x)
    (h : ∀ w', S w' (L.set k0 (Mp ek va ok g (delM M x))) → G N K f ds w') : G N (StepK P ops Q o K) f ds w := by
  obtain ⟨es, c, kv, hb, hkv⟩ := H.mp hk
  obtain ⟨l, hl⟩ := T.key x hx
  have hrun : ∃ es' kv', (∀ ty, (Builtin.delete_ #[t, k] ty #[.map (some g), ek x]).run P w = .ok (.tuple #[]) (setBlock w g (.map es' c))) ∧ KV ek va ok (delM M x) es' c kv' := by
    rcases hkv.find T w hx with ⟨h1, h2⟩ | ⟨j, b, h1, h2, h3, q, hq, hqk⟩
    · refine ⟨es, kv, fun ty => ?_, hkv.delNone h1⟩
      simp [Builtin.delete_, run_underlying T.ht, MapKept.run_getObj_map hb, T.K.check w _ hl, h2, MapKept.run_setObj_map _ hb, Result.andThen, setBlock]
    · refine ⟨_, _, fun ty => ?_, hkv.del h2⟩
      simp [Builtin.delete_, run_underlying T.ht, MapKept.run_getObj_map hb, T.K.check w _ hl, h3, MapKept.run_setObj_map _ hb, Result.andThen, setBlock]
  obtain ⟨es', kv', hrun, hkv'⟩ := hrun
  refine s_val0 hw hd (x_builtin (vs := [.map (some g), ek x]) (v := .tuple #[]) (w' := setBlock w g (.map es' c)) ho (by simp only [evs, hm, hy]) (fun cs => by simp only [builtin, hrun, Sem.run_bind, Result.andThen_ok, Sem.run_pure])) (h _ ?_)
  exact H.turn hk ((same_setBlock w g _).less fun j hj => hj.2) ⟨es', c, kv', heap_setBlock hb, hkv'⟩ (fun j hj => by
    have : j = g := hj
    exact ⟨.inl this, Nat.lt_of_lt_of_le (H.lt hk this) (same_setBlock w g _).size⟩)
end
end Go.Proofs.Ytdkfkdekiljcoaa
namespace Go.Proofs.Ytdkfkdekiljcoaa
open Go.RowKit Go.Deep

/-! ## Bytes of a text as a block of one's own, and stores into it -/
section
variable {P : Program} {N : Nat} {Q : Exit → Act → World → Prop} {f : Fr} {ds : List Deferred} {w w' : World} {o : Oper} {ops : Array Oper} {L : List Item} {K : Act → World → Prop}
theorem s_bytesOf2 {d sT dT e : Nat} {x : Operand} {s : ByteArray} (H : S w L) (hw : Wt ops f o) (hd : o.dst = some d) (hN : Nat.blt d N = true) (ho : o.op = .convert sT dT x) (hx : evo f x = some (.string s))
    (hs : P.underlying sT = some .string) (hd' : P.underlying dT = some (.slice e)) (he : P.underlying e = some (.int .u8))
    (h : ∀ g c fr cs w', S w' (Ob g (.cells cs e fr) :: L) → (∀ j, j < s.size → cs[j]? = some (.int .u8 ((s.data.toList.getD j 0).toNat : Nat))) → s.size ≤ c → (s.size ≤ cs.size ∧ cs.size ≤ fr.1) → G N K ((d, .slice (some ⟨g, 0, none⟩) s.size c) :: f) ds w') : G N (StepK P ops Q o K) f ds w := by
  have hrun := Lib.run_convert_string_bytes (P := P) w sT dT e s hs hd' he
  have hS : S (Lib.bytesWorld w e s) (Ob w.heap.size (.cells (Lib.bytesCells w e s) e ((Lib.bytesCells w e s).size, (Lib.bytesCells w e s).size + 1)) :: L) := by
    refine (H.move (same_bytes w e s)).cons (Lib.bytesWorld_at_new w e s) (fun g hg => ?_) (fun x hx g hg hx' => ?_)
    · rw [Lib.bytesWorld_size]; have hg : g = w.heap.size := hg; omega
    · have hg : g = w.heap.size := hg
      have := (H.1 x hx).2 g hx'
      omega
  exact s_val hw hd hN (ex_of (x := convert sT dT (.string s)) (fun a ha => by unfold execOp; simp only [ho, ha.eval hx]) hrun)
    (h _ _ _ _ _ hS (fun j hj => by
      simp only [Lib.bytesCells]
      rw [Array.getElem?_append_left (by simpa using hj)]
      simp [List.getD, hj]) (grownCap_ge w s.size 0 e) ⟨by simp [Lib.bytesCells], Nat.le_refl _⟩)
/-- A store of one cell into a block of which cells behind are frozen. -/
theorem s_storeF {t : TypeId} {x y : Operand} {g i : Nat} {cs : Array Value} {e : TypeId} {fr : Nat × Nat} {v : Value} (H : S w L) (k : Nat) (hw : Wt ops f o) (hd : o.dst = none) (ho : o.op = .store t x y) (hx : evo f x = some (.pointer (some ⟨g, i, none⟩)))
    (hy : evo f y = some v) (hk : L[k]? = some (Ob g (.cells cs e fr))) (hn : szO P t = some 1) (hv : v.cells = #[v]) (h1 : v.oneCell' = true) (hi : i < cs.size) (hf : i < fr.1)
    (h : ∀ w', S w' (L.set k (Ob g (.cells (cs.setIfInBounds i v) e fr))) → G N K f ds w') : G N (StepK P ops Q o K) f ds w := by
  have hg := H.ob hk
  have hcell : w.cell? ⟨g, i, none⟩ = some cs[i] := by simp [World.cell?, hg, hi]
  have hfro : w.frozen? ⟨g, i, none⟩ = false := by simp [World.frozen?, hg]; omega
  have hst : (storeVar t ⟨g, i, none⟩ v).run P w = .ok () (w.setCell ⟨g, i, none⟩ v) := by
    unfold storeVar
    rw [hv]
    simp only [Sem.run_bind, run_sz hn, Result.andThen_ok]
    have hadd : (⟨g, i, none⟩ : Addr).add 0 = ⟨g, i, none⟩ := by unfold Addr.add; simp
    have : (store ((⟨g, i, none⟩ : Addr).add 0) v).run P w = .ok () (w.setCell ⟨g, i, none⟩ v) := by
      rw [hadd, run_store P w _ v _ h1, hcell]
      simp [hfro]
    simp [storeCells, this]
  exact s_unit hw hd (exu_store ho hx hy hst) (h _ (H.write hk (same_setCell w g i v) (by
    simp [World.setCell, Array.getElem?_modify, hg])))
/-- An element of an array that is a value; the element is an aggregate. -/
theorem x_indexAgg {t e : TypeId} {len n : Nat} {d : TypeDesc} {x y : Operand} {cs vs : Array Value} {k : IntKind} {i : Int} (j : Nat) (ho : o.op = .index t x y) (hx : evo f x = some (.agg cs)) (hy : evo f y = some (.int k i)) (hu : P.underlying t = some (.array len e)) (hz : szO P e = some n) (he : P.underlying e = some d) (hd : aggB d = true)
    (hb : i = (j : Int) ∧ j < len) (hv : cs.extract (j * n) (j * n + n) = vs) : Ex P N f ds o w (.agg vs) w :=
  ex_of (x := Instr.index t (.agg cs) (.int k i)) (fun a ha => by unfold execOp; simp only [ho, ha.eval hx, ha.eval hy]) (by
    obtain ⟨rfl, hj⟩ := hb
    unfold Instr.index
    simp only [asIntOf, Sem.run_bind, Sem.run_pure, Result.andThen_ok, run_underlying hu]
    have : (0 : Int) ≤ (j : Int) ∧ (j : Int) < (len : Int) := by omega
    simp only [if_pos this, Sem.run_bind, run_sz hz, Result.andThen_ok, Int.toNat_natCast]
    exact run_partA he hd hz hv)
end
end Go.Proofs.Ytdkfkdekiljcoaa
namespace Go.Proofs.Ytdkfkdekiljcoaa
open Go.RowKit Go.Deep

/-! Tables of types, each held once against the program. -/
def lk1 (k : Nat) : List (Nat × Nat) → Option Nat
  | [] => none
  | (a, b) :: r => bif Nat.beq a k then some b else lk1 k r
def lk2 (k i : Nat) : List (Nat × Nat × Nat) → Option Nat
  | [] => none
  | (a, b, c) :: r => bif Nat.beq a k && Nat.beq b i then some c else lk2 k i r
def unL : List (Nat × Nat) := [(3, 0), (4, 0), (5, 0), (9, 0), (27, 0), (28, 0), (37, 0), (45, 0), (52, 0), (62, 0), (67, 0), (90, 0), (91, 0)]
def szL : List (Nat × Nat) := [(3, 1), (4, 1), (5, 1), (9, 1), (23, 5), (27, 1), (28, 1), (33, 8), (35, 9), (37, 1), (45, 1), (49, 3), (51, 5), (52, 1), (54, 7), (55, 14), (57, 19), (62, 1), (67, 1), (69, 2), (75, 11), (80, 21), (88, 42), (90, 1), (91, 1), (93, 6)]
def foL : List (Nat × Nat × Nat) := [(23, 0, 0), (23, 1, 1), (23, 2, 2), (23, 3, 3), (23, 4, 4), (33, 0, 0), (33, 1, 1), (33, 2, 2), (33, 3, 3), (33, 4, 4), (33, 5, 5), (33, 6, 6), (33, 7, 7), (35, 0, 0), (35, 1, 1), (49, 0, 0), (51, 0, 0), (51, 1, 1), (51, 2, 2), (51, 3, 3), (51, 4, 4), (54, 0, 0), (54, 1, 1), (54, 2, 2), (54, 3, 3), (54, 4, 4), (54, 5, 5), (54, 6, 6), (57, 0, 0), (57, 1, 5), (69, 1, 1), (75, 0, 0), (75, 1, 1), (75, 2, 9), (75, 3, 10), (93, 1, 1), (93, 2, 2), (93, 3, 3), (93, 4, 4), (93, 5, 5)]
def isO (o : Option Nat) (n : Nat) : Bool := match o with
  | some m => Nat.beq m n
  | none => false
theorem isO_eq {o : Option Nat} {n : Nat} (h : isO o n = true) : o = some n := by
  cases o with
  | none => exact absurd h (by simp [isO])
  | some m => exact congrArg some (Nat.eq_of_beq_eq_true h)
theorem lk1_of {k n : Nat} {Q : Nat → Nat → Bool} : ∀ {l : List (Nat × Nat)}, l.all (fun e => Q e.1 e.2) = true → lk1 k l = some n → Q k n = true
  | [], _, h => absurd h (by simp [lk1])
  | (a, b) :: r, h, hk => by
    rw [List.all_cons, Bool.and_eq_true] at h
    unfold lk1 at hk
    cases e : Nat.beq a k with
    | false => rw [e] at hk; exact lk1_of h.2 hk
    | true =>
      rw [e] at hk
      cases hk
      have := Nat.eq_of_beq_eq_true e
      subst this
      exact h.1
theorem lk2_of {k i n : Nat} {Q : Nat → Nat → Nat → Bool} : ∀ {l : List (Nat × Nat × Nat)}, l.all (fun e => Q e.1 e.2.1 e.2.2) = true → lk2 k i l = some n → Q k i n = true
  | [], _, h => absurd h (by simp [lk2])
  | (a, b, c) :: r, h, hk => by
    rw [List.all_cons, Bool.and_eq_true] at h
    unfold lk2 at hk
    cases e : (Nat.beq a k && Nat.beq b i) with
    | false => rw [e] at hk; exact lk2_of h.2 hk
    | true =>
      rw [e] at hk
      cases hk
      rw [Bool.and_eq_true] at e
      have h1 := Nat.eq_of_beq_eq_true e.1
      have h2 := Nat.eq_of_beq_eq_true e.2
      subst h1 h2
      exact h.1
theorem unB_all : unL.all (fun e => (Try.prog.underlying e.1).elim false fun d => !(aggB d)) = true := by kernel_rfl
theorem szB_all : szL.all (fun e => isO (szO Try.prog e.1) e.2) = true := by kernel_rfl
theorem foB_all : foL.all (fun e => isO (foO Try.prog e.1 e.2.1) e.2.2) = true := by kernel_rfl
theorem unT {t : Nat} (h : lk1 t unL = some 0) : ∃ d, Try.prog.underlying t = some d ∧ aggB d = false := by
  have h1 : ((Try.prog.underlying t).elim false fun d => !(aggB d)) = true := lk1_of (Q := fun a _ => (Try.prog.underlying a).elim false fun d => !(aggB d)) unB_all h
  cases e : Try.prog.underlying t with
  | none => rw [e] at h1; cases h1
  | some d => rw [e] at h1; exact ⟨d, rfl, by simpa using h1⟩
theorem szT {t n : Nat} (h : lk1 t szL = some n) : szO Try.prog t = some n := isO_eq (lk1_of (Q := fun a b => isO (szO Try.prog a) b) szB_all h)
theorem foT {s i n : Nat} (h : lk2 s i foL = some n) : foO Try.prog s i = some n := isO_eq (lk2_of (Q := fun a b c => isO (foO Try.prog a b) c) foB_all h)
end Go.Proofs.Ytdkfkdekiljcoaa
namespace Go.Proofs.Ytdkfkdekiljcoaa
open Go.RowKit Go.Deep

/-! ## Short forms of steps -/
section
variable {P : Program} {N : Nat} {Q : Exit → Act → World → Prop} {f : Fr} {ds : List Deferred} {w w' : World} {o : Oper} {ops : Array Oper} {rest : List Oper} {L : List Item} {d : Nat} {v : Value}
theorem w_s {y : Code} {id : Nat} {l : List Oper} (h : G N (wpList P l.toArray (Exit.then (y.wp P Q) Q) l) f ds w) : G N ((Code.seq (Code.region id l.toArray false) y).wp P Q) f ds w := g_seq (g_region h)
theorem w_e {K : Act → World → Prop} (h : G N K f ds w) : G N (wpList P ops (Exit.then K Q) []) f ds w := g_nil (g_then h)
theorem w_v (hx : Ex P N f ds o w v w') (h : G N (wpList P ops Q rest) ((d, v) :: f) ds w') (hg : o.guard = none := by rfl) (hd : o.dst = some d := by rfl) (hN : Nat.blt d N = true := by rfl) : G N (wpList P ops Q (o :: rest)) f ds w := l_of (s_val (wt0 hg) hd hN hx h)
theorem w_g {j : Nat} {b b' : Bool} {oj : Oper} {dj : Nat} (h4 : b' = b) (hx : Ex P N f ds o w v w') (h : G N (wpList P ops Q rest) ((d, v) :: f) ds w') (h0 : o.guard = some (j, b) := by rfl) (h1 : ops[j]? = some oj := by rfl) (h2 : oj.dst = some dj := by rfl) (h3 : gt f dj = some (.bool b') := by rfl) (hd : o.dst = some d := by rfl) (hN : Nat.blt d N = true := by rfl) : G N (wpList P ops Q (o :: rest)) f ds w := l_of (s_val (wt1 h0 h1 h2 h3 h4) hd hN hx h)
theorem w_m {x : Operand} (h : G N (wpList P ops Q rest) ((d, v) :: f) ds w) (hg : o.guard = none := by rfl) (hd : o.dst = some d := by rfl) (hN : Nat.blt d N = true := by rfl) (ho : o.op = .move x := by rfl) (hx : evo f x = some v := by rfl) : G N (wpList P ops Q (o :: rest)) f ds w := l_of (s_val (wt0 hg) hd hN (x_move ho hx) h)
theorem w_a {x : Operand} (h : G N (wpList P ops Q rest) ((d, v) :: f) ds w) (hg : o.guard = none := by rfl) (hd : o.dst = some d := by rfl) (hN : Nat.blt d N = true := by rfl) (ho : o.op = .assign x := by rfl) (hx : evo f x = some v := by rfl) : G N (wpList P ops Q (o :: rest)) f ds w := l_of (s_val (wt0 hg) hd hN (x_assign ho hx) h)
theorem w_f {s i n : Nat} {x : Operand} {g off : Nat} (off' : Nat) (h : G N (wpList P ops Q rest) ((d, .pointer (some ⟨g, off', none⟩)) :: f) ds w) (hg : o.guard = none := by rfl) (hd : o.dst = some d := by rfl) (hN : Nat.blt d N = true := by rfl) (ho : o.op = .fieldAddr s x i := by rfl) (hx : evo f x = some (.pointer (some ⟨g, off, none⟩)) := by rfl) (hf : foO P s i = some n := by exact foT rfl) (he : off + n = off' := by rfl) :
    G N (wpList P ops Q (o :: rest)) f ds w := l_of (s_val (wt0 hg) hd hN (x_fieldAddr ho hx hf he) h)
theorem w_1 {t : TypeId} {x : Operand} {g i : Nat} {cs : Array Value} {e : TypeId} {fr : Nat × Nat} (H : S w L) (k : Nat) (h : G N (wpList P ops Q rest) ((d, v) :: f) ds w) (hg : o.guard = none := by rfl) (hd : o.dst = some d := by rfl) (hN : Nat.blt d N = true := by rfl) (ho : o.op = .load t x := by rfl) (hx : evo f x = some (.pointer (some ⟨g, i, none⟩)) := by rfl) (hu : ∃ dd, P.underlying t = some dd ∧ aggB dd = false := by exact unT rfl)
    (hk : L[k]? = some (Ob g (.cells cs e fr)) := by rfl) (hv : cs[i]? = some v := by rfl) : G N (wpList P ops Q (o :: rest)) f ds w := by
  obtain ⟨dd, q1, q2⟩ := hu
  exact l_of (s_val (wt0 hg) hd hN (x_load1 H k ho hx q1 q2 hk hv) h)
theorem w_b {op : BinOp} {t ty : TypeId} {x y : Operand} {vx vy : Value} (h : G N (wpList P ops Q rest) ((d, v) :: f) ds w) (hg : o.guard = none := by rfl) (hd : o.dst = some d := by rfl) (hN : Nat.blt d N = true := by rfl) (ho : o.op = .binOp op t x y ty := by rfl) (hx : evo f x = some vx := by rfl) (hy : evo f y = some vy := by rfl) (hb : Bin P op t x y vx vy w v := by first | exact b_eql | exact b_lss | exact b_leq | exact b_gtr | exact b_geq) : G N (wpList P ops Q (o :: rest)) f ds w := l_of (s_val (wt0 hg) hd hN (x_bin ho hx hy hb) h)
theorem w_n {j : Nat} {b b' : Bool} {oj : Oper} {dj : Nat} (h4 : b' = !b) (h : G N (wpList P ops Q rest) ((d, undef) :: f) ds w) (h0 : o.guard = some (j, b) := by rfl) (h1 : ops[j]? = some oj := by rfl) (h2 : oj.dst = some dj := by rfl) (h3 : gt f dj = some (.bool b') := by rfl) (hd : o.dst = some d := by rfl) (hN : Nat.blt d N = true := by rfl) : G N (wpList P ops Q (o :: rest)) f ds w := l_of (s_not (wn1 h0 h1 h2 h3 h4) hd hN h)
theorem xf {s i n : Nat} {x : Operand} {g off : Nat} (off' : Nat) (ho : o.op = .fieldAddr s x i := by rfl) (hx : evo f x = some (.pointer (some ⟨g, off, none⟩)) := by rfl) (hf : foO P s i = some n := by exact foT rfl) (he : off + n = off' := by rfl) : Ex P N f ds o w (.pointer (some ⟨g, off', none⟩)) w := x_fieldAddr ho hx hf he
theorem xl {t : TypeId} {x : Operand} {g i : Nat} {cs : Array Value} {e : TypeId} {fr : Nat × Nat} (H : S w L) (k : Nat) (ho : o.op = .load t x := by rfl) (hx : evo f x = some (.pointer (some ⟨g, i, none⟩)) := by rfl) (hu : ∃ dd, P.underlying t = some dd ∧ aggB dd = false := by exact unT rfl) (hk : L[k]? = some (Ob g (.cells cs e fr)) := by rfl) (hv : cs[i]? = some v := by rfl) : Ex P N f ds o w v w := by
  obtain ⟨dd, q1, q2⟩ := hu
  exact x_load1 H k ho hx q1 q2 hk hv
theorem xm {x : Operand} (ho : o.op = .move x := by rfl) (hx : evo f x = some v := by rfl) : Ex P N f ds o w v w := x_move ho hx
theorem xa {x : Operand} (ho : o.op = .assign x := by rfl) (hx : evo f x = some v := by rfl) : Ex P N f ds o w v w := x_assign ho hx
theorem xn {x : Operand} {p : Addr} (ho : o.op = .nilCheck x := by rfl) (hx : evo f x = some (.pointer (some p)) := by rfl) : Ex P N f ds o w (.pointer (some p)) w := x_nilCheck ho hx
theorem xe {x : Operand} {i : Nat} {vs : Array Value} (ho : o.op = .extract x i := by rfl) (hx : evo f x = some (.tuple vs) := by rfl) (hv : vs[i]? = some v := by rfl) : Ex P N f ds o w v w := x_extract ho hx hv
/-- A store into a block that is told whole. -/
theorem w_st {K : Act → World → Prop} {t : TypeId} {x y : Operand} {g i : Nat} {cs : Array Value} {e : TypeId} (cs' : Array Value) (H : S w L) (k : Nat) (h : ∀ w', S w' (L.set k (Ob g (.cells cs' e (0, 0)))) → G N K f ds w') (hg : o.guard = none := by rfl) (hd : o.dst = none := by rfl) (ho : o.op = .store t x y := by rfl) (hx : evo f x = some (.pointer (some ⟨g, i, none⟩)) := by rfl)
    (hy : evo f y = some v := by rfl) (hk : L[k]? = some (Ob g (.cells cs e (0, 0))) := by rfl) (hn : szO P t = some v.cells.size := by exact szT rfl) (hl : Nat.ble (i + v.cells.size) cs.size = true := by rfl) (h1 : v.cells.toList.all (·.oneCell') = true := by rfl)
    (hc : (cs.toList.take i ++ v.cells.toList ++ cs.toList.drop (i + v.cells.size)).toArray = cs' := by rfl) : G N (StepK P ops Q o K) f ds w := s_store H k (wt0 hg) hd ho hx hy hk hn hl h1 hc h
theorem xf0 {s i n : Nat} {x : Operand} {g off : Nat} (ho : o.op = .fieldAddr s x i := by rfl) (hx : evo f x = some (.pointer (some ⟨g, off, none⟩)) := by rfl) (hf : foO P s i = some n := by exact foT rfl) : Ex P N f ds o w (.pointer (some ⟨g, off + n, none⟩)) w := x_fieldAddr ho hx hf rfl
/-- A call of which nothing stays. -/
theorem s_call0 {K : Act → World → Prop} {g : FuncId} {vs : List Value} (H : S w L) (hw : Wt ops f o) (hx : ExC P N f ds o w g vs w) (hc : Calls P g vs.toArray w (fun e w' => e = .returned v ∧ S w' [Old w no])) (hd : o.dst = some d) (hN : Nat.blt d N = true)
    (h : ∀ w', S w' L → G N K ((d, v) :: f) ds w') : G N (StepK P ops Q o K) f ds w :=
  s_call hw hx hc fun e w'' he => by
    obtain ⟨rfl, h2⟩ := he
    exact b_ret hd hN (h _ (H.absorb (new := []) h2))
/-- A call that gives the items it took back as they were. -/
theorem s_callK {K : Act → World → Prop} {g : FuncId} {vs : List Value} (H : S w L) (ks perm : List Nat) (hp : perm.Nodup) (hL : pks perm (pks ks L ++ drops ks 0 L) = L) (hw : Wt ops f o) (hx : ExC P N f ds o w g vs w) (hc : S w (pks ks L) → Calls P g vs.toArray w (fun e w' => e = .returned v ∧ S w' (pks ks L ++ [Old w (fps (pks ks L))]))) (hn : ks.Nodup) (hd : o.dst = some d) (hN : Nat.blt d N = true)
    (h : ∀ w', S w' L → G N K ((d, v) :: f) ds w') : G N (StepK P ops Q o K) f ds w :=
  s_call hw hx (hc (H.takes ks hn)) fun e w'' he => by
    obtain ⟨rfl, h2⟩ := he
    have h3 := (H.absorbI (new := pks ks L) ks h2).takes perm hp
    rw [hL] at h3
    exact b_ret hd hN (h _ h3)
end
section
variable {P : Program} {N : Nat} {ops : Array Oper} {Q : Exit → Act → World → Prop} {md : Region.Mode} {C : World → Prop} {T : List Nat} {f : Fr} {ds : List Deferred} {w : World} {listed : Array Bool} {fuel : Nat}
theorem and4 {a b c d : Bool} (h : (a && b && c && d) = true) : a = true ∧ b = true ∧ c = true ∧ d = true := by
  cases a <;> cases b <;> cases c <;> cases d <;> simp at h ⊢
theorem w_t {f0 : Fr} {d : Nat} {o : Oper} {v : Value} (i : Nat) (hi : ops[i]? = some o) (hC : C w) (hx : ∀ w, C w → Ex P N f ds o w v w)
    (h : G N (wpAnyX P md ops (PanP N f0 ds Q) C T fuel (listed.setIfInBounds i true)) ((d, v) :: f) ds w) (hg : o.guard = none := by rfl) (hd : o.dst = some d := by rfl) (hN : Nat.blt d N = true := by rfl) (h0 : gt f0 d = none := by rfl) (hB : (Region.noSelect ops && Region.free md ops listed i && (Region.ready md ops listed).contains i && waits md ops T i) = true := by kernel_rfl) : G N (wpAnyX P md ops (PanP N f0 ds Q) C T (fuel + 1) listed) f ds w :=
  a_take i hi (wt0 hg) hd hN h0 (and4 hB).1 (and4 hB).2.1 (and4 hB).2.2.1 (and4 hB).2.2.2 hC hx h
theorem w_tg {f0 : Fr} {d : Nat} {o : Oper} {v : Value} {j : Nat} {b b' : Bool} {oj : Oper} {dj : Nat} (i : Nat) (hi : ops[i]? = some o) (h4 : b' = b) (hC : C w) (hx : ∀ w, C w → Ex P N f ds o w v w)
    (h : G N (wpAnyX P md ops (PanP N f0 ds Q) C T fuel (listed.setIfInBounds i true)) ((d, v) :: f) ds w) (g0 : o.guard = some (j, b) := by rfl) (g1 : ops[j]? = some oj := by rfl) (g2 : oj.dst = some dj := by rfl) (g3 : gt f dj = some (.bool b') := by rfl) (hd : o.dst = some d := by rfl) (hN : Nat.blt d N = true := by rfl) (h0 : gt f0 d = none := by rfl) (hB : (Region.noSelect ops && Region.free md ops listed i && (Region.ready md ops listed).contains i && waits md ops T i) = true := by kernel_rfl) : G N (wpAnyX P md ops (PanP N f0 ds Q) C T (fuel + 1) listed) f ds w :=
  a_take i hi (wt1 g0 g1 g2 g3 h4) hd hN h0 (and4 hB).1 (and4 hB).2.1 (and4 hB).2.2.1 (and4 hB).2.2.2 hC hx h
theorem w_tn {f0 : Fr} {d : Nat} {o : Oper} {j : Nat} {b b' : Bool} {oj : Oper} {dj : Nat} (i : Nat) (hi : ops[i]? = some o) (h4 : b' = !b) (hC : C w)
    (h : G N (wpAnyX P md ops (PanP N f0 ds Q) C T fuel (listed.setIfInBounds i true)) ((d, undef) :: f) ds w) (g0 : o.guard = some (j, b) := by rfl) (g1 : ops[j]? = some oj := by rfl) (g2 : oj.dst = some dj := by rfl) (g3 : gt f dj = some (.bool b') := by rfl) (hd : o.dst = some d := by rfl) (hN : Nat.blt d N = true := by rfl) (h0 : gt f0 d = none := by rfl) (hB : (Region.noSelect ops && Region.free md ops listed i && (Region.ready md ops listed).contains i && waits md ops T i) = true := by kernel_rfl) : G N (wpAnyX P md ops (PanP N f0 ds Q) C T (fuel + 1) listed) f ds w :=
  a_not i hi (wn1 g0 g1 g2 g3 h4) hd hN h0 (and4 hB).1 (and4 hB).2.1 (and4 hB).2.2.1 (and4 hB).2.2.2 hC h
theorem w_y {C0 : World → Prop} {f0 : Fr} {d : Nat} {o : Oper} {v : Value} (i : Nat) (hi : ops[i]? = some o) (hw : Wt ops f o) (hd : o.dst = some d) (hN : Nat.blt d N = true) (h0 : gt f0 d = none) (hB : (Region.noSelect ops && Region.free md ops listed i && (Region.ready md ops listed).contains i && closedB md ops listed) = true) (hx : ∀ w, Ex P N f ds o w v w)
    (h : G N (wpAnyY P md ops (PanP N f0 ds Q) C C0 T fuel (listed.setIfInBounds i true)) ((d, v) :: f) ds w) : G N (wpAnyY P md ops (PanP N f0 ds Q) C C0 T (fuel + 1) listed) f ds w :=
  y_pure i hi hw hd hN h0 (and4 hB).1 (and4 hB).2.1 (and4 hB).2.2.1 (and4 hB).2.2.2 hx h
end
/-! Runs of simple operations -/
theorem w_r2 {A B : Prop} (b : B) (h : B → A := by intro k; (iterate 2 first | refine w_m ?_ | refine w_a ?_ | refine w_v xf0 ?_ | refine w_v xn ?_ | refine w_v xe ?_); exact k) : A := h b
theorem w_r3 {A B : Prop} (b : B) (h : B → A := by intro k; (iterate 3 first | refine w_m ?_ | refine w_a ?_ | refine w_v xf0 ?_ | refine w_v xn ?_ | refine w_v xe ?_); exact k) : A := h b
theorem w_r4 {A B : Prop} (b : B) (h : B → A := by intro k; (iterate 4 first | refine w_m ?_ | refine w_a ?_ | refine w_v xf0 ?_ | refine w_v xn ?_ | refine w_v xe ?_); exact k) : A := h b
theorem w_r5 {A B : Prop} (b : B) (h : B → A := by intro k; (iterate 5 first | refine w_m ?_ | refine w_a ?_ | refine w_v xf0 ?_ | refine w_v xn ?_ | refine w_v xe ?_); exact k) : A := h b
end Go.Proofs.Ytdkfkdekiljcoaa
