import Derived.Test.YtlajgickimgigaaEv
import Derived.Test.YtlajgickimgigaaEu
import Derived.Laws.Bits64
set_option linter.unusedSimpArgs false
set_option linter.unusedVariables false
namespace Go.Proofs.Ytlajgickimgigaa
open Go.RowKit

/-! ## Numbers of 64 bits; arrays by value -/
section
variable {P : Program} {w : World} {t : TypeId} {xo yo : Operand}
theorem wrapU {a : Nat} (h : a < 18446744073709551616) : IntKind.u64.wrap (a : Int) = (a : Int) := by rw [IntKind.wrap_u64]; omega
theorem wrapUM (a : Nat) : IntKind.u64.wrap (a : Int) = ((a % 18446744073709551616 : Nat) : Int) := by rw [IntKind.wrap_u64]; omega
theorem wrapB (a : Nat) : IntKind.u8.wrap (a : Int) = ((a % 256 : Nat) : Int) := by rw [IntKind.wrap_u8]; omega
theorem b_mulU (a b : Nat) : Bin P .mul t xo yo (.int .u64 (a : Int)) (.int .u64 (b : Int)) w (.int .u64 ((a * b % 18446744073709551616 : Nat) : Int)) :=
  b_mul (by rw [← Int.natCast_mul, wrapUM])
theorem b_addU (a b : Nat) : Bin P .add t xo yo (.int .u64 (a : Int)) (.int .u64 (b : Int)) w (.int .u64 (((a + b) % 18446744073709551616 : Nat) : Int)) :=
  b_add (by rw [← Int.natCast_add, wrapUM])
theorem b_quoU {a b : Nat} (h : 0 < b ∧ a < 18446744073709551616) : Bin P .quo t xo yo (.int .u64 (a : Int)) (.int .u64 (b : Int)) w (.int .u64 ((a / b : Nat) : Int)) :=
  b_quo (by omega) (by
    have h1 : a / b ≤ a := Nat.div_le_self _ _
    rw [Int.tdiv_eq_ediv_of_nonneg (Int.natCast_nonneg a), ← Int.natCast_ediv, wrapU (by omega)])
theorem b_remU {a b : Nat} (h : 0 < b) : Bin P .rem t xo yo (.int .u64 (a : Int)) (.int .u64 (b : Int)) w (.int .u64 ((a % b : Nat) : Int)) :=
  b_rem (by omega) (by rw [rem0 (by omega)]; rfl)
theorem b_xorU {a b : Nat} (h : a < 18446744073709551616 ∧ b < 18446744073709551616) : Bin P .xor t xo yo (.int .u64 (a : Int)) (.int .u64 (b : Int)) w (.int .u64 ((a ^^^ b : Nat) : Int)) := by
  refine b_bits (.inr (.inr (.inl rfl))) ?_
  have h2 : a ^^^ b < 2 ^ 64 := Nat.xor_lt_two_pow (by omega) (by omega)
  have e : (BitVec.ofInt IntKind.u64.bits (a : Int) ^^^ BitVec.ofInt IntKind.u64.bits (b : Int)).toNat = a ^^^ b := by
    show (BitVec.ofInt 64 (a : Int) ^^^ BitVec.ofInt 64 (b : Int)).toNat = _
    rw [ofInt_nat, ofInt_nat, BitVec.toNat_xor, BitVec.toNat_ofNat, BitVec.toNat_ofNat, Nat.mod_eq_of_lt (by omega), Nat.mod_eq_of_lt (by omega)]
  simp only [Op.intBits, e]
  rw [wrapU (by omega)]; rfl
end
section
variable {P : Program} {N : Nat} {f : Fr} {ds : List Deferred} {w : World} {o : Oper}
/-- An element of an array by value. -/
theorem x_indexW {t e : TypeId} {len : Nat} {d : TypeDesc} {x y : Operand} {cs : Array Value} {k : IntKind} {i : Int} {v : Value} (j : Nat) (ho : o.op = .index t x y) (hx : evo f x = some (.agg cs)) (hy : evo f y = some (.int k i)) (hu : P.underlying t = some (.array len e)) (hz : szO P e = some 1) (he : P.underlying e = some d) (hd : aggB d = false)
    (hb : i = (j : Int) ∧ j < len) (hv : cs[j]? = some v) : Ex P N f ds o w v w :=
  ex_of (x := Instr.index t (.agg cs) (.int k i)) (fun a ha => by unfold execOp; simp only [ho, ha.eval hx, ha.eval hy]) (by
    obtain ⟨rfl, hj⟩ := hb
    unfold Instr.index
    simp only [asIntOf, Sem.run_bind, Sem.run_pure, Result.andThen_ok, run_underlying hu]
    have : (0 : Int) ≤ (j : Int) ∧ (j : Int) < (len : Int) := by omega
    simp only [if_pos this, Sem.run_bind, run_sz hz, Result.andThen_ok, Int.toNat_natCast, Nat.mul_one]
    exact run_part1 he hd hv)
/-- A slice of bytes as a text. -/
theorem x_bytesR {s d e n c : Nat} {x : Operand} {p : Option Addr} {l : List UInt8} (ho : o.op = .convert s d x) (hx : evo f x = some (.slice p n c)) (hs : P.underlying s = some (.slice e)) (hd : P.underlying d = some .string) (he : P.underlying e = some (.int .u8))
    (hr : Reads w p n c 1 (bytesV l)) (hl : l.length = n) : Ex P N f ds o w (.string ⟨l.toArray⟩) w := by
  obtain ⟨k1, k2, k3⟩ := hr
  cases p with
  | none =>
    have hn : n = 0 := by
      rcases Nat.eq_zero_or_pos n with h | h
      · exact h
      · obtain ⟨a, ha, _⟩ := k3 h; cases ha
    have hl0 : l = [] := List.eq_nil_of_length_eq_zero (by omega)
    subst hl0
    exact x_bytes0 ho hx hs hd he
  | some a =>
    refine x_bytes ho hx hs hd he hl (fun j u hu => ?_)
    have hj := (List.getElem?_eq_some_iff.1 hu).1
    have : 0 < n := by omega
    obtain ⟨a', ha, hc⟩ := k3 this
    cases ha
    exact hc j u hu
end
section
variable {P : Program} {w : World} {t : TypeId} {xo yo : Operand}
theorem b_shrI {a n : Nat} {y : Int} {k yk : IntKind} (hy : y = (n : Int)) (h : n ≤ k.bits) : Bin P .shr t xo yo (.int k (a : Int)) (.int yk y) w (.int k ((a / 2 ^ n : Nat) : Int)) := by
  subst hy; exact b_shrN h
end
end Go.Proofs.Ytlajgickimgigaa
