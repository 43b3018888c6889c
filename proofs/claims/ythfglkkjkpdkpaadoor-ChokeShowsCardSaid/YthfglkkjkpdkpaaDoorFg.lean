import Derived.Test.YthfglkkjkpdkpaaDoorFf
set_option linter.unusedSimpArgs false
set_option linter.unusedVariables false
namespace Go.Proofs.YthfglkkjkpdkpaaDoor
open Go.RowKit

section
variable {P : Program} {N : Nat} {f : Fr} {ds : List Deferred} {w : World} {ops : Array Oper} {Q : Exit → Act → World → Prop} {K : Act → World → Prop} {o : Oper} {L : List Item}
end
theorem Reads.take {w : World} {p : Option Addr} {n c size : Nat} {xs : List Value} (hr : Reads w p n c size xs) (k : Nat) (hk : k ≤ n) : Reads w p k c size (xs.take (k * size)) := by
  obtain ⟨k1, k2, k3⟩ := hr
  have hx : k * size ≤ n * size := Nat.mul_le_mul_right _ hk
  refine ⟨by rw [List.length_take, k1]; omega, by omega, fun h0 => ?_⟩
  obtain ⟨a, ha, hc⟩ := k3 (by omega)
  refine ⟨a, ha, fun j u hu => hc j u ?_⟩
  have hj := (List.getElem?_eq_some_iff.1 hu).1
  rw [List.length_take] at hj
  rwa [List.getElem?_take_of_lt (by omega)] at hu
/-- A cut from the front, with its own end as capacity. -/
def clipP (p : Option Addr) (k size : Nat) : Option Addr := if k = 0 then p else p.map fun q => q.add (0 * size)
end Go.Proofs.YthfglkkjkpdkpaaDoor
