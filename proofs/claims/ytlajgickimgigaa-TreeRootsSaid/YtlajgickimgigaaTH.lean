import Derived.Test.YtlajgickimgigaaTG
import Derived.Test.YtlajgickimgigaaEz
set_option linter.unusedSimpArgs false
set_option linter.unusedVariables false
namespace Go.Proofs.Ytlajgickimgigaa
open Go.RowKit

theorem S.open1 {w : World} {b C : Item} {L : List Item} (h : S w [b, Big L, C]) : S w (b :: (L ++ [C])) := by
  have h1 : S w (Big L :: [b, C]) := h.perm (List.Perm.swap ..)
  exact h1.unbig.perm List.perm_middle
theorem S.close1 {w : World} {b C : Item} {L : List Item} (h : S w (b :: (L ++ [C]))) : S w [b, Big L, C] := by
  have h1 : S w (L ++ [b, C]) := h.perm List.perm_middle.symm
  exact h1.big.perm (List.Perm.swap ..)
theorem ex_cast {P : Program} {N : Nat} {f : Fr} {ds : List Deferred} {o : Oper} {w w' : World} {v v' : Value} (h : Ex P N f ds o w v w') (e : v = v') : Ex P N f ds o w v' w' := e ▸ h
section
variable {P : Program} {N : Nat} {f : Fr} {ds : List Deferred} {w : World} {o : Oper}
/-- A slice with low, high and max, wherever it lies. -/
theorem x_slice3R {t e size n c : Nat} {p : Option Addr} {x y1 y2 y3 : Operand} {k1 k2 k3 : IntKind} {i1 i2 i3 : Int} (l h m : Nat) (ho : o.op = .slice t x (some y1) (some y2) (some y3)) (hx : evo f x = some (.slice p n c)) (h1 : evo f y1 = some (.int k1 i1)) (h2 : evo f y2 = some (.int k2 i2)) (h3 : evo f y3 = some (.int k3 i3))
    (hu : P.underlying t = some (.slice e)) (hz : szO P e = some size) (hb : i1 = (l : Int) ∧ i2 = (h : Int) ∧ i3 = (m : Int) ∧ l ≤ h ∧ h ≤ m ∧ m ≤ c ∧ l < m) :
    Ex P N f ds o w (.slice (p.map fun q => q.add (l * size)) (h - l) (m - l)) w :=
  ex_of (x := Instr.sliceAt t (.slice p n c) (some (.int k1 i1)) (some (.int k2 i2)) (some (.int k3 i3))) (fun a ha => by unfold execOp; simp only [ho, ha.eval hx, ha.eval h1, ha.eval h2, ha.eval h3, Option.map_some]) (by
    obtain ⟨rfl, rfl, rfl, q1, q2, q3, q4⟩ := hb
    have hel : P.elem t = e := by unfold Program.elem; rw [hu]
    have hu' : P.underlying t = some (.slice (P.elem t)) := by rw [hel]; exact hu
    rw [run_sliceAt_slice (P := P) w t _ _ _ _ hu', run_slice_lhm (P := P) w t p n c hu' k1 k2 k3 (l : Int) (h : Int) (m : Int) (by omega) (by omega) (by omega) (by omega), hel, run_sz hz]
    simp only [Result.andThen_ok, sliced, Int.toNat_natCast]
    rw [if_neg (by omega)])
/-- A slice with high and max from its beginning. -/
theorem x_clip {t e size n c : Nat} {p : Option Addr} {x y2 y3 : Operand} {k2 k3 : IntKind} {i2 i3 : Int} (h m : Nat) (ho : o.op = .slice t x none (some y2) (some y3)) (hx : evo f x = some (.slice p n c)) (h2 : evo f y2 = some (.int k2 i2)) (h3 : evo f y3 = some (.int k3 i3))
    (hu : P.underlying t = some (.slice e)) (hz : szO P e = some size) (hb : i2 = (h : Int) ∧ i3 = (m : Int) ∧ h ≤ m ∧ m ≤ c) :
    Ex P N f ds o w (.slice (if m = 0 then p else p.map fun q => q.add (0 * size)) h m) w :=
  ex_of (x := Instr.sliceAt t (.slice p n c) none (some (.int k2 i2)) (some (.int k3 i3))) (fun a ha => by unfold execOp; simp only [ho, ha.eval hx, ha.eval h2, ha.eval h3, Option.map_some, Option.map_none]) (by
    obtain ⟨rfl, rfl, q2, q3⟩ := hb
    have hel : P.elem t = e := by unfold Program.elem; rw [hu]
    have hu' : P.underlying t = some (.slice (P.elem t)) := by rw [hel]; exact hu
    have hrun : (Instr.slice t (.slice p n c) none (some (.int k2 (h : Int))) (some (.int k3 (m : Int)))).run P w = ((sizeOf (P.elem t)).run P w).andThen fun s w => .ok (sliced p 0 h m s) w := by
      simp [Instr.slice, run_underlying hu', Instr.sliceBounds, run_sliceBound, sliced, q2, q3]
    rw [run_sliceAt_slice (P := P) w t _ _ _ _ hu', hrun, hel, run_sz hz]
    simp only [Result.andThen_ok, sliced, Nat.sub_zero])
end
theorem reads_two {w : World} {p : Option Addr} {n c i : Nat} {l : List ByteArray} (hr : Reads w p n c 1 (stV l)) (hi : 2 * i + 1 < n) : Reads w (p.map fun q => q.add (2 * i * 1)) 2 2 1 (stV [l.getD (2 * i) ⟨#[]⟩, l.getD (2 * i + 1) ⟨#[]⟩]) := by
  obtain ⟨k1, k2, k3⟩ := hr
  have hl : l.length = n := by rw [stV_len] at k1; omega
  obtain ⟨a, rfl, hc⟩ := k3 (by omega)
  refine ⟨rfl, Nat.le_refl _, fun _ => ⟨a.add (2 * i * 1), rfl, fun j u hu => ?_⟩⟩
  rw [addr_add]
  match j, hu with
  | 0, hu =>
    have : u = .string (l.getD (2 * i) ⟨#[]⟩) := by simpa [stV] using hu.symm
    subst this
    have := stV_at (l := l) (j := 2 * i) (by omega)
    exact hc _ _ (by rw [show 2 * i * 1 + 0 = 2 * i * 1 from rfl]; exact this)
  | 1, hu =>
    have : u = .string (l.getD (2 * i + 1) ⟨#[]⟩) := by simpa [stV] using hu.symm
    subst this
    have := stV_at (l := l) (j := 2 * i + 1) (by omega)
    exact hc _ _ (by rw [show 2 * i * 1 + 1 = (2 * i + 1) * 1 from by omega]; exact this)
  | j + 2, hu => simp [stV] at hu
def encP (p : Option Addr) (i : Nat) : Array Value := #[.slice (p.map fun q => q.add (2 * i * 1)) 2 2]
end Go.Proofs.Ytlajgickimgigaa
