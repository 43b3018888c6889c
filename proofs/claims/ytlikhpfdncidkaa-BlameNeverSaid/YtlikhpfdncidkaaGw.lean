import Derived.Test.YtlikhpfdncidkaaGv
set_option linter.unusedSimpArgs false
set_option linter.unusedVariables false
namespace Go.Proofs.Ytlikhpfdncidkaa
open Go.RowKit

/-! ## slices.Clip, and append to what was clipped -/
section
variable {P : Program} {N : Nat} {Q : Exit → Act → World → Prop} {f : Fr} {ds : List Deferred} {w w' : World} {o : Oper} {ops : Array Oper} {L : List Item} {K : Act → World → Prop}
theorem x_clip {t e size n c : Nat} {p : Option Addr} {x y2 y3 : Operand} {k2 k3 : IntKind} {i2 i3 : Int} (h m : Nat) (ho : o.op = .slice t x none (some y2) (some y3)) (hx : evo f x = some (.slice p n c)) (h2 : evo f y2 = some (.int k2 i2)) (h3 : evo f y3 = some (.int k3 i3))
    (hu : P.underlying t = some (.slice e)) (hz : szO P e = some size) (hb : i2 = (h : Int) ∧ i3 = (m : Int) ∧ h ≤ m ∧ m ≤ c) :
    Ex P N f ds o w (.slice (if m = 0 then p else p.map fun q => q.add (0 * size)) h m) w :=
  ex_of (x := Instr.sliceAt t (.slice p n c) none (some (.int k2 i2)) (some (.int k3 i3))) (fun a ha => by unfold execOp; simp only [ho, ha.eval hx, ha.eval h2, ha.eval h3, Option.map_some, Option.map_none]) (by
    obtain ⟨rfl, rfl, q2, q3⟩ := hb
    have hel : P.elem t = e := by unfold Program.elem; rw [hu]
    have hu' : P.underlying t = some (.slice (P.elem t)) := by rw [hel]; exact hu
    have hrun : (Instr.slice t (.slice p n c) none (some (.int k2 (h : Int))) (some (.int k3 (m : Int)))).run P w = ((sizeOf (P.elem t)).run P w).andThen fun s w => .ok (sliced p 0 h m s) w := by
      simp [Instr.slice, run_underlying hu', Instr.sliceBounds, run_sliceBound, sliced, q2, q3]
    rw [run_sliceAt_slice (P := P) w t _ _ _ _ hu', hrun, hel, run_sz hz]
    simp only [Result.andThen_ok, sliced, Nat.sub_zero])
/-- Append to a slice that is full, also to nil: memory of its own. -/
theorem s_appendNew {d t e size bytes n m c : Nat} {s x : Operand} {z : Value} {xs news : List Value} {p : Option Addr} {ad : Addr} (H : S w L) (hw : Wt ops f o) (hd : o.dst = some d) (hN : Nat.blt d N = true)
    (ho : o.op = .call { callee := .builtin .append, args := #[s, x], argTypes := #[t, t] }) (hs : evo f s = some (.slice p n n)) (hx : evo f x = some (.slice (some ad) m c)) (hr0 : Reads w p n n size xs)
    (ht : P.underlying t = some (.slice e)) (hi : infO P e = some (some z, size, bytes)) (hz : z.cells.size = size) (hsz : 0 < size) (hb0 : 0 < bytes) (hr : Reads w (some ad) m c size news) (hm : 0 < m) (h1 : news.all (·.oneCell') = true)
    (hb : (n + m) * bytes ≤ 140737488355328)
    (h : ∀ p' c' w', S w' (Rw e size p' (n + m) c' (xs ++ news) :: L) → G N K ((d, .slice p' (n + m) c') :: f) ds w') : G N (StepK P ops Q o K) f ds w := by
  cases p with
  | some a => exact s_appendFull2 H hw hd hN ho hs hx hr0 ⟨a, rfl⟩ ht hi hz hsz hb0 hr hm h1 hb h
  | none =>
    obtain ⟨k1, _, k3⟩ := hr0
    have hn : n = 0 := by
      rcases Nat.eq_zero_or_pos n with h0 | h0
      · exact h0
      · obtain ⟨a, ha, _⟩ := k3 h0; cases ha
    subst hn
    have hxs : xs = [] := List.eq_nil_of_length_eq_zero (by rw [k1, Nat.zero_mul])
    subst hxs
    obtain ⟨q1, q2, q3⟩ := hr
    obtain ⟨a, ha, hc⟩ := q3 hm
    cases ha
    exact s_appendR (xs := []) (H.nilRw e size) 0 hw hd hN ho hs hx rfl ht hi hz hsz hb0 q1 hm hc h1 hb (fun p' c' w' h9 => h p' c' w' h9)
end
end Go.Proofs.Ytlikhpfdncidkaa
