import Derived.Test.YtlikhpfdncidkaaBp
set_option linter.unusedSimpArgs false
set_option linter.unusedVariables false
namespace Go.Proofs.Ytlikhpfdncidkaa
open Go.RowKit
open Go.Maps (Keyed)

/-! ## What is looked up -/
theorem look_M (x : Option Nat) : (x.map mpV).getD (.map none) = .map x := by cases x <;> rfl
def roO (x : Option (Ro Nat)) : Ro Nat := x.getD ⟨none, 0, []⟩
theorem look_R (x : Option (Ro Nat)) : (x.map roV).getD (.slice none 0 0) = .slice (roO x).p (roO x).l.length (roO x).c := by cases x <;> rfl
theorem odR_eq {od : Int → Option (Ro Nat)} {i : Int} : odR od i = (roO (od i)).l := by
  unfold odR roO
  cases od i <;> rfl
theorem BI.roO {nw : Int → Option Nat} {od : Int → Option (Ro Nat)} {rs : List (Ro Nat)} {ms : List Nat} {ct : Nat → Tr} (h : BI nw od rs ms ct) (i : Int) : roO (od i) ∈ rs ∨ roO (od i) = ⟨none, 0, []⟩ := by
  cases ho : od i with
  | none => exact .inr rfl
  | some r => exact .inl (h.odr i r ho)
theorem ro_reads {w : World} {rs : List (Ro Nat)} {r : Ro Nat} (h : (RowsI 70 1 mpL rs).ok w) (hr : r ∈ rs ∨ r = ⟨none, 0, []⟩) : Reads w r.p r.l.length r.c 1 (r.l.flatMap mpL) := by
  rcases hr with hr | rfl
  · obtain ⟨j, hj⟩ := List.getElem?_of_mem hr
    exact rows_read h hj
  · exact ⟨rfl, Nat.le_refl _, fun h0 => absurd h0 (Nat.lt_irrefl _)⟩
theorem ro_len {nw : Int → Option Nat} {od : Int → Option (Ro Nat)} {rs : List (Ro Nat)} {ms : List Nat} {ct : Nat → Tr} (h : BI nw od rs ms ct) {r : Ro Nat} (hr : r ∈ rs ∨ r = ⟨none, 0, []⟩) : r.l.length ≤ 10 := by
  rcases hr with hr | rfl
  · exact h.rln r hr
  · exact Nat.zero_le _
theorem ro_ms {nw : Int → Option Nat} {od : Int → Option (Ro Nat)} {rs : List (Ro Nat)} {ms : List Nat} {ct : Nat → Tr} (h : BI nw od rs ms ct) {r : Ro Nat} (hr : r ∈ rs ∨ r = ⟨none, 0, []⟩) {m : Nat} (hm : m ∈ r.l) : m ∈ ms := by
  rcases hr with hr | rfl
  · exact h.rms r hr m hm
  · cases hm
/-! a try that may be nil: its length, a block of it -/
section
variable {P : Program} {N : Nat} {Q : Exit → Act → World → Prop} {f : Fr} {ds : List Deferred} {w w' : World} {o : Oper} {ops : Array Oper} {L : List Item} {K : Act → World → Prop} {ms : List Nat} {ct : Nat → Tr} {mo : Option Nat}
theorem s_lenTry {t k e : TypeId} {d : Nat} {x : Operand} (H : S w L) (k0 : Nat) (hw : Wt ops f o) (hd : o.dst = some d) (hN : Nat.blt d N = true) (hk : L[k0]? = some (FamM spK snV okP ms ct)) (hm : ∀ m, mo = some m → m ∈ ms)
    (ho : o.op = .call { callee := .builtin .len, args := #[x], argTypes := #[t] }) (hx : evo f x = some (.map mo)) (hu : P.underlying t = some (.map k e))
    (h : ∀ n : Nat, KN okP (tryOf ct mo) n → G N K ((d, .int .i64 (n : Int)) :: f) ds w) : G N (StepK P ops Q o K) f ds w := by
  cases mo with
  | none => exact s_val hw hd hN (x_lenNil ho hx hu) (h 0 ⟨[], .nil, fun p => ⟨fun q => (by cases q), fun q => (by cases q.2)⟩, rfl⟩)
  | some m => exact s_lenMap (L := [_]) (H.famMget hk (hm m rfl)) 0 hw hd hN rfl ho hx hu h
end
end Go.Proofs.Ytlikhpfdncidkaa
