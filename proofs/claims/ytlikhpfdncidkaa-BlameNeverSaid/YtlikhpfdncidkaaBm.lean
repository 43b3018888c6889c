import Derived.Test.YtlikhpfdncidkaaSi
import Derived.Test.YtlikhpfdncidkaaHc
set_option linter.unusedSimpArgs false
set_option linter.unusedVariables false
namespace Go.Proofs.Ytlikhpfdncidkaa
open Go.RowKit
open Go.Maps (Keyed)

/-! ## Blame's memory: keys, tries -/
def okI (x : Int) : Prop := -9223372036854775808 ≤ x ∧ x ≤ 9223372036854775807
theorem okI_wf {x : Int} (h : okI x) : (Lit.int .i64 x).wf = true := by
  have h1 : IntKind.i64.min = -9223372036854775808 := by decide
  have h2 : IntKind.i64.max = 9223372036854775807 := by decide
  obtain ⟨a, b⟩ := h
  simp [Lit.wf, h1, h2]; omega
theorem wf_okI {x : Int} (h : (Lit.int .i64 x).wf = true) : okI x := by
  have h1 : IntKind.i64.min = -9223372036854775808 := by decide
  have h2 : IntKind.i64.max = 9223372036854775807 := by decide
  simp [Lit.wf, h1, h2] at h
  exact h
theorem intTy {P : Program} {t k e : TypeId} (ht : P.underlying t = some (.map k e)) (hk : P.underlying k = some (.int .i64)) : MapTy P t k e (Value.int .i64) okI :=
  ⟨ht, Go.Maps.int_keyed hk, fun x hx => ⟨_, Go.Maps.keyOf_int_mk hk (okI_wf hx)⟩, fun x y _ _ h => by cases h; rfl⟩
/-- A block's place, who sent it and its digest. -/
abbrev Sp : Type := Int × Int
abbrev Sn : Type := Int × ByteArray
abbrev Tr : Type := Sp → Option Sn
def spK (x : Sp) : Value := .agg #[.int .i64 x.1, .int .i64 x.2]
def snV (x : Sn) : Value := .agg #[.int .i64 x.1, .string x.2]
def okP (x : Sp) : Prop := okI x.1 ∧ okI x.2
theorem spK_inj {x y : Sp} (h : spK x = spK y) : x = y := by
  unfold spK at h
  simp only [Value.agg.injEq] at h
  have h2 := congrArg Array.toList h
  simp only [List.cons.injEq, Value.int.injEq, true_and, and_true] at h2
  exact Prod.ext h2.1 h2.2
theorem laid_out : laidOutB Try.prog = true := by kernel_rfl
theorem spot_wide : (match Try.prog.underlying 74 with | some (.array _ _) | some (.struct _) => true | _ => false) = true := by rw [Try.underlying74]
set_option maxRecDepth 100000 in
theorem spot_law : Go.WideMaps.KeyLaw Try.prog 74 := deep_law_laid laid_out (m := 2) (by omega) (of_decide_eq_true (by kernel_rfl)) (by kernel_rfl) spot_wide
theorem cells_spot : Try.prog.cellsOf 74 = 2 := by kernel_rfl
theorem cells_3 : Try.prog.cellsOf 3 = 1 := by kernel_rfl
theorem size_s : ∃ s, Try.prog.types.size = s + 1 := ⟨_, (by kernel_rfl : Try.prog.types.size = (Try.prog.types.size - 1) + 1)⟩
theorem spot_key {x : Sp} (h : okP x) : ∃ l, keyOf Try.prog 74 (spK x) = some l := by
  have h1 : ∀ d (n : Int), okI n → Try.prog.keyLits (d + 1) 3 [.int .i64 n] = some [.int .i64 n] := fun d n hn => by
    simp [Program.keyLits, Try.underlying3, okI_wf hn]
  obtain ⟨s, hs⟩ := size_s
  have hk : Try.prog.keyType 74 = true := by kernel_rfl
  unfold keyOf
  rw [Try.underlying74]
  simp only [hk, Bool.true_and]
  have hf : (spK x).formed Try.prog 74 = true := by simp [spK, Value.formed, Try.underlying74, cells_spot]
  rw [if_pos hf, hs]
  simp [Program.keyLits, Try.underlying74, cells_spot, cells_3, spK, Value.cells, h1 _ _ h.1, h1 _ _ h.2, okI_wf h.1, okI_wf h.2]
theorem tryT : MapTy Try.prog 70 74 77 spK okP := ⟨Try.underlying70, .of_law spot_law, fun x hx => spot_key hx, fun x y _ _ h => spK_inj h⟩
/-! who sent blocks -/
def sends (t : Tr) (x : Int) : Prop := ∃ s d, okP s ∧ t s = some (x, d)
def IsWho (t : Tr) (l : List Int) : Prop := l.Pairwise (· < ·) ∧ ∀ x, x ∈ l ↔ sends t x
theorem who_eq {t : Tr} {l m : List Int} (h : IsWho t l) (k : IsWho t m) : l = m := asc_eq h.1 k.1 fun x => by rw [h.2, k.2]
/-- A try of few blocks. -/
def Few (t : Tr) : Prop := ∃ ks : List Sp, ks.length ≤ 100000 ∧ ∀ s v, t s = some v → s ∈ ks
theorem len_sub {α : Type} [DecidableEq α] : ∀ {l m : List α}, l.Nodup → (∀ x ∈ l, x ∈ m) → l.length ≤ m.length
  | [], m, _, _ => Nat.zero_le _
  | a :: l, m, hn, h => by
    obtain ⟨h1, h2⟩ := List.nodup_cons.1 hn
    have ha := h a (List.mem_cons_self ..)
    have h3 := len_sub (m := m.erase a) h2 fun x hx => (List.mem_erase_of_ne (fun e => h1 (by subst e; exact hx))).2 (h x (List.mem_cons_of_mem _ hx))
    rw [List.length_erase_of_mem ha] at h3
    have : 0 < m.length := List.length_pos_of_mem ha
    rw [List.length_cons]; omega
theorem Few.len {t : Tr} (h : Few t) {kv : List (Sp × Sn)} (hn : (kv.map Prod.fst).Nodup) (hk : ∀ p, p ∈ kv ↔ okP p.1 ∧ t p.1 = some p.2) : kv.length ≤ 100000 := by
  obtain ⟨ks, h1, h2⟩ := h
  have := len_sub hn (m := ks) fun x hx => by
    obtain ⟨p, hp, rfl⟩ := List.mem_map.1 hx
    exact h2 _ _ ((hk p).1 hp).2
  rw [List.length_map] at this; omega
theorem few_none : Few (fun _ => none) := ⟨[], by simp, fun s v h => by cases h⟩
theorem Few.add {t : Tr} {ks : List Sp} {s : Sp} {v : Sn} (h : ∀ s v, t s = some v → s ∈ ks) : ∀ s' v', upM t s v s' = some v' → s' ∈ s :: ks := fun s' v' h2 => by
  unfold upM at h2
  split at h2
  · rename_i e; rw [e]; exact List.mem_cons_self ..
  · exact List.mem_cons_of_mem _ (h _ _ h2)
/-! old tries -/
def mpV (x : Nat) : Value := .map (some x)
def mpL (x : Nat) : List Value := [.map (some x)]
theorem mpL_at {l : List Nat} {j x : Nat} (h : l[j]? = some x) : (l.flatMap mpL)[j * 1]? = some (.map (some x)) := by
  have := flat_at (f := mpL) (size := 1) (l := l) (j := j) (x := x) (fun _ _ => rfl) h 0 _ rfl
  simpa using this
theorem mpL_one (l : List Nat) : (l.flatMap mpL).all (·.oneCell') = true := by
  rw [List.all_eq_true]; intro v hv
  obtain ⟨x, _, h⟩ := List.mem_flatMap.1 hv
  unfold mpL at h
  rw [List.mem_singleton] at h; subst h; rfl
theorem forall_snoc {α : Type} {P : α → Prop} {l : List α} {x : α} (h : ∀ y ∈ l, P y) (hx : P x) : ∀ y ∈ l ++ [x], P y := fun y hy => by
  rcases List.mem_append.1 hy with h1 | h1
  · exact h y h1
  · rw [List.mem_singleton] at h1; subst h1; exact hx
theorem take_snoc {β : Type} {l : List β} {k : Nat} {x : β} (h : l[k]? = some x) : l.take (k + 1) = l.take k ++ [x] := by
  rw [List.take_add_one, h]; rfl
theorem ex_cast {P : Program} {N : Nat} {f : Fr} {ds : List Deferred} {o : Oper} {w w' : World} {v v' : Value} (h : Ex P N f ds o w v w') (e : v = v') : Ex P N f ds o w v' w' := e ▸ h
theorem look_B (x : Option Bool) : (x.map Value.bool).getD (.bool false) = .bool (x.getD false) := by cases x <;> rfl
theorem look_I (x : Option Int) : (x.map (Value.int .i64)).getD (.int .i64 0) = .int .i64 (x.getD 0) := by cases x <;> rfl
end Go.Proofs.Ytlikhpfdncidkaa
