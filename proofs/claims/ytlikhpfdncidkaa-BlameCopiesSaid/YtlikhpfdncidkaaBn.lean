import Derived.Test.YtlikhpfdncidkaaSi
import Derived.Test.YtlikhpfdncidkaaHc
set_option linter.unusedSimpArgs false
set_option linter.unusedVariables false
namespace Go.Proofs.Ytlikhpfdncidkaa
open Go.RowKit
open Go.Maps (Keyed)

/-! ## Blame's memory: keys, tries -/
def okI (x : Int) : Prop := -9223372036854775808 ≤ x ∧ x ≤ 9223372036854775807
theorem okI_wf {x : Int} (h : okI x) : (Lit.int .i64 x).wf = true := by
  have h1 : IntKind.i64.min = -9223372036854775808 := by decide
  have h2 : IntKind.i64.max = 9223372036854775807 := by decide
  obtain ⟨a, b⟩ := h
  simp [Lit.wf, h1, h2]; omega
theorem wf_okI {x : Int} (h : (Lit.int .i64 x).wf = true) : okI x := by
  have h1 : IntKind.i64.min = -9223372036854775808 := by decide
  have h2 : IntKind.i64.max = 9223372036854775807 := by decide
  simp [Lit.wf, h1, h2] at h
  exact h
theorem intTy {P : Program} {t k e : TypeId} (ht : P.underlying t = some (.map k e)) (hk : P.underlying k = some (.int .i64)) : MapTy P t k e (Value.int .i64) okI :=
  ⟨ht, Go.Maps.int_keyed hk, fun x hx => ⟨_, Go.Maps.keyOf_int_mk hk (okI_wf hx)⟩, fun x y _ _ h => by cases h; rfl⟩
/-- A block's place, who sent it and its digest. -/
abbrev Sp : Type := Int × Int
abbrev Sn : Type := Int × ByteArray
abbrev Tr : Type := Sp → Option Sn
def spK (x : Sp) : Value := .agg #[.int .i64 x.1, .int .i64 x.2]
def snV (x : Sn) : Value := .agg #[.int .i64 x.1, .string x.2]
def okP (x : Sp) : Prop := okI x.1 ∧ okI x.2
theorem spK_inj {x y : Sp} (h : spK x = spK y) : x = y := by
  unfold spK at h
  simp only [Value.agg.injEq] at h
  have h2 := congrArg Array.toList h
  simp only [List.cons.injEq, Value.int.injEq, true_and, and_true] at h2
  exact Prod.ext h2.1 h2.2
theorem laid_out : laidOutB Try.prog = true := by kernel_rfl
theorem spot_wide : (match Try.prog.underlying 74 with | some (.array _ _) | some (.struct _) => true | _ => false) = true := by rw [Try.underlying74]
set_option maxRecDepth 100000 in
theorem spot_law : Go.WideMaps.KeyLaw Try.prog 74 := deep_law_laid laid_out (m := 2) (by omega) (of_decide_eq_true (by kernel_rfl)) (by kernel_rfl) spot_wide
theorem cells_spot : Try.prog.cellsOf 74 = 2 := by kernel_rfl
theorem cells_3 : Try.prog.cellsOf 3 = 1 := by kernel_rfl
theorem size_s : ∃ s, Try.prog.types.size = s + 1 := ⟨_, (by kernel_rfl : Try.prog.types.size = (Try.prog.types.size - 1) + 1)⟩
theorem spot_key {x : Sp} (h : okP x) : ∃ l, keyOf Try.prog 74 (spK x) = some l := by
  have h1 : ∀ d (n : Int), okI n → Try.prog.keyLits (d + 1) 3 [.int .i64 n] = some [.int .i64 n] := fun d n hn => by
    simp [Program.keyLits, Try.underlying3, okI_wf hn]
  obtain ⟨s, hs⟩ := size_s
  have hk : Try.prog.keyType 74 = true := by kernel_rfl
  unfold keyOf
  rw [Try.underlying74]
  simp only [hk, Bool.true_and]
  have hf : (spK x).formed Try.prog 74 = true := by simp [spK, Value.formed, Try.underlying74, cells_spot]
  rw [if_pos hf, hs]
  simp [Program.keyLits, Try.underlying74, cells_spot, cells_3, spK, Value.cells, h1 _ _ h.1, h1 _ _ h.2, okI_wf h.1, okI_wf h.2]
theorem tryT : MapTy Try.prog 70 74 77 spK okP := ⟨Try.underlying70, .of_law spot_law, fun x hx => spot_key hx, fun x y _ _ h => spK_inj h⟩
/-! who sent blocks -/
def sends (t : Tr) (x : Int) : Prop := ∃ s d, okP s ∧ t s = some (x, d)
def IsWho (t : Tr) (l : List Int) : Prop := l.Pairwise (· < ·) ∧ ∀ x, x ∈ l ↔ sends t x
theorem who_eq {t : Tr} {l m : List Int} (h : IsWho t l) (k : IsWho t m) : l = m := asc_eq h.1 k.1 fun x => by rw [h.2, k.2]
/-- A try of few blocks. -/
def Few (t : Tr) : Prop := ∃ ks : List Sp, ks.length ≤ 100000 ∧ ∀ s v, t s = some v → s ∈ ks
theorem len_sub {α : Type} [DecidableEq α] : ∀ {l m : List α}, l.Nodup → (∀ x ∈ l, x ∈ m) → l.length ≤ m.length
  | [], m, _, _ => Nat.zero_le _
  | a :: l, m, hn, h => by
    obtain ⟨h1, h2⟩ := List.nodup_cons.1 hn
    have ha := h a (List.mem_cons_self ..)
    have h3 := len_sub (m := m.erase a) h2 fun x hx => (List.mem_erase_of_ne (fun e => h1 (by subst e; exact hx))).2 (h x (List.mem_cons_of_mem _ hx))
    rw [List.length_erase_of_mem ha] at h3
    have : 0 < m.length := List.length_pos_of_mem ha
    rw [List.length_cons]; omega
theorem Few.len {t : Tr} (h : Few t) {kv : List (Sp × Sn)} (hn : (kv.map Prod.fst).Nodup) (hk : ∀ p, p ∈ kv ↔ okP p.1 ∧ t p.1 = some p.2) : kv.length ≤ 100000 := by
  obtain ⟨ks, h1, h2⟩ := h
  have := len_sub hn (m := ks) fun x hx => by
    obtain ⟨p, hp, rfl⟩ := List.mem_map.1 hx
    exact h2 _ _ ((hk p).1 hp).2
  rw [List.length_map] at this; omega
theorem Few.add {t : Tr} {ks : List Sp} {s : Sp} {v : Sn} (h : ∀ s v, t s = some v → s ∈ ks) : ∀ s' v', upM t s v s' = some v' → s' ∈ s :: ks := fun s' v' h2 => by
  unfold upM at h2
  split at h2
  · rename_i e; rw [e]; exact List.mem_cons_self ..
  · exact List.mem_cons_of_mem _ (h _ _ h2)
/-! old tries -/
def mpV (x : Nat) : Value := .map (some x)
def mpL (x : Nat) : List Value := [.map (some x)]
theorem mpL_at {l : List Nat} {j x : Nat} (h : l[j]? = some x) : (l.flatMap mpL)[j * 1]? = some (.map (some x)) := by
  have := flat_at (f := mpL) (size := 1) (l := l) (j := j) (x := x) (fun _ _ => rfl) h 0 _ rfl
  simpa using this
theorem forall_snoc {α : Type} {P : α → Prop} {l : List α} {x : α} (h : ∀ y ∈ l, P y) (hx : P x) : ∀ y ∈ l ++ [x], P y := fun y hy => by
  rcases List.mem_append.1 hy with h1 | h1
  · exact h y h1
  · rw [List.mem_singleton] at h1; subst h1; exact hx
theorem take_snoc {β : Type} {l : List β} {k : Nat} {x : β} (h : l[k]? = some x) : l.take (k + 1) = l.take k ++ [x] := by
  rw [List.take_add_one, h]; rfl
theorem ex_cast {P : Program} {N : Nat} {f : Fr} {ds : List Deferred} {o : Oper} {w w' : World} {v v' : Value} (h : Ex P N f ds o w v w') (e : v = v') : Ex P N f ds o w v' w' := e ▸ h
theorem look_B (x : Option Bool) : (x.map Value.bool).getD (.bool false) = .bool (x.getD false) := by cases x <;> rfl
theorem look_I (x : Option Int) : (x.map (Value.int .i64)).getD (.int .i64 0) = .int .i64 (x.getD 0) := by cases x <;> rfl
end Go.Proofs.Ytlikhpfdncidkaa
namespace Go.Proofs.Ytlikhpfdncidkaa
open Go.RowKit
open Go.Maps (Keyed)

/-! ## Tries in plain words; the memory of a blame -/
def noT : Tr := fun _ => none
def tryOf (ct : Nat → Tr) : Option Nat → Tr
  | none => noT
  | some m => ct m
structure Tok (t : Tr) : Prop where
  inn : ∀ s v, t s = some v → (0 ≤ s.1 ∧ s.1 ≤ 1024 ∧ 1 ≤ s.2 ∧ s.2 ≤ 1024) ∧ 1 ≤ v.1 ∧ v.1 ≤ 1000
  one : ∀ s v s' v', t s = some v → t s' = some v' → s.1 = s'.1 → s = s'
theorem tok_none : Tok noT := ⟨fun _ _ h => (by cases h), fun _ _ _ _ h => (by cases h)⟩
theorem okP_of {s : Sp} (h : 0 ≤ s.1 ∧ s.1 ≤ 1024 ∧ 1 ≤ s.2 ∧ s.2 ≤ 1024) : okP s := ⟨⟨by omega, by omega⟩, ⟨by omega, by omega⟩⟩
theorem Tok.okp {t : Tr} (h : Tok t) {s : Sp} {v : Sn} (hs : t s = some v) : okP s := okP_of (h.inn s v hs).1
theorem Tok.add {t : Tr} (h : Tok t) {s : Sp} {v : Sn} (hs : 0 ≤ s.1 ∧ s.1 ≤ 1024 ∧ 1 ≤ s.2 ∧ s.2 ≤ 1024) (hv : 1 ≤ v.1 ∧ v.1 ≤ 1000) (hn : ∀ s' v', t s' = some v' → ¬ s'.1 = s.1) : Tok (upM t s v) := by
  refine ⟨fun s' v' h1 => ?_, fun s1 v1 s2 v2 h1 h2 he => ?_⟩
  · unfold upM at h1
    split at h1
    · rename_i e; cases h1; rw [e]; exact ⟨hs, hv⟩
    · exact h.inn _ _ h1
  · unfold upM at h1 h2
    split at h1 <;> split at h2
    · rename_i e1 e2; rw [e1, e2]
    · rename_i e1 e2; rw [e1] at he; exact absurd he.symm (hn _ _ h2)
    · rename_i e1 e2; rw [e2] at he; exact absurd he (hn _ _ h1)
    · exact h.one _ _ _ _ h1 h2 he
theorem Tok.del {t : Tr} (h : Tok t) (s : Sp) : Tok (delM t s) := by
  have k : ∀ s' v', delM t s s' = some v' → t s' = some v' := fun s' v' h1 => by
    unfold delM at h1
    split at h1
    · cases h1
    · exact h1
  exact ⟨fun s' v' h1 => h.inn _ _ (k _ _ h1), fun s1 v1 s2 v2 h1 h2 he => h.one _ _ _ _ (k _ _ h1) (k _ _ h2) he⟩
theorem nats_mem {n : Nat} {x : Int} (h : 0 ≤ x ∧ x < n) : x ∈ (List.range n).map (Int.ofNat) := List.mem_map.2 ⟨x.toNat, List.mem_range.2 (by omega), by show ((x.toNat : Nat) : Int) = x; omega⟩
theorem nodup_map {α β : Type} {f : α → β} {l : List α} (hn : l.Nodup) (h : ∀ x ∈ l, ∀ y ∈ l, f x = f y → x = y) : (l.map f).Nodup := by
  induction l with
  | nil => exact .nil
  | cons a l ih =>
    obtain ⟨h1, h2⟩ := List.nodup_cons.1 hn
    rw [List.map_cons]
    refine List.nodup_cons.2 ⟨fun h3 => ?_, ih h2 fun x hx y hy => h x (List.mem_cons_of_mem _ hx) y (List.mem_cons_of_mem _ hy)⟩
    obtain ⟨b, hb, e⟩ := List.mem_map.1 h3
    exact h1 (h b (List.mem_cons_of_mem _ hb) a (List.mem_cons_self ..) e ▸ hb)
theorem Tok.len {t : Tr} (h : Tok t) {kv : List (Sp × Sn)} (hn : (kv.map Prod.fst).Nodup) (hk : ∀ p, p ∈ kv → okP p.1 ∧ t p.1 = some p.2) : kv.length ≤ 1025 := by
  have h1 : ((kv.map Prod.fst).map Prod.fst).Nodup := nodup_map hn fun x hx y hy e => by
    obtain ⟨p, hp, rfl⟩ := List.mem_map.1 hx
    obtain ⟨q, hq, rfl⟩ := List.mem_map.1 hy
    exact h.one _ _ _ _ (hk p hp).2 (hk q hq).2 e
  have h2 := len_sub h1 (m := (List.range 1025).map Int.ofNat) fun x hx => by
    obtain ⟨s, hs, rfl⟩ := List.mem_map.1 hx
    obtain ⟨p, hp, rfl⟩ := List.mem_map.1 hs
    have := (h.inn _ _ (hk p hp).2).1
    exact nats_mem ⟨this.1, by omega⟩
  simpa using h2
/-- Who sent blocks of a try, ascending. -/
noncomputable def whoL (t : Tr) : List Int := open Classical in if h : ∃ l, IsWho t l then h.choose else []
theorem whoL_eq {t : Tr} {l : List Int} (h : IsWho t l) : whoL t = l := by
  unfold whoL
  rw [dif_pos ⟨l, h⟩]
  exact who_eq (Exists.choose_spec (p := fun l => IsWho t l) ⟨l, h⟩) h
def grid : List Sp := (List.range 1025).flatMap fun (a : Nat) => (List.range 1025).map fun (b : Nat) => (Int.ofNat a, Int.ofNat b)
theorem grid_mem {s : Sp} (h : 0 ≤ s.1 ∧ s.1 ≤ 1024 ∧ 1 ≤ s.2 ∧ s.2 ≤ 1024) : s ∈ grid := by
  obtain ⟨a, b⟩ := s
  refine List.mem_flatMap.2 ⟨a.toNat, List.mem_range.2 (by simp only at h; omega), List.mem_map.2 ⟨b.toNat, List.mem_range.2 (by simp only at h; omega), ?_⟩⟩
  simp only at h
  exact Prod.ext (by show ((a.toNat : Nat) : Int) = a; omega) (by show ((b.toNat : Nat) : Int) = b; omega)
theorem Tok.who {t : Tr} (h : Tok t) : IsWho t (whoL t) := by
  have hm : IsWho t (ascI (grid.filterMap fun s => (t s).map Prod.fst)) := by
    refine ⟨ascI_lt _, fun x => ?_⟩
    rw [ascI_mem, List.mem_filterMap]
    constructor
    · rintro ⟨s, hs, h1⟩
      cases ht : t s with
      | none => rw [ht] at h1; cases h1
      | some v =>
        rw [ht] at h1
        cases h1
        exact ⟨s, v.2, h.okp ht, ht⟩
    · rintro ⟨s, d, hs, ht⟩
      exact ⟨s, grid_mem (h.inn _ _ ht).1, by rw [ht]; rfl⟩
  rw [whoL_eq hm]; exact hm
theorem Tok.whoLen {t : Tr} (h : Tok t) : (whoL t).length ≤ 1001 := by
  have h1 : (whoL t).Nodup := h.who.1.imp fun hab => by omega
  have h2 := len_sub h1 (m := (List.range 1001).map Int.ofNat) fun x hx => by
    obtain ⟨s, d, _, ht⟩ := (h.who.2 x).1 hx
    have := (h.inn _ _ ht).2
    simp only at this
    exact nats_mem ⟨by omega, by omega⟩
  simpa using h2
theorem Tok.whoIn {t : Tr} (h : Tok t) {x : Int} (hx : x ∈ whoL t) : 1 ≤ x ∧ x ≤ 1000 := by
  obtain ⟨s, d, _, ht⟩ := (h.who.2 x).1 hx
  exact (h.inn _ _ ht).2
theorem whoL_none : whoL noT = [] := whoL_eq ⟨.nil, fun x => ⟨fun h => (by cases h), fun ⟨s, d, _, h⟩ => (by cases h)⟩⟩
theorem okI_in {x : Int} (h : 1 ≤ x ∧ x ≤ 1000) : okI x := ⟨by omega, by omega⟩
/-! what is known of the memory -/
structure BI (nw : Int → Option Nat) (od : Int → Option (Ro Nat)) (rs : List (Ro Nat)) (ms : List Nat) (ct : Nat → Tr) : Prop where
  nwm : ∀ i m, nw i = some m → m ∈ ms
  odr : ∀ i r, od i = some r → r ∈ rs
  rln : ∀ r ∈ rs, r.l.length ≤ 10
  rms : ∀ r ∈ rs, ∀ m ∈ r.l, m ∈ ms
  tok : ∀ m ∈ ms, Tok (ct m)
  nwo : ∀ i m, nw i = some m → ∀ r ∈ rs, m ∉ r.l
  nwj : ∀ i j m, nw i = some m → nw j = some m → i = j
def nwA (nw : Int → Option Nat) (ct : Nat → Tr) (i : Int) : Tr := tryOf ct (nw i)
def odR (od : Int → Option (Ro Nat)) (i : Int) : List Nat := match od i with | none => [] | some r => r.l
def odA (od : Int → Option (Ro Nat)) (ct : Nat → Tr) (i : Int) : List Tr := (odR od i).map ct
variable {nw : Int → Option Nat} {od : Int → Option (Ro Nat)} {rs : List (Ro Nat)} {ms : List Nat} {ct : Nat → Tr}
theorem BI.tokN (h : BI nw od rs ms ct) (i : Int) : Tok (nwA nw ct i) := by
  unfold nwA
  cases hn : nw i with
  | none => exact tok_none
  | some m => exact h.tok m (h.nwm i m hn)
theorem BI.odIn (h : BI nw od rs ms ct) {i : Int} {m : Nat} (hm : m ∈ odR od i) : m ∈ ms := by
  unfold odR at hm
  cases ho : od i with
  | none => rw [ho] at hm; cases hm
  | some r => rw [ho] at hm; exact h.rms r (h.odr i r ho) m hm
theorem BI.odLen (h : BI nw od rs ms ct) (i : Int) : (odR od i).length ≤ 10 := by
  unfold odR
  cases ho : od i with
  | none => exact Nat.zero_le _
  | some r => exact h.rln r (h.odr i r ho)
theorem upd_self {α : Type} (tk : Nat → α) (x : Nat) : upd tk x (tk x) = tk := by
  funext y; unfold upd; split
  · rename_i e; rw [e]
  · rfl
theorem len_B {n : Nat} {t : Tr} (h : Tok t) (hk : KN okP t n) : n = 0 ↔ ∀ s, t s = none := by
  obtain ⟨kv, h1, h2, rfl⟩ := hk
  constructor
  · intro h0 s
    have : kv = [] := List.eq_nil_of_length_eq_zero h0
    subst this
    cases ht : t s with
    | none => rfl
    | some v => exact absurd ((h2 (s, v)).2 ⟨h.okp ht, ht⟩) (by simp)
  · intro h0
    cases kv with
    | nil => rfl
    | cons p kv => have := ((h2 p).1 (List.mem_cons_self ..)).2; rw [h0] at this; cases this
/-! fps of a bundle -/
theorem fps_big {L : List Item} : fps [Big L] = fps L := by
  funext g
  refine propext ⟨fun ⟨it, h1, h2⟩ => ?_, fun h => ⟨Big L, List.mem_singleton.2 rfl, h⟩⟩
  rw [List.mem_singleton] at h1; subst h1; exact h2
end Go.Proofs.Ytlikhpfdncidkaa
