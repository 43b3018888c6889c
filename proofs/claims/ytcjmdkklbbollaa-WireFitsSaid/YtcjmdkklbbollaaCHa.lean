import Derived.Test.YtcjmdkklbbollaaCG
import Derived.Test.YtcjmdkklbbollaaEk
set_option linter.unusedSimpArgs false
set_option linter.unusedVariables false
namespace Go.Proofs.Ytcjmdkklbbollaa
open Go.RowKit

theorem ex_cast {P : Program} {N : Nat} {f : Fr} {ds : List Deferred} {o : Oper} {w w' : World} {v v' : Value} (h : Ex P N f ds o w v w') (e : v = v') : Ex P N f ds o w v' w' := e ▸ h
section
variable {P : Program} {N : Nat} {f : Fr} {ds : List Deferred} {w : World} {o : Oper}
/-- A slice with low, high and max. -/
theorem x_slice3 {t e size n c g off off' : Nat} {x y1 y2 y3 : Operand} {k1 k2 k3 : IntKind} {i1 i2 i3 : Int} (l h m : Nat) (ho : o.op = .slice t x (some y1) (some y2) (some y3)) (hx : evo f x = some (.slice (some ⟨g, off, none⟩) n c)) (h1 : evo f y1 = some (.int k1 i1)) (h2 : evo f y2 = some (.int k2 i2)) (h3 : evo f y3 = some (.int k3 i3))
    (hu : P.underlying t = some (.slice e)) (hz : szO P e = some size) (hb : i1 = (l : Int) ∧ i2 = (h : Int) ∧ i3 = (m : Int) ∧ l ≤ h ∧ h ≤ m ∧ m ≤ c ∧ l < m) (he : off + l * size = off') :
    Ex P N f ds o w (.slice (some ⟨g, off', none⟩) (h - l) (m - l)) w :=
  ex_of (x := Instr.sliceAt t (.slice (some ⟨g, off, none⟩) n c) (some (.int k1 i1)) (some (.int k2 i2)) (some (.int k3 i3))) (fun a ha => by unfold execOp; simp only [ho, ha.eval hx, ha.eval h1, ha.eval h2, ha.eval h3, Option.map_some]) (by
    obtain ⟨rfl, rfl, rfl, q1, q2, q3, q4⟩ := hb
    have hel : P.elem t = e := by unfold Program.elem; rw [hu]
    have hu' : P.underlying t = some (.slice (P.elem t)) := by rw [hel]; exact hu
    rw [run_sliceAt_slice (P := P) w t _ _ _ _ hu', run_slice_lhm (P := P) w t (some ⟨g, off, none⟩) n c hu' k1 k2 k3 (l : Int) (h : Int) (m : Int) (by omega) (by omega) (by omega) (by omega), hel, run_sz hz]
    simp only [Result.andThen_ok, sliced, Int.toNat_natCast]
    rw [if_neg (by omega), Option.map_some, add_lit', he])
end
/-! ## The pieces of 32 bytes -/
abbrev Ck (q : Nat) : Type := { k : Nat // k < q }
def enumC (q : Nat) : List (Ck q) := List.ofFn (fun i : Fin q => (⟨i.1, i.2⟩ : Ck q))
theorem enumC_len (q : Nat) : (enumC q).length = q := List.length_ofFn
theorem enumC_next {q k : Nat} (h : k < q) : (enumC q).take k ++ [(⟨k, h⟩ : Ck q)] = (enumC q).take (k + 1) := by
  have hk' : k < (enumC q).length := by rw [enumC_len]; exact h
  rw [List.take_succ_eq_append_getElem hk']
  congr 2
  simp [enumC]
def encC (gb : Nat) {q : Nat} (x : Ck q) : Array Value := #[.slice (some ⟨gb, 32 * x.1, none⟩) 32 32]
def chunkB (s : ByteArray) (k : Nat) : List UInt8 := (s.data.toList.drop (32 * k)).take 32
def chunkS (s : ByteArray) (k : Nat) : ByteArray := ⟨(chunkB s k).toArray⟩
def chunksS (s : ByteArray) : List ByteArray := (List.range (s.size / 32)).map (chunkS s)
def stV (l : List ByteArray) : List Value := l.map Value.string
theorem stV_len (l : List ByteArray) : (stV l).length = l.length := by unfold stV; simp
theorem stV_snoc (l : List ByteArray) (x : ByteArray) : stV (l ++ [x]) = stV l ++ [Value.string x] := by unfold stV; simp
theorem stV_at {l : List ByteArray} {j : Nat} {x : ByteArray} (h : l[j]? = some x) : (stV l)[j * 1]? = some (.string x) := by
  unfold stV; rw [Nat.mul_one, List.getElem?_map, h]; rfl
theorem enumC_all (q : Nat) (s : ByteArray) : (enumC q).map (fun x => chunkS s x.1) = (List.range q).map (chunkS s) := by
  apply List.ext_getElem?
  intro j
  rw [List.getElem?_map, List.getElem?_map]
  unfold enumC
  rw [List.getElem?_ofFn]
  by_cases h : j < q
  · rw [dif_pos h, List.getElem?_range h]; rfl
  · rw [dif_neg h, List.getElem?_eq_none (by simpa using h)]; rfl
theorem chunkB_len {s : ByteArray} {k q : Nat} (h : s.size = 32 * q) (hk : k < q) : (chunkB s k).length = 32 := by
  unfold chunkB
  have : s.data.toList.length = s.size := by simp
  rw [List.length_take, List.length_drop]; omega
/-- The bytes of a piece stand in the row. -/
theorem chunk_cells {s : ByteArray} {k q g : Nat} {cs : Array Value} {w : World} (h : s.size = 32 * q) (hk : k < q) (hcs : ∀ j, j < s.size → cs[j]? = some (.int .u8 ((s.data.toList.getD j 0).toNat : Nat))) (hw : ∀ j u, cs[j]? = some u → w.cell? ⟨g, j, none⟩ = some u) :
    ∀ j u, (bytesV (chunkB s k))[j]? = some u → w.cell? ((⟨g, 32 * k, none⟩ : Addr).add j) = some u := fun j u hu => by
  have hj : j < 32 := by
    have := (List.getElem?_eq_some_iff.1 hu).1
    unfold bytesV at this
    rw [List.length_map, chunkB_len h hk] at this; exact this
  rw [add_lit']
  refine hw _ _ ?_
  rw [hcs (32 * k + j) (by omega)]
  unfold bytesV chunkB at hu
  rw [List.getElem?_map, List.getElem?_take, if_pos hj, List.getElem?_drop] at hu
  have hl : 32 * k + j < s.data.toList.length := by
    have : s.data.toList.length = s.size := by simp
    omega
  rw [List.getElem?_eq_getElem hl] at hu
  simp only [Option.map_some, Option.some.injEq] at hu
  rw [← hu, List.getD_eq_getElem?_getD, List.getElem?_eq_getElem hl]; rfl
end Go.Proofs.Ytcjmdkklbbollaa
