import Derived.Test.YtlajgickimgigaaEy
import Derived.Maps.AppendAt
import Derived.Lib.AppendStr
import Derived.Laws.BytesString
import Derived.Laws.OwnMore
import Derived.Deep.OwnRows
set_option linter.unusedSimpArgs false
set_option linter.unusedVariables false
namespace Go.Proofs.Ytlajgickimgigaa
open Go.RowKit

/-! ## Rows: slices of the call's own, of which so much is told as they read -/
theorem own_local {w w' : World} {e : TypeId} {size n : Nat} {v : Value} {xs : List Value} (h : Same (fun g => v.ownBlock = some g) w w') (k : w.ownsRow 0 e size v n xs) : w'.ownsRow 0 e size v n xs := by
  refine ⟨k.1, ?_⟩
  rcases k.2 with h2 | ⟨g, cap, cur, rfl, h0, h3, r⟩
  · exact .inl h2
  · exact .inr ⟨g, cap, cur, rfl, h0, (h.block g rfl).trans h3, r⟩
/-- v is a slice that reads as the cells xs (n elements of 'size' cells of type e) and whose block is nobody else's. -/
def Row (v : Value) (e : TypeId) (size n : Nat) (xs : List Value) : Item := ⟨fun g => v.ownBlock = some g, fun w => w.ownsRow 0 e size v n xs, own_local⟩
section
variable {P : Program} {N : Nat} {Q : Exit → Act → World → Prop} {f : Fr} {ds : List Deferred} {w w' : World} {o : Oper} {ops : Array Oper} {L : List Item} {K : Act → World → Prop}
theorem S.row {k : Nat} {v : Value} {e size n : Nat} {xs : List Value} (h : S w L) (hk : L[k]? = some (Row v e size n xs)) : w.ownsRow 0 e size v n xs := h.at hk
theorem S.rowForm {k : Nat} {p : Option Addr} {e size n c : Nat} {xs : List Value} (h : S w L) (hk : L[k]? = some (Row (.slice p n c) e size n xs)) (hn : 0 < n) : ∃ g, p = some ⟨g, 0, none⟩ := by
  rcases (h.row hk).2 with ⟨_, h2⟩ | ⟨g, cap, cur, h2, _⟩
  · omega
  · cases h2; exact ⟨g, rfl⟩
theorem S.rowLen {k : Nat} {v : Value} {e size n : Nat} {xs : List Value} (h : S w L) (hk : L[k]? = some (Row v e size n xs)) : xs.length = n * size := (h.row hk).1
theorem S.rowCell {k g n c e size j : Nat} {xs : List Value} {u : Value} (h : S w L) (hk : L[k]? = some (Row (.slice (some ⟨g, 0, none⟩) n c) e size n xs)) (hj : xs[j]? = some u) : w.cell? ⟨g, j, none⟩ = some u := by
  rcases (h.row hk).2 with ⟨h2, _⟩ | ⟨g', cap, cur, h2, _, hg, _, _, _, ht⟩
  · cases h2
  · cases h2
    rw [cell_of_row w g j cur e (0, 0) hg]
    rw [← ht, List.getElem?_take] at hj
    split at hj
    · simpa using hj
    · cases hj
theorem S.nilRow (h : S w L) (e size : Nat) : S w (Row (.slice none 0 0) e size 0 [] :: L) :=
  h.cons ⟨by simp, .inl ⟨rfl, rfl⟩⟩ (fun g hg => by cases hg) (fun x hx g hg => by cases hg)
/-- A block that is told whole is a row. -/
theorem S.toRow {k g n c e size : Nat} {cs : Array Value} {xs : List Value} (h : S w L) (hk : L[k]? = some (Ob g (.cells cs e (0, 0)))) (hn : n ≤ c) (hc : c ≤ maxLen) (hs : cs.size = c * size) (hx : cs.toList.take (n * size) = xs) (hl : xs.length = n * size) :
    S w (L.set k (Row (.slice (some ⟨g, 0, none⟩) n c) e size n xs)) :=
  h.turn hk Same.rfl' ⟨hl, .inr ⟨g, c, cs, rfl, Nat.zero_le _, h.ob hk, hn, hc, hs, hx⟩⟩ (fun i hi => by
    cases hi
    exact ⟨.inl rfl, h.lt hk rfl⟩)
def infO (P : Program) (t : TypeId) : Option (Option Value × Nat × Nat) := (P.info? t).map fun i => (i.zero, i.size, i.bytes)
theorem inf_of {t size bytes : Nat} {z : Option Value} (h : infO P t = some (z, size, bytes)) : ∃ i, P.info? t = some i ∧ i.zero = z ∧ i.size = size ∧ i.bytes = bytes := by
  unfold infO at h
  cases hi : P.info? t with
  | none => simp [hi] at h
  | some i => simp [hi] at h; exact ⟨i, rfl, h.1, h.2.1, h.2.2⟩
theorem S.rowTurn {k e size n n' : Nat} {v v' : Value} {xs xs' : List Value} (h : S w L) (hk : L[k]? = some (Row v e size n xs)) (hown : w'.ownsRow 0 e size v' n' xs') (hg : w.grownBy w' v.ownBlock) (hv : v'.ownBlock = v.ownBlock ∨ v'.ownBlock = some w.heap.size) :
    S w' (L.set k (Row v' e size n' xs')) := by
  refine h.turn hk ⟨hg.os, hg.tape, hg.output, hg.size, fun g hg' => hg.block g hg'.1 (fun e => hg'.2 e.symm)⟩ hown fun g hg' => ?_
  have hlt : g < w'.heap.size := by
    rcases hown.2 with ⟨rfl, _⟩ | ⟨g', cap, cur, rfl, _, hgg, _⟩
    · cases hg'
    · cases hg'; exact (Array.getElem?_eq_some_iff.1 hgg).1
  rcases hv with hv | hv
  · exact ⟨.inl (show v.ownBlock = some g from hv ▸ hg'), hlt⟩
  · refine ⟨.inr ?_, hlt⟩
    have : some g = some w.heap.size := hg'.symm.trans hv
    cases this; exact Nat.le_refl _
theorem own_slice {w : World} {e size n : Nat} {v : Value} {xs : List Value} (h : w.ownsRow 0 e size v n xs) : ∃ p c, v = .slice p n c := by
  rcases h.2 with ⟨rfl, rfl⟩ | ⟨g, cap, cur, rfl, _⟩
  · exact ⟨none, 0, rfl⟩
  · exact ⟨_, _, rfl⟩
/-- append of elements that lie somewhere to a row. -/
theorem s_append {d t e size bytes n m c : Nat} {s x : Operand} {z v : Value} {xs news : List Value} {ad : Addr} (H : S w L) (k : Nat) (hw : Wt ops f o) (hd : o.dst = some d) (hN : Nat.blt d N = true)
    (ho : o.op = .call { callee := .builtin .append, args := #[s, x], argTypes := #[t, t] }) (hs : evo f s = some v) (hx : evo f x = some (.slice (some ad) m c)) (hk : L[k]? = some (Row v e size n xs))
    (ht : P.underlying t = some (.slice e)) (hi : infO P e = some (some z, size, bytes)) (hz : z.cells.size = size) (hsz : 0 < size) (hb0 : 0 < bytes) (hl : news.length = m * size) (hnews : ∀ j u, news[j]? = some u → w.cell? (ad.add j) = some u) (h1 : news.all (·.oneCell') = true)
    (hb : (n + m) * bytes ≤ 140737488355328)
    (h : ∀ p c w', S w' (L.set k (Row (.slice p (n + m) c) e size (n + m) (xs ++ news))) → G N K ((d, .slice p (n + m) c) :: f) ds w') : G N (StepK P ops Q o K) f ds w := by
  obtain ⟨i, hi1, hi2, hi3, hi4⟩ := inf_of hi
  have h63 : n + m ≤ maxLen := by
    have : n + m ≤ (n + m) * bytes := Nat.le_mul_of_pos_right _ hb0
    unfold maxLen; omega
  obtain ⟨v', w', hr, hown, hg, _, hv⟩ := run_append_own_at (P := P) w 0 t o.type e i z size bytes ht hi1 hi2 hi3 hi4 hz hsz v n xs (H.row hk) ad m c news hl hnews (List.all_eq_true.1 h1) h63 hb (Nat.zero_le _)
  obtain ⟨p, c', rfl⟩ := own_slice hown
  exact s_val hw hd hN (x_builtin (vs := [v, .slice (some ad) m c]) ho (by simp only [Array.toList, evs, hs, hx]) (fun cs => by
    simp only [builtin, Sem.run_bind, hr, Result.andThen_ok, Sem.run_pure])) (h p c' w' (H.rowTurn hk hown hg hv))
theorem news_ob {g j0 : Nat} {cs : Array Value} {e : TypeId} {fr : Nat × Nat} (H : S w L) (hk : L[j0]? = some (Ob g (.cells cs e fr))) : ∀ j u, cs.toList[j]? = some u → w.cell? ((⟨g, 0, none⟩ : Addr).add j) = some u := fun j u hu => by
  rw [add_lit', Nat.zero_add]; exact H.cell hk (by simpa using hu)
/-! slices that are told: addresses, bytes -/
theorem x_indexAddr {t e size n c g off : Nat} {x y : Operand} {k : IntKind} {i : Int} (j : Nat) (ho : o.op = .indexAddr t x y) (hx : evo f x = some (.slice (some ⟨g, off, none⟩) n c)) (hy : evo f y = some (.int k i)) (hu : P.underlying t = some (.slice e)) (hz : szO P e = some size) (hb : i = (j : Int) ∧ j < n) {off' : Nat} (he : off + j * size = off') :
    Ex P N f ds o w (.pointer (some ⟨g, off', none⟩)) w :=
  ex_of (x := Instr.indexAt t (.slice (some ⟨g, off, none⟩) n c) (.int k i)) (fun a ha => by unfold execOp; simp only [ho, ha.eval hx, ha.eval hy]) (by
    obtain ⟨rfl, hj⟩ := hb
    subst he
    unfold Instr.indexAt
    have h1 : (0 : Int) ≤ (j : Int) ∧ (j : Int) < (n : Int) := by omega
    simp only [asIntOf, Sem.run_bind, Sem.run_pure, Result.andThen_ok, run_underlying hu, if_pos h1, Int.toNat_natCast, run_sz hz, add_lit'])
theorem x_indexAddrA {t e size n g off : Nat} {x y : Operand} {k : IntKind} {i : Int} (j : Nat) (ho : o.op = .indexAddr t x y) (hx : evo f x = some (.pointer (some ⟨g, off, none⟩))) (hy : evo f y = some (.int k i)) (hu : P.underlying t = some (.array n e)) (hz : szO P e = some size) (hb : i = (j : Int) ∧ j < n) {off' : Nat} (he : off + j * size = off') :
    Ex P N f ds o w (.pointer (some ⟨g, off', none⟩)) w :=
  ex_of (x := Instr.indexAt t (.pointer (some ⟨g, off, none⟩)) (.int k i)) (fun a ha => by unfold execOp; simp only [ho, ha.eval hx, ha.eval hy]) (by
    obtain ⟨rfl, hj⟩ := hb
    subst he
    unfold Instr.indexAt
    have h1 : (0 : Int) ≤ (j : Int) ∧ (j : Int) < (n : Int) := by omega
    simp only [asIntOf, Sem.run_bind, Sem.run_pure, Result.andThen_ok, run_underlying hu, Instr.sureAddr, if_pos h1, Int.toNat_natCast, run_sz hz, add_lit'])
theorem x_indexV {t e size n : Nat} {x y : Operand} {k : IntKind} {i : Int} {cs : Array Value} {v : Value} (j : Nat) (ho : o.op = .index t x y) (hx : evo f x = some (.agg cs)) (hy : evo f y = some (.int k i)) (hu : P.underlying t = some (.array n e)) (hz : szO P e = some size) (hb : i = (j : Int) ∧ j < n) (hp : (part e cs (j * size)).run P w = .ok v w) :
    Ex P N f ds o w v w :=
  ex_of (x := Instr.index t (.agg cs) (.int k i)) (fun a ha => by unfold execOp; simp only [ho, ha.eval hx, ha.eval hy]) (by
    obtain ⟨rfl, hj⟩ := hb
    unfold Instr.index
    have h1 : (0 : Int) ≤ (j : Int) ∧ (j : Int) < (n : Int) := by omega
    simp only [asIntOf, Sem.run_bind, Sem.run_pure, Result.andThen_ok, run_underlying hu, if_pos h1, Int.toNat_natCast, run_sz hz, hp])
/-- A load of one cell, the cell told by a fact on the world. -/
theorem x_loadC {t : TypeId} {d : TypeDesc} {x : Operand} {p : Addr} {v : Value} (ho : o.op = .load t x) (hx : evo f x = some (.pointer (some p))) (hu : P.underlying t = some d) (hd : aggB d = false) (hc : w.cell? p = some v) : Ex P N f ds o w v w := x_load ho hx (run_load1 hu hd hc)
/-- A load of some cells, told by a fact on the world. -/
theorem run_loadF {t : TypeId} {d : TypeDesc} {p : Addr} {n : Nat} {vs : List Value} (hu : P.underlying t = some d) (hd : aggB d = true) (hn : szO P t = some n) (hl : vs.length = n) (hc : ∀ j v, vs[j]? = some v → w.cell? (p.add j) = some v) : (loadVar t p).run P w = .ok (.agg vs.toArray) w := by
  have h := run_loadCells_list (P := P) w p vs hc
  rw [hl] at h
  unfold loadVar isAgg
  simp only [Sem.run_bind, run_underlying hu, Result.andThen_ok]
  cases d <;> simp [aggB] at hd <;> simp only [Sem.run_bind, Sem.run_pure, Result.andThen_ok, if_true, run_sz hn, h]
theorem x_loadF {t : TypeId} {d : TypeDesc} {x : Operand} {p : Addr} {n : Nat} {vs : List Value} (ho : o.op = .load t x) (hx : evo f x = some (.pointer (some p))) (hu : P.underlying t = some d) (hd : aggB d = true) (hn : szO P t = some n) (hl : vs.length = n) (hc : ∀ j v, vs[j]? = some v → w.cell? (p.add j) = some v) :
    Ex P N f ds o w (.agg vs.toArray) w := x_load ho hx (run_loadF hu hd hn hl hc)
def bytesV (l : List UInt8) : List Value := l.map fun b => Value.int .u8 b.toNat
theorem fold_bytes (l : List UInt8) (r : ByteArray) : (l.map fun b => ((b.toNat : Nat) : Int)).foldl (fun r n => r.push (UInt8.ofNat n.toNat)) r = ⟨r.data ++ l.toArray⟩ := by
  induction l generalizing r with
  | nil => simp
  | cons b l ih =>
    simp only [List.map_cons, List.foldl_cons, ih]
    apply ByteArray.ext
    apply Array.ext'
    simp [ByteArray.push]
/-- The bytes of a slice as a string. -/
theorem x_bytes {s d e n c : Nat} {x : Operand} {ad : Addr} {l : List UInt8} (ho : o.op = .convert s d x) (hx : evo f x = some (.slice (some ad) n c)) (hs : P.underlying s = some (.slice e)) (hd : P.underlying d = some .string) (he : P.underlying e = some (.int .u8)) (hl : l.length = n)
    (hc : ∀ j u, (bytesV l)[j]? = some u → w.cell? (ad.add j) = some u) : Ex P N f ds o w (.string ⟨l.toArray⟩) w :=
  ex_of (x := convert s d (.slice (some ad) n c)) (fun a ha => by unfold execOp; simp only [ho, ha.eval hx]) (by
    have h1 := run_loadCells_list (P := P) w ad (bytesV l) hc
    have h2 : bytesV l = (l.map fun b => ((b.toNat : Nat) : Int)).map (Value.int .u8) := by simp [bytesV]
    have h3 : (bytesV l).length = n := by simp [bytesV, hl]
    rw [h3, h2] at h1
    have h4 := run_bytesToString w ad n c _ h1
    rw [fold_bytes] at h4
    unfold convert
    simp only [Sem.run_bind, run_underlying hs, run_underlying hd, Result.andThen_ok]
    simp only [run_underlying he, Sem.run_bind, Result.andThen_ok, h4]
    simp)
theorem x_bytes0 {s d e : Nat} {x : Operand} {n c : Nat} (ho : o.op = .convert s d x) (hx : evo f x = some (.slice none n c)) (hs : P.underlying s = some (.slice e)) (hd : P.underlying d = some .string) (he : P.underlying e = some (.int .u8)) : Ex P N f ds o w (.string ⟨#[]⟩) w :=
  ex_of (x := convert s d (.slice none n c)) (fun a ha => by unfold execOp; simp only [ho, ha.eval hx]) (by
    unfold convert
    simp only [Sem.run_bind, run_underlying hs, run_underlying hd, Result.andThen_ok]
    simp only [run_underlying he, Sem.run_bind, Result.andThen_ok, Conv.bytesToString]
    rfl)
theorem hc_ob {g k : Nat} {cs : Array Value} {e : TypeId} {fr : Nat × Nat} {l : List UInt8} (H : S w L) (hk : L[k]? = some (Ob g (.cells cs e fr))) (hl : cs.toList = bytesV l) : ∀ j u, (bytesV l)[j]? = some u → w.cell? ((⟨g, 0, none⟩ : Addr).add j) = some u := by
  rw [← hl]; exact news_ob H hk
theorem u8_cell (n : Int) (h : 0 ≤ n ∧ n ≤ 255) : Value.int .u8 n = .int .u8 ((UInt8.ofNat n.toNat).toNat : Nat) := by
  congr 1
  rw [UInt8.toNat_ofNat']
  omega
/-- A composite literal of a slice: a new block. -/
theorem s_buildSlice {d t e size len : Nat} {ps : Array (Nat × Operand)} {vs : List Value} {z : Value} {cells : Array Value} (H : S w L) (hw : Wt ops f o) (hd : o.dst = some d) (hN : Nat.blt d N = true) (ho : o.op = .buildSlice t len ps) (hx : evs f (ps.toList.map (·.2)) = some vs)
    (hu : P.underlying t = some (.slice e)) (hz : szO P e = some size) (hze : zeO P e = some z) (hlen : Nat.ble (len * size) 16777216 = true) (hpos : Nat.beq (len * size) 0 = false)
    (hb : Instr.fill (fun i => some (i * size, size)) ((Array.range (len * size)).map (z.cells[· % z.cells.size]!)) ((ps.toList.map (·.1)).zip vs) = some cells)
    (h : ∀ g w', S w' (Ob g (.cells cells e (0, 0)) :: L) → G N K ((d, .slice (some ⟨g, 0, none⟩) len len) :: f) ds w') : G N (StepK P ops Q o K) f ds w :=
  s_new (v := fun g => .slice (some ⟨g, 0, none⟩) len len) H hw hd hN (fun a ha => by
    unfold execOp
    have h1 : (ps.map fun (i, x) => (i, a.eval x)).toList = (ps.toList.map (·.1)).zip vs := by rw [Array.toList_map]; exact evparts ha hx
    have h2 : ¬ (len * size > 2 ^ 24) := by have := Nat.le_of_ble_eq_true hlen; omega
    have h3 : ¬ (len * size = 0) := fun e => by rw [e] at hpos; cases hpos
    simp only [ho, Instr.buildSlice, Sem.run_bind, run_underlying hu, Result.andThen_ok, run_sz hz, if_neg h2, if_neg h3, run_ze hze, Sem.run_pure, h1, hb]
    rfl) h
theorem made_replicate (z : Value) (n : Nat) : madeCells #[z] n = Array.replicate n z := by
  unfold madeCells
  apply Array.ext
  · simp
  · intro i h1 h2
    simp [Nat.mod_one]
/-- make of elements of one cell. -/
theorem s_make1 {d t e bytes : Nat} {x y : Operand} {kx ky : IntKind} {i j : Int} {z : Value} (n : Nat) (H : S w L) (hw : Wt ops f o) (hd : o.dst = some d) (hN : Nat.blt d N = true) (ho : o.op = .makeSlice t x y) (hx : evo f x = some (.int kx i)) (hy : evo f y = some (.int ky j))
    (hu : P.underlying t = some (.slice e)) (hi : infO P e = some (some z, 1, bytes)) (hz : z.cells = #[z]) (hn : i = (n : Int) ∧ j = (n : Int) ∧ bytes * n ≤ 281474976710656 ∧ n ≤ 9223372036854775807)
    (h : ∀ g w', S w' (Ob g (.cells (Array.replicate n z) e (0, 0)) :: L) → G N K ((d, .slice (some ⟨g, 0, none⟩) n n) :: f) ds w') : G N (StepK P ops Q o K) f ds w :=
  s_new (v := fun g => .slice (some ⟨g, 0, none⟩) n n) H hw hd hN (fun a ha => by
    obtain ⟨rfl, rfl, h1, h2⟩ := hn
    have := Go.run_make_row' (P := P) t e z bytes hu hi hz kx ky n h1 h2 w
    unfold execOp
    simp only [ho, ha.eval hx, ha.eval hy, Sem.run_bind, this, Result.andThen_ok, made_replicate]
    rfl) h
/-! '==' and '!=' of what is compared at once -/
def eqNow : TypeDesc → Value → Value → Option Bool
  | .bool, .bool a, .bool b => some (a == b)
  | .pointer _, .pointer none, .pointer b => some b.isNone
  | .pointer _, .pointer (some _), .pointer none => some false
  | .slice _, .slice none _ _, .slice b _ _ => some b.isNone
  | .slice _, .slice (some _) _ _, .slice none _ _ => some false
  | .map _ _, .map none, .map b => some b.isNone
  | .map _ _, .map (some _), .map none => some false
  | .func _ _ _, .nilFunc, .nilFunc => some true
  | .func _ _ _, .nilFunc, .func _ _ _ => some false
  | .func _ _ _, .func _ _ _, .nilFunc => some false
  | _, _, _ => none
theorem run_eqNow {t : TypeId} {d : TypeDesc} {x y : Value} {r : Bool} (hu : P.underlying t = some d) (h : eqNow d x y = some r) : (Op.equal t x y).run P w = .ok r w := by
  show (Op.equalIn (9999 + 1) t x y).run P w = _
  unfold Op.equalIn
  simp only [Sem.run_bind, run_underlying hu, Result.andThen_ok]
  unfold eqNow at h
  split at h <;> simp at h <;> subst h <;> simp
theorem b_eqN {t : TypeId} {d : TypeDesc} {xo yo : Operand} {x y : Value} {r : Bool} (hu : P.underlying t = some d) (h : eqNow d x y = some r) : Bin P .eql t xo yo x y w (.bool r) := by
  have e := run_eqNow (w := w) hu h
  unfold Bin
  unfold eqNow at h
  split at h <;> simp at h <;> (rw [Sem.run_bind]; (show ((Result.ok () w).andThen _ : Result Value) = _); simp only [Result.andThen_ok]; (show ((Op.equal t _ _ >>= fun b => pure (Value.bool b) : Sem Value)).run P w = _); rw [Sem.run_bind, e]; rfl)
theorem b_neN {t : TypeId} {d : TypeDesc} {xo yo : Operand} {x y : Value} {r : Bool} (hu : P.underlying t = some d) (h : eqNow d x y = some r) : Bin P .neq t xo yo x y w (.bool (!r)) := by
  have e := run_eqNow (w := w) hu h
  unfold Bin
  unfold eqNow at h
  split at h <;> simp at h <;> (rw [Sem.run_bind]; (show ((Result.ok () w).andThen _ : Result Value) = _); simp only [Result.andThen_ok]; (show ((Op.equal t _ _ >>= fun b => pure (Value.bool (!b)) : Sem Value)).run P w = _); rw [Sem.run_bind, e]; rfl)
end
end Go.Proofs.Ytlajgickimgigaa
