import Derived.Test.YtlajgickimgigaaEo
set_option linter.unusedSimpArgs false
set_option linter.unusedVariables false
namespace Go.Proofs.Ytlajgickimgigaa
open Go.RowKit

section
variable {P : Program} {N : Nat} {f : Fr} {ds : List Deferred} {w w' : World} {o : Oper} {L : List Item}
theorem ex_of {v : Value} {x : Sem Value} (h : ∀ a, Rds N a f ds → execOp a.eval o = (do pure (.value (← x)))) (hx : x.run P w = .ok v w') : Ex P N f ds o w v w' := fun a ha => by
  rw [h a ha]; simp [hx]
theorem x_move {x : Operand} {v : Value} (ho : o.op = .move x) (hx : evo f x = some v) : Ex P N f ds o w v w := fun a ha => by
  unfold execOp; simp only [ho, ha.eval hx]; rfl
theorem x_assign {x : Operand} {v : Value} (ho : o.op = .assign x) (hx : evo f x = some v) : Ex P N f ds o w v w := fun a ha => by
  unfold execOp; simp only [ho, ha.eval hx]; rfl
theorem x_pick {c x y : Operand} {b : Bool} {vx vy : Value} (ho : o.op = .pick c x y) (hc : evo f c = some (.bool b)) (hx : evo f x = some vx) (hy : evo f y = some vy) : Ex P N f ds o w (if b then vx else vy) w := fun a ha => by
  unfold execOp; simp only [ho, ha.eval hx, ha.eval hy, ha.eval hc, asBool]; rfl
/-- What a binary operation yields. -/
def Bin (P : Program) (op : BinOp) (t : TypeId) (x y : Operand) (a b : Value) (w : World) (v : Value) : Prop := (do eqGuard op t x y a b; binOp op t a b : Sem Value).run P w = .ok v w
theorem x_bin {op : BinOp} {t ty : TypeId} {x y : Operand} {vx vy v : Value} (ho : o.op = .binOp op t x y ty) (hx : evo f x = some vx) (hy : evo f y = some vy) (hb : Bin P op t x y vx vy w v) : Ex P N f ds o w v w :=
  ex_of (fun a ha => by unfold execOp; simp only [ho, ha.eval hx, ha.eval hy]) hb
section
variable {t : TypeId} {xo yo : Operand} {k : IntKind} {x y r : Int}
theorem guard_int {op : BinOp} : (eqGuard op t xo yo (.int k x) (.int k y)).run P w = .ok () w := by unfold eqGuard; cases op <;> rfl
theorem b_add (h : k.wrap (x + y) = r) : Bin P .add t xo yo (.int k x) (.int k y) w (.int k r) := by
  unfold Bin; rw [Sem.run_bind, guard_int]; simp [binOp, Op.intArith, h]
theorem b_sub (h : k.wrap (x - y) = r) : Bin P .sub t xo yo (.int k x) (.int k y) w (.int k r) := by
  unfold Bin; rw [Sem.run_bind, guard_int]; simp [binOp, Op.intArith, h]
theorem b_mul (h : k.wrap (x * y) = r) : Bin P .mul t xo yo (.int k x) (.int k y) w (.int k r) := by
  unfold Bin; rw [Sem.run_bind, guard_int]; simp [binOp, Op.intArith, h]
theorem b_quo (hy : y ≠ 0) (h : k.wrap (x.tdiv y) = r) : Bin P .quo t xo yo (.int k x) (.int k y) w (.int k r) := by
  unfold Bin; rw [Sem.run_bind, guard_int]; simp [binOp, Op.intDiv, h, hy]
theorem b_rem (hy : y ≠ 0) (h : x.tmod y = r) : Bin P .rem t xo yo (.int k x) (.int k y) w (.int k r) := by
  unfold Bin; rw [Sem.run_bind, guard_int]; simp [binOp, Op.intDiv, h, hy]
theorem b_lss : Bin P .lss t xo yo (.int k x) (.int k y) w (.bool (decide (x < y))) := by
  unfold Bin; rw [Sem.run_bind, guard_int]; simp [binOp, Op.intCmp]
theorem b_leq : Bin P .leq t xo yo (.int k x) (.int k y) w (.bool (decide (x ≤ y))) := by
  unfold Bin; rw [Sem.run_bind, guard_int]; simp [binOp, Op.intCmp]
theorem b_gtr : Bin P .gtr t xo yo (.int k x) (.int k y) w (.bool (decide (y < x))) := by
  unfold Bin; rw [Sem.run_bind, guard_int]; simp [binOp, Op.intCmp]
theorem b_geq : Bin P .geq t xo yo (.int k x) (.int k y) w (.bool (decide (y ≤ x))) := by
  unfold Bin; rw [Sem.run_bind, guard_int]; simp [binOp, Op.intCmp]
theorem b_eql : Bin P .eql t xo yo (.int k x) (.int k y) w (.bool (decide (x = y))) := by
  unfold Bin; rw [Sem.run_bind, guard_int]; simp [binOp, Op.intCmp]; rfl
theorem b_neq : Bin P .neq t xo yo (.int k x) (.int k y) w (.bool (!decide (x = y))) := by
  unfold Bin; rw [Sem.run_bind, guard_int]; simp [binOp, Op.intCmp]; rfl
theorem b_bits {op : BinOp} (hop : op = .and ∨ op = .or ∨ op = .xor ∨ op = .andNot) {v : Value} (h : (Op.intBits op k x y).run P w = .ok v w) : Bin P op t xo yo (.int k x) (.int k y) w v := by
  unfold Bin; rw [Sem.run_bind, guard_int]
  rcases hop with rfl | rfl | rfl | rfl <;> simp [binOp, h]
theorem b_shl {n : Nat} {yk : IntKind} (h : k.wrap (x * 2 ^ (min n k.bits)) = r) : Bin P .shl t xo yo (.int k x) (.int yk n) w (.int k r) := by
  have : (eqGuard .shl t xo yo (.int k x) (.int yk n)).run P w = .ok () w := rfl
  unfold Bin; have h0 : ¬ ((n : Int) < 0) := by omega
  rw [Sem.run_bind, this]; simp [binOp, Op.shift, h, h0]
theorem b_shr {n : Nat} {yk : IntKind} (h : x.fdiv (2 ^ (min n k.bits)) = r) : Bin P .shr t xo yo (.int k x) (.int yk n) w (.int k r) := by
  have : (eqGuard .shr t xo yo (.int k x) (.int yk n)).run P w = .ok () w := rfl
  unfold Bin; have h0 : ¬ ((n : Int) < 0) := by omega
  rw [Sem.run_bind, this]; simp [binOp, Op.shift, h, h0]
theorem w64 {n : Int} (h : -9223372036854775808 ≤ n ∧ n ≤ 9223372036854775807) : IntKind.i64.wrap n = n := IntWalk.i64_in n h
theorem wu8 {n : Int} (h : 0 ≤ n ∧ n ≤ 255) : IntKind.u8.wrap n = n := IntWalk.u8_in n h
theorem wu32 {n : Int} (h : 0 ≤ n ∧ n ≤ 4294967295) : IntKind.u32.wrap n = n := IntWalk.u32_in n h
theorem quo64 {x y : Int} (h : 0 ≤ x ∧ x ≤ 9223372036854775807 ∧ 1 ≤ y) : IntKind.i64.wrap (x.tdiv y) = x / y := IntWalk.i64_quo x y h
theorem rem0 {x y : Int} (h : 0 ≤ x) : x.tmod y = x % y := Int.tmod_eq_emod_of_nonneg h
end
/-! bits of numbers that are not negative -/
section
variable {t : TypeId} {xo yo : Operand}
theorem ofInt_nat (n a : Nat) : BitVec.ofInt n (a : Int) = BitVec.ofNat n a := by
  apply BitVec.eq_of_toNat_eq
  simp [BitVec.toNat_ofInt]
theorem b_or64 {a b : Nat} (ha : a < 9223372036854775808) (hb : b < 9223372036854775808) : Bin P .or t xo yo (.int .i64 (a : Int)) (.int .i64 (b : Int)) w (.int .i64 ((a ||| b : Nat) : Int)) := by
  refine b_bits (.inr (.inl rfl)) ?_
  have h : a ||| b < 2 ^ 63 := Nat.or_lt_two_pow (by omega) (by omega)
  have e : (BitVec.ofInt IntKind.i64.bits (a : Int) ||| BitVec.ofInt IntKind.i64.bits (b : Int)).toNat = a ||| b := by
    show (BitVec.ofInt 64 (a : Int) ||| BitVec.ofInt 64 (b : Int)).toNat = _
    rw [ofInt_nat, ofInt_nat, BitVec.toNat_or, BitVec.toNat_ofNat, BitVec.toNat_ofNat, Nat.mod_eq_of_lt (by omega), Nat.mod_eq_of_lt (by omega)]
  simp only [Op.intBits, e]
  rw [w64 (by omega)]; rfl
theorem b_and64 {a b : Nat} (ha : a < 9223372036854775808) (hb : b < 9223372036854775808) : Bin P .and t xo yo (.int .i64 (a : Int)) (.int .i64 (b : Int)) w (.int .i64 ((a &&& b : Nat) : Int)) := by
  refine b_bits (.inl rfl) ?_
  have h : a &&& b ≤ a := Nat.and_le_left
  have e : (BitVec.ofInt IntKind.i64.bits (a : Int) &&& BitVec.ofInt IntKind.i64.bits (b : Int)).toNat = a &&& b := by
    show (BitVec.ofInt 64 (a : Int) &&& BitVec.ofInt 64 (b : Int)).toNat = _
    rw [ofInt_nat, ofInt_nat, BitVec.toNat_and, BitVec.toNat_ofNat, BitVec.toNat_ofNat, Nat.mod_eq_of_lt (by omega), Nat.mod_eq_of_lt (by omega)]
  simp only [Op.intBits, e]
  rw [w64 (by omega)]; rfl
theorem b_shl64 {x : Int} {n : Nat} {yk : IntKind} (hn : n ≤ 64) (h : -9223372036854775808 ≤ x * 2 ^ n ∧ x * 2 ^ n ≤ 9223372036854775807) : Bin P .shl t xo yo (.int .i64 x) (.int yk n) w (.int .i64 (x * 2 ^ n)) :=
  b_shl (by rw [show min n IntKind.i64.bits = n from Nat.min_eq_left hn]; exact w64 h)
theorem or_byte (a b : Nat) (hb : b < 256) : (a * 256) ||| b = a * 256 + b := by
  have := Nat.two_pow_add_eq_or_of_lt (i := 8) (by omega : b < 2 ^ 8) a
  rw [show a * 256 = 2 ^ 8 * a from by omega]; exact this.symm
end
/-! strings -/
section
variable {t : TypeId} {xo yo : Operand} {x y : ByteArray}
theorem guard_str {op : BinOp} : (eqGuard op t xo yo (.string x) (.string y)).run P w = .ok () w := by unfold eqGuard; cases op <;> rfl
theorem beq_str (x y : ByteArray) : (x.toList == y.toList) = decide (x = y) := by
  rw [Bool.eq_iff_iff]; simp only [beq_iff_eq, decide_eq_true_eq]
  constructor
  · intro h
    apply ByteArray.ext
    rw [← Array.toList_inj]
    rw [ByteArray.toList_eq, ByteArray.toList_eq] at h
    exact h
  · rintro rfl; rfl
theorem b_cat (h : x.size + y.size ≤ 9223372036854775807) : Bin P .add t xo yo (.string x) (.string y) w (.string (x ++ y)) := by
  unfold Bin; rw [Sem.run_bind, guard_str]
  have : ¬ (((x.size + y.size : Nat) : Int) > IntKind.i64.max) := by show ¬ ((9223372036854775807 : Int) < _); omega
  simp only [binOp, Op.stringOp, Result.andThen_ok, if_neg this]; rfl
theorem b_eqs : Bin P .eql t xo yo (.string x) (.string y) w (.bool (decide (x = y))) := by
  unfold Bin; rw [Sem.run_bind, guard_str, ← beq_str]; simp [binOp, Op.stringOp]
theorem b_nes : Bin P .neq t xo yo (.string x) (.string y) w (.bool (!decide (x = y))) := by
  unfold Bin; rw [Sem.run_bind, guard_str, ← beq_str]; simp [binOp, Op.stringOp]
end
theorem x_not {t : TypeId} {x : Operand} {b : Bool} (ho : o.op = .unOp .not t x) (hx : evo f x = some (.bool b)) : Ex P N f ds o w (.bool (!b)) w :=
  ex_of (x := Op.unary .not (.bool b)) (fun a ha => by unfold execOp; simp only [ho, ha.eval hx]) rfl
theorem x_neg {t : TypeId} {x : Operand} {k : IntKind} {n r : Int} (ho : o.op = .unOp .neg t x) (hx : evo f x = some (.int k n)) (h : k.wrap (0 - n) = r) : Ex P N f ds o w (.int k r) w :=
  ex_of (x := Op.unary .neg (.int k n)) (fun a ha => by unfold execOp; simp only [ho, ha.eval hx]) (by simp [Op.unary, Op.intArith, ← h])
theorem x_conv {s d : TypeId} {x : Operand} {k k' : IntKind} {n r : Int} {dsc : TypeDesc} (ho : o.op = .convert s d x) (hx : evo f x = some (.int k n)) (hs : P.underlying s = some dsc) (hu : P.underlying d = some (.int k')) (h : k'.wrap n = r) : Ex P N f ds o w (.int k' r) w :=
  ex_of (x := convert s d (.int k n)) (fun a ha => by unfold execOp; simp only [ho, ha.eval hx]) (by
    unfold convert
    simp only [Sem.run_bind, run_underlying hs, run_underlying hu, Result.andThen_ok]
    simp [Conv.intToInt, h])
theorem x_convs {s d : TypeId} {x : Operand} {b : ByteArray} {dsc : TypeDesc} (ho : o.op = .convert s d x) (hx : evo f x = some (.string b)) (hs : P.underlying s = some dsc) (hu : P.underlying d = some .string) : Ex P N f ds o w (.string b) w :=
  ex_of (x := convert s d (.string b)) (fun a ha => by unfold execOp; simp only [ho, ha.eval hx]) (by
    unfold convert
    simp only [Sem.run_bind, run_underlying hs, run_underlying hu, Result.andThen_ok]
    simp)
/-! memory -/
def szO (P : Program) (t : TypeId) : Option Nat := (P.info? t).map (·.size)
def zeO (P : Program) (t : TypeId) : Option Value := (P.info? t).bind (·.zero)
def aggB : TypeDesc → Bool | .struct _ | .array _ _ => true | _ => false
def foO (P : Program) (t i : Nat) : Option Nat :=
  match P.underlying t with
  | some (.struct fs) => match fs[i]? with
    | some f => match P.info? f.type with
      | some ii => if ii.size = 0 then none else some f.offset
      | none => none
    | none => none
  | _ => none
theorem run_sz {t n : Nat} (h : szO P t = some n) (w : World) : (sizeOf t).run P w = .ok n w := by
  unfold szO at h
  cases hi : P.info? t with
  | none => simp [hi] at h
  | some i => simp [hi] at h; simp [sizeOf, typeInfo, hi, h]
theorem run_ze {t : Nat} {z : Value} (h : zeO P t = some z) (w : World) : (zeroValue t).run P w = .ok z w := by
  unfold zeO at h
  cases hi : P.info? t with
  | none => simp [hi] at h
  | some i =>
    simp [hi] at h
    simp [zeroValue, typeInfo, hi, h]
theorem x_alloc {t : TypeId} {z : Value} (ho : o.op = .alloc t) (hz : zeO P t = some z) : Ex P N f ds o w (.pointer (some ⟨w.heap.size, 0, none⟩)) (w.alloc (.cells z.cells t (0, 0))) :=
  ex_of (x := Instr.alloc t true (.tuple #[])) (fun a ha => by unfold execOp; simp only [ho]) (by
    unfold Instr.alloc
    simp only [Sem.run_bind, run_ze hz, Result.andThen_ok]
    rfl)
theorem x_box {t : TypeId} {x : Operand} {v : Value} (ho : o.op = .box t x) (hx : evo f x = some v) : Ex P N f ds o w (.pointer (some ⟨w.heap.size, 0, none⟩)) (w.alloc (.cells v.cells t (0, 0))) :=
  ex_of (x := Instr.box t v) (fun a ha => by unfold execOp; simp only [ho, ha.eval hx]) rfl
theorem add_lit' (g o j : Nat) : (⟨g, o, none⟩ : Addr).add j = ⟨g, o + j, none⟩ := by unfold Addr.add; split <;> simp_all
theorem x_fieldAddr {s i n : Nat} {x : Operand} {g off off' : Nat} (ho : o.op = .fieldAddr s x i) (hx : evo f x = some (.pointer (some ⟨g, off, none⟩))) (hf : foO P s i = some n) (he : off + n = off') : Ex P N f ds o w (.pointer (some ⟨g, off', none⟩)) w :=
  ex_of (x := Instr.fieldAt s (.pointer (some ⟨g, off, none⟩)) i) (fun a ha => by unfold execOp; simp only [ho, ha.eval hx]) (by
    subst he
    unfold foO at hf
    split at hf
    · rename_i fs hu
      split at hf
      · rename_i fd hfd
        split at hf
        · rename_i ii hii
          split at hf
          · cases hf
          · rename_i hne
            cases hf
            unfold Instr.fieldAt
            simp only [Sem.run_bind, run_underlying hu, Result.andThen_ok, hfd, Instr.sureAddr, Sem.run_pure, fieldPlace, run_sz (show szO P fd.type = some ii.size by simp [szO, hii]), if_neg hne, add_lit']
        · cases hf
      · cases hf
    · cases hf)
theorem run_load1 {t : TypeId} {d : TypeDesc} {p : Addr} {v : Value} (hu : P.underlying t = some d) (hd : aggB d = false) (hc : w.cell? p = some v) : (loadVar t p).run P w = .ok v w := by
  unfold loadVar isAgg
  simp only [Sem.run_bind, run_underlying hu, Result.andThen_ok]
  have : (load p).run P w = .ok v w := by simp [load, Sem.run, hc]
  cases d <;> simp [aggB] at hd <;> simp only [Sem.run_pure, Result.andThen_ok, Bool.false_eq_true, if_false, this]
theorem x_load {t : TypeId} {x : Operand} {p : Addr} {v : Value} (ho : o.op = .load t x) (hx : evo f x = some (.pointer (some p))) (h : (loadVar t p).run P w = .ok v w) : Ex P N f ds o w v w :=
  ex_of (x := Instr.loadAt t (.pointer (some p))) (fun a ha => by unfold execOp; simp only [ho, ha.eval hx]) (by
    unfold Instr.loadAt
    simp only [Sem.run_bind, Instr.sureAddr, Sem.run_pure, Result.andThen_ok, h])
/-- A load of one cell out of a block that is told whole. -/
theorem x_load1 {t : TypeId} {d : TypeDesc} {x : Operand} {g i : Nat} {cs : Array Value} {e : TypeId} {fr : Nat × Nat} {v : Value} (H : S w L) (k : Nat) (ho : o.op = .load t x) (hx : evo f x = some (.pointer (some ⟨g, i, none⟩))) (hu : P.underlying t = some d) (hd : aggB d = false)
    (hk : L[k]? = some (Ob g (.cells cs e fr))) (hv : cs[i]? = some v) : Ex P N f ds o w v w := x_load ho hx (run_load1 hu hd (H.cell hk hv))
theorem run_loadA {t : TypeId} {d : TypeDesc} {g i n : Nat} {cs : Array Value} {e : TypeId} {fr : Nat × Nat} {vs : Array Value} (hg : w.heap[g]? = some (.cells cs e fr)) (hu : P.underlying t = some d) (hd : aggB d = true) (hn : szO P t = some n) (hl : Nat.ble (i + n) cs.size = true)
    (hv : cs.extract i (i + n) = vs) : (loadVar t ⟨g, i, none⟩).run P w = .ok (.agg vs) w := by
  subst hv
  have hl := Nat.le_of_ble_eq_true hl
  have hsz : (cs.extract i (i + n)).toList.length = n := by simp; omega
  have h := run_loadCells_list (P := P) w ⟨g, i, none⟩ (cs.extract i (i + n)).toList (fun j v hj => by
    rw [add_lit', cell_of_row w g (i + j) cs e fr hg]
    have hj' := hj
    rw [Array.getElem?_toList] at hj'
    rw [Array.getElem?_extract] at hj'
    split at hj'
    · exact hj'
    · cases hj')
  rw [hsz, Array.toArray_toList] at h
  unfold loadVar isAgg
  simp only [Sem.run_bind, run_underlying hu, Result.andThen_ok]
  cases d <;> simp [aggB] at hd <;> simp only [Sem.run_bind, Sem.run_pure, Result.andThen_ok, if_true, run_sz hn, h]
theorem x_loadA {t : TypeId} {d : TypeDesc} {x : Operand} {g i n : Nat} {cs : Array Value} {e : TypeId} {fr : Nat × Nat} {vs : Array Value} (H : S w L) (k : Nat) (ho : o.op = .load t x) (hx : evo f x = some (.pointer (some ⟨g, i, none⟩))) (hu : P.underlying t = some d) (hd : aggB d = true)
    (hn : szO P t = some n) (hk : L[k]? = some (Ob g (.cells cs e fr))) (hl : Nat.ble (i + n) cs.size = true) (hv : cs.extract i (i + n) = vs) : Ex P N f ds o w (.agg vs) w := x_load ho hx (run_loadA (H.ob hk) hu hd hn hl hv)
theorem exu_store {t : TypeId} {x y : Operand} {p : Addr} {v : Value} (ho : o.op = .store t x y) (hx : evo f x = some (.pointer (some p))) (hy : evo f y = some v) (h : (storeVar t p v).run P w = .ok () w') : ExU P N f ds o w w' := fun a ha => by
  unfold execOp
  simp only [ho, ha.eval hx, ha.eval hy, Instr.storeAt, Instr.sureAddr, Sem.run_bind, Sem.run_pure, Result.andThen_ok, h]
theorem run_storeR {t : TypeId} {g i : Nat} {cs : Array Value} {e : TypeId} {v : Value} (hg : w.heap[g]? = some (.cells cs e (0, 0))) (hn : szO P t = some v.cells.size) (hl : i + v.cells.size ≤ cs.size) (h1 : ∀ u ∈ v.cells.toList, u.oneCell' = true) :
    (storeVar t ⟨g, i, none⟩ v).run P w = .ok () (w.setRow g (cs.toList.take i ++ v.cells.toList ++ cs.toList.drop (i + v.cells.size)).toArray) := by
  have h := run_storeCells_at P g i e v.cells.toList 0 cs w hg (by simpa using hl) h1
  unfold storeVar
  simp only [Sem.run_bind, run_sz hn, Result.andThen_ok]
  simpa using h
/-- A store into a block that is told whole. -/
theorem s_store {ops : Array Oper} {K : Act → World → Prop} {Q : Exit → Act → World → Prop} {t : TypeId} {x y : Operand} {g i : Nat} {cs cs' : Array Value} {e : TypeId} {v : Value} (H : S w L) (k : Nat) (hw : Wt ops f o) (hd : o.dst = none) (ho : o.op = .store t x y) (hx : evo f x = some (.pointer (some ⟨g, i, none⟩)))
    (hy : evo f y = some v) (hk : L[k]? = some (Ob g (.cells cs e (0, 0)))) (hn : szO P t = some v.cells.size) (hl : Nat.ble (i + v.cells.size) cs.size = true) (h1 : v.cells.toList.all (·.oneCell') = true)
    (hc : (cs.toList.take i ++ v.cells.toList ++ cs.toList.drop (i + v.cells.size)).toArray = cs') (h : ∀ w', S w' (L.set k (Ob g (.cells cs' e (0, 0)))) → G N K f ds w') : G N (StepK P ops Q o K) f ds w :=
  s_unit hw hd (exu_store ho hx hy (run_storeR (H.ob hk) hn (Nat.le_of_ble_eq_true hl) (List.all_eq_true.1 h1))) (h _ (by rw [hc]; exact H.setRow hk cs'))
/-- A new block: its number is a letter. -/
theorem s_new {ops : Array Oper} {K : Act → World → Prop} {Q : Exit → Act → World → Prop} {d : Nat} {b : Obj} {v : Nat → Value} (H : S w L) (hw : Wt ops f o) (hd : o.dst = some d) (hN : Nat.blt d N = true) (hx : Ex P N f ds o w (v w.heap.size) (w.alloc b))
    (h : ∀ g w', S w' (Ob g b :: L) → G N K ((d, v g) :: f) ds w') : G N (StepK P ops Q o K) f ds w :=
  s_val hw hd hN hx (h _ _ (H.alloc b))
theorem s_alloc {ops : Array Oper} {K : Act → World → Prop} {Q : Exit → Act → World → Prop} {d : Nat} {t : TypeId} {z : Value} (H : S w L) (hw : Wt ops f o) (hd : o.dst = some d) (hN : Nat.blt d N = true) (ho : o.op = .alloc t) (hz : zeO P t = some z)
    (h : ∀ g w', S w' (Ob g (.cells z.cells t (0, 0)) :: L) → G N K ((d, .pointer (some ⟨g, 0, none⟩)) :: f) ds w') : G N (StepK P ops Q o K) f ds w :=
  s_new (v := fun g => .pointer (some ⟨g, 0, none⟩)) H hw hd hN (x_alloc ho hz) h
theorem s_box {ops : Array Oper} {K : Act → World → Prop} {Q : Exit → Act → World → Prop} {d : Nat} {t : TypeId} {x : Operand} {v : Value} (H : S w L) (hw : Wt ops f o) (hd : o.dst = some d) (hN : Nat.blt d N = true) (ho : o.op = .box t x) (hx : evo f x = some v)
    (h : ∀ g w', S w' (Ob g (.cells v.cells t (0, 0)) :: L) → G N K ((d, .pointer (some ⟨g, 0, none⟩)) :: f) ds w') : G N (StepK P ops Q o K) f ds w :=
  s_new (v := fun g => .pointer (some ⟨g, 0, none⟩)) H hw hd hN (x_box ho hx) h
theorem x_nilCheck {x : Operand} {p : Addr} (ho : o.op = .nilCheck x) (hx : evo f x = some (.pointer (some p))) : Ex P N f ds o w (.pointer (some p)) w := fun a ha => by
  unfold execOp; simp only [ho, ha.eval hx]; rfl
theorem x_extract {x : Operand} {i : Nat} {vs : Array Value} {v : Value} (ho : o.op = .extract x i) (hx : evo f x = some (.tuple vs)) (hv : vs[i]? = some v) : Ex P N f ds o w v w :=
  ex_of (x := Instr.extract (.tuple vs) i) (fun a ha => by unfold execOp; simp only [ho, ha.eval hx]) (by simp [Instr.extract, hv])
theorem evparts {a : Act} (ha : Rds N a f ds) : ∀ {ps : List (Nat × Operand)} {vs : List Value}, evs f (ps.map (·.2)) = some vs → (ps.map fun (i, x) => (i, a.eval x)) = (ps.map (·.1)).zip vs
  | [], vs, h => by simp
  | (i, x) :: r, vs, h => by
    simp only [List.map_cons] at h
    unfold evs at h
    split at h
    · rename_i v us hv hu
      cases h
      have := evparts ha hu
      simp only [List.map_cons, ha.eval hv, List.zip_cons_cons, this]
    · cases h
theorem x_build {t : TypeId} {ps : Array (Nat × Operand)} {vs : List Value} {cells : Array Value} (ho : o.op = .build t ps) (hx : evs f (ps.toList.map (·.2)) = some vs) (hb : P.built t ((ps.toList.map (·.1)).zip vs) = some cells) : Ex P N f ds o w (.agg cells) w := fun a ha => by
  unfold execOp
  have h1 : (ps.map fun (i, x) => (i, a.eval x)).toList = (ps.toList.map (·.1)).zip vs := by rw [Array.toList_map]; exact evparts ha hx
  simp only [ho, Sem.run_bind, run_build w t _ cells (by rw [h1]; exact hb), Result.andThen_ok]; rfl
theorem x_field {t i n m : Nat} {x : Operand} {cs : Array Value} {v : Value} {fs : Array Field} {fd : Field} (ho : o.op = .field t x i) (hx : evo f x = some (.agg cs)) (hu : P.underlying t = some (.struct fs)) (hf : fs[i]? = some fd) (hp : (part fd.type cs fd.offset).run P w = .ok v w) : Ex P N f ds o w v w :=
  ex_of (x := Instr.field t (.agg cs) i) (fun a ha => by unfold execOp; simp only [ho, ha.eval hx]) (by
    unfold Instr.field
    simp only [Sem.run_bind, run_underlying hu, Result.andThen_ok, hf, asAgg, Sem.run_pure, hp])
theorem run_part1 {t : TypeId} {d : TypeDesc} {cs : Array Value} {i : Nat} {v : Value} (hu : P.underlying t = some d) (hd : aggB d = false) (hv : cs[i]? = some v) : (part t cs i).run P w = .ok v w := by
  unfold part isAgg
  simp only [Sem.run_bind, run_underlying hu, Result.andThen_ok]
  cases d <;> simp [aggB] at hd <;> simp [hv]
theorem run_partA {t : TypeId} {d : TypeDesc} {cs vs : Array Value} {i n : Nat} (hu : P.underlying t = some d) (hd : aggB d = true) (hn : szO P t = some n) (hv : cs.extract i (i + n) = vs) : (part t cs i).run P w = .ok (.agg vs) w := by
  unfold part isAgg
  simp only [Sem.run_bind, run_underlying hu, Result.andThen_ok]
  cases d <;> simp [aggB] at hd <;> simp [run_sz hn, hv]
theorem x_pick_t {c x y : Operand} {b : Bool} {v : Value} (ho : o.op = .pick c x y) (hc : evo f c = some (.bool b)) (hb : b = true) (hx : evo f x = some v) : Ex P N f ds o w v w := fun a ha => by
  unfold execOp; simp only [ho, ha.eval hx, ha.eval hc, asBool, hb]; rfl
theorem x_pick_f {c x y : Operand} {b : Bool} {v : Value} (ho : o.op = .pick c x y) (hc : evo f c = some (.bool b)) (hb : b = false) (hx : evo f y = some v) : Ex P N f ds o w v w := fun a ha => by
  unfold execOp; simp only [ho, ha.eval hx, ha.eval hc, asBool, hb]; rfl
theorem x_makeFunc {fn : Fn} {first captured : Array Operand} {v1 v2 : List Value} (ho : o.op = .makeFunc fn first captured) (h1 : evs f first.toList = some v1) (h2 : evs f captured.toList = some v2) : Ex P N f ds o w (.func fn v1.toArray v2.toArray) w := fun a ha => by
  unfold execOp; simp only [ho, ha.evalsA h1, ha.evalsA h2]; rfl
theorem neg_of {a b : Bool} (h : a = b) : (!a) = !b := by rw [h]
theorem not_t {p : Prop} [Decidable p] (h : (!decide p) = true) : ¬ p := by simpa using h
theorem not_f {p : Prop} [Decidable p] (h : (!decide p) = false) : p := by simpa using h
theorem nt {p : Prop} [Decidable p] (h : ¬ p) : (!decide p) = true := by simpa using h
theorem nf {p : Prop} [Decidable p] (h : p) : (!decide p) = false := by simpa using h
/-- Of the items those that a mask keeps. -/
def mask : List Bool → List Item → List Item
  | true :: m, it :: L => it :: mask m L
  | false :: m, _ :: L => mask m L
  | _, _ => []
theorem mask_sub : ∀ (m : List Bool) (L : List Item), (mask m L).Sublist L
  | true :: m, it :: L => (mask_sub m L).cons_cons it
  | false :: m, it :: L => (mask_sub m L).cons it
  | [], L => by unfold mask; exact List.nil_sublist _
  | true :: _, [] => by unfold mask; exact List.nil_sublist _
  | false :: _, [] => by unfold mask; exact List.nil_sublist _
theorem S.mask {w : World} {L : List Item} (h : S w L) (m : List Bool) : S w (mask m L) := h.sublist (mask_sub m L)
/-! calls -/
def callable (P : Program) (g : FuncId) : Bool := match P.funcs[g]? with | some fn => !(fn.name == "runtime.NumGoroutine") && fn.body.isSome | none => false
theorem run_callFunc {g : FuncId} (h : callable P g = true) (args : Array Value) : (callFunc g args).run P w = .ok (.enter g args) w := by
  unfold callable at h
  split at h
  · rename_i fn hf
    simp only [Bool.and_eq_true, Bool.not_eq_true'] at h
    unfold callFunc
    have h1 : ¬ fn.name = "runtime.NumGoroutine" := by simpa using h.1
    simp [hf, h1, program, Sem.run, Option.isNone_iff_eq_none, Option.isSome_iff_ne_none.1 h.2]
  · cases h
theorem x_call {x : Operand} {g : FuncId} {args : Array Operand} {ts : Array TypeId} {first captured : Array Value} {vs : List Value} (ho : o.op = .call { callee := .value x, args := args, argTypes := ts }) (hx : evo f x = some (.func (.func g) first captured)) (hv : evs f args.toList = some vs)
    (hg : callable P g = true) : ExC P N f ds o w g (first.toList ++ vs ++ captured.toList) w := fun a ha => by
  unfold execOp
  have he : args.map a.eval = vs.toArray := ha.evalsA hv
  simp only [ho, resolve, ha.eval hx, Deferred.ofValue, Sem.run_bind, Sem.run_pure, Result.andThen_ok, invoke, he, run_callFunc hg]
  congr 2
  apply Array.ext'
  simp
theorem x_call' {g : FuncId} {args : Array Operand} {ts : Array TypeId} {vs : List Value} (ho : o.op = .call { callee := .value (.func g), args := args, argTypes := ts }) (hv : evs f args.toList = some vs) (hg : callable P g = true) : ExC P N f ds o w g vs w := fun a ha => by
  have := x_call (P := P) (N := N) (f := f) (ds := ds) (w := w) (o := o) (first := #[]) (captured := #[]) ho rfl hv hg a ha
  simpa using this
theorem x_builtin {b : Builtin} {args : Array Operand} {ts : Array TypeId} {vs : List Value} {v : Value} (ho : o.op = .call { callee := .builtin b, args := args, argTypes := ts }) (hv : evs f args.toList = some vs)
    (h : ∀ cs, (builtin b ts o.type cs vs.toArray).run P w = .ok (.value v) w') : Ex P N f ds o w v w' := fun a ha => by
  unfold execOp
  have he : args.map a.eval = vs.toArray := ha.evalsA hv
  simp only [ho, resolve, Sem.run_bind, Sem.run_pure, Result.andThen_ok, invoke, he]
  exact h _
theorem x_lens {x : Operand} {t : TypeId} {s : ByteArray} (ho : o.op = .call { callee := .builtin .len, args := #[x], argTypes := #[t] }) (hx : evo f x = some (.string s)) (hu : P.underlying t = some .string) : Ex P N f ds o w (.int .i64 s.size) w :=
  x_builtin (vs := [.string s]) ho (by simp only [evs, hx]) (fun cs => by simp [builtin, Builtin.len_, run_underlying hu, goInt])
theorem x_lenl {x : Operand} {t e : TypeId} {p : Option Addr} {n c : Nat} (ho : o.op = .call { callee := .builtin .len, args := #[x], argTypes := #[t] }) (hx : evo f x = some (.slice p n c)) (hu : P.underlying t = some (.slice e)) : Ex P N f ds o w (.int .i64 n) w :=
  x_builtin (vs := [.slice p n c]) ho (by simp only [evs, hx]) (fun cs => by simp [builtin, Builtin.len_, run_underlying hu, goInt])
theorem x_min {x y : Operand} {ts : Array TypeId} {k : IntKind} {a b : Int} (ho : o.op = .call { callee := .builtin .min, args := #[x, y], argTypes := ts }) (hx : evo f x = some (.int k a)) (hy : evo f y = some (.int k b)) : Ex P N f ds o w (.int k (min a b)) w :=
  x_builtin (vs := [.int k a, .int k b]) ho (by simp only [evs, hx, hy]) (fun cs => by
    have : (if b < a then b else a) = min a b := by rw [Int.min_def]; split <;> split <;> omega
    simp [builtin, Builtin.min_, Builtin.min2, this])
theorem x_max {x y : Operand} {ts : Array TypeId} {k : IntKind} {a b : Int} (ho : o.op = .call { callee := .builtin .max, args := #[x, y], argTypes := ts }) (hx : evo f x = some (.int k a)) (hy : evo f y = some (.int k b)) : Ex P N f ds o w (.int k (max a b)) w :=
  x_builtin (vs := [.int k a, .int k b]) ho (by simp only [evs, hx, hy]) (fun cs => by
    have : (if a < b then b else a) = max a b := by rw [Int.max_def]; split <;> split <;> omega
    simp [builtin, Builtin.max_, Builtin.max2, this])
/-! strings' bytes -/
def bt' (s : ByteArray) (i : Nat) : Nat := (s.data.toList[i]?.getD 0).toNat
theorem bt'_lt (s : ByteArray) (i : Nat) : bt' s i < 256 := UInt8.toNat_lt _
theorem x_index {t : TypeId} {x y : Operand} {s : ByteArray} {k : IntKind} {i : Int} (n : Nat) (ho : o.op = .index t x y) (hx : evo f x = some (.string s)) (hy : evo f y = some (.int k i)) (hu : P.underlying t = some .string) (hb : i = (n : Int) ∧ n < s.size) : Ex P N f ds o w (.int .u8 (bt' s n)) w :=
  ex_of (x := Instr.index t (.string s) (.int k i)) (fun a ha => by unfold execOp; simp only [ho, ha.eval hx, ha.eval hy]) (by
    obtain ⟨rfl, hi⟩ := hb
    have e : s[n]? = some (s[n]'hi) := getElem?_pos s n hi
    have e2 : bt' s n = (s[n]'hi).toNat := by
      unfold bt'
      rw [List.getElem?_eq_getElem (by simpa using hi)]; rfl
    have h0 : (0 : Int) ≤ (n : Int) := by omega
    unfold Instr.index
    simp only [asIntOf, Sem.run_bind, Sem.run_pure, Result.andThen_ok, run_underlying hu, if_pos h0, Int.toNat_natCast, e, e2])
theorem run_bound {k : IntKind} {i : Int} {y : Nat} {c : BoundsCode} (h : 0 ≤ i ∧ i ≤ y) : (Instr.sliceBound (.int k i) y c).run P w = .ok i.toNat w := by
  simp [Instr.sliceBound, asIntOf, h]
theorem x_slices {t : TypeId} {x : Operand} {lo hi : Option Operand} {s : ByteArray} (l h : Nat) (ho : o.op = .slice t x lo hi none) (hx : evo f x = some (.string s)) (hu : P.underlying t = some .string)
    (hlo : (lo = none ∧ l = 0) ∨ ∃ y k i, lo = some y ∧ evo f y = some (.int k i) ∧ i = (l : Int)) (hhi : (hi = none ∧ h = s.size) ∨ ∃ y k i, hi = some y ∧ evo f y = some (.int k i) ∧ i = (h : Int)) (hb : l ≤ h ∧ h ≤ s.size) : Ex P N f ds o w (.string (s.extract l h)) w := fun a ha => by
  unfold execOp
  simp only [ho, ha.eval hx, Instr.sliceAt, Sem.run_bind, run_underlying hu, Result.andThen_ok, Instr.slice, Option.map_none, Option.isSome_none, Bool.false_eq_true, if_false, Sem.run_pure]
  have : (Instr.sliceBounds false s.size s.size (lo.map a.eval) (hi.map a.eval) none).run P w = .ok (l, h, s.size) w := by
    unfold Instr.sliceBounds
    rcases hlo with ⟨rfl, rfl⟩ | ⟨y, k, i, rfl, e, rfl⟩ <;> rcases hhi with ⟨rfl, rfl⟩ | ⟨y', k', i', rfl, e', rfl⟩
    · simp
    · simp only [Option.map_some, ha.eval e', Option.map_none]
      simp [run_bound (P := P) (w := w) (k := k') (i := (h : Int)) (y := s.size) (by omega)]
    · simp only [Option.map_some, ha.eval e, Option.map_none]
      simp [run_bound (P := P) (w := w) (k := k) (i := (l : Int)) (y := s.size) (by omega)]
    · simp only [Option.map_some, ha.eval e, ha.eval e']
      simp [run_bound (P := P) (w := w) (k := k') (i := (h : Int)) (y := s.size) (by omega), run_bound (P := P) (w := w) (k := k) (i := (l : Int)) (y := h) (by omega)]
  simp [this]
end
end Go.Proofs.Ytlajgickimgigaa
