import Derived.Test.YtlajgickimgigaaEk
import Derived.Lib.ConvBytes
set_option linter.unusedSimpArgs false
set_option linter.unusedVariables false
namespace Go.Proofs.Ytlajgickimgigaa
open Go.RowKit

/-! ## Numbers told as natural ones; bytes of a text -/
section
variable {P : Program} {w : World} {t : TypeId} {xo yo : Operand}
theorem wrap_nat {a : Nat} (h : a ≤ 9223372036854775807) : IntKind.i64.wrap (a : Int) = (a : Int) := w64 (by omega)
theorem b_quoN {a b : Nat} (h : 0 < b ∧ a ≤ 9223372036854775807) : Bin P .quo t xo yo (.int .i64 (a : Int)) (.int .i64 (b : Int)) w (.int .i64 ((a / b : Nat) : Int)) :=
  b_quo (by omega) (by rw [quo64 (by omega)]; rfl)
theorem b_remN {a b : Nat} (h : 0 < b) : Bin P .rem t xo yo (.int .i64 (a : Int)) (.int .i64 (b : Int)) w (.int .i64 ((a % b : Nat) : Int)) :=
  b_rem (by omega) (by rw [rem0 (by omega)]; rfl)
theorem b_subN {a b : Nat} (h : b ≤ a ∧ a ≤ 9223372036854775807) : Bin P .sub t xo yo (.int .i64 (a : Int)) (.int .i64 (b : Int)) w (.int .i64 ((a - b : Nat) : Int)) :=
  b_sub (by rw [w64 (by omega)]; omega)
theorem b_addN {a b : Nat} (h : a + b ≤ 9223372036854775807) : Bin P .add t xo yo (.int .i64 (a : Int)) (.int .i64 (b : Int)) w (.int .i64 ((a + b : Nat) : Int)) :=
  b_add (by rw [w64 (by omega)]; omega)
theorem b_mulN {a b : Nat} (h : a * b ≤ 9223372036854775807) : Bin P .mul t xo yo (.int .i64 (a : Int)) (.int .i64 (b : Int)) w (.int .i64 ((a * b : Nat) : Int)) :=
  b_mul (by rw [← Int.natCast_mul, wrap_nat h])
theorem b_shrN {a n : Nat} {k yk : IntKind} (h : n ≤ k.bits) : Bin P .shr t xo yo (.int k (a : Int)) (.int yk (n : Int)) w (.int k ((a / 2 ^ n : Nat) : Int)) :=
  b_shr (by rw [Nat.min_eq_left h]; exact Int.fdiv_eq_ediv_of_nonneg _ (by exact Int.natCast_nonneg _))
theorem b_and1 {a : Nat} (h : a < 256) : Bin P .and t xo yo (.int .u8 (a : Int)) (.int .u8 1) w (.int .u8 ((a % 2 : Nat) : Int)) := by
  refine b_bits (.inl rfl) ?_
  have e : (BitVec.ofInt IntKind.u8.bits (a : Int) &&& BitVec.ofInt IntKind.u8.bits (1 : Int)).toNat = a % 2 := by
    show (BitVec.ofInt 8 (a : Int) &&& BitVec.ofInt 8 ((1 : Nat) : Int)).toNat = _
    rw [ofInt_nat, ofInt_nat, BitVec.toNat_and, BitVec.toNat_ofNat, BitVec.toNat_ofNat, Nat.mod_eq_of_lt (by omega), Nat.mod_eq_of_lt (by omega), Nat.and_one_is_mod]
  simp only [Op.intBits, e]
  rw [wu8 (by omega)]; rfl
theorem b_or8 {a b : Nat} (h : a < 256 ∧ b < 256) : Bin P .or t xo yo (.int .u8 (a : Int)) (.int .u8 (b : Int)) w (.int .u8 ((a ||| b : Nat) : Int)) := by
  refine b_bits (.inr (.inl rfl)) ?_
  have h2 : a ||| b < 2 ^ 8 := Nat.or_lt_two_pow (by omega) (by omega)
  have e : (BitVec.ofInt IntKind.u8.bits (a : Int) ||| BitVec.ofInt IntKind.u8.bits (b : Int)).toNat = a ||| b := by
    show (BitVec.ofInt 8 (a : Int) ||| BitVec.ofInt 8 (b : Int)).toNat = _
    rw [ofInt_nat, ofInt_nat, BitVec.toNat_or, BitVec.toNat_ofNat, BitVec.toNat_ofNat, Nat.mod_eq_of_lt (by omega), Nat.mod_eq_of_lt (by omega)]
  simp only [Op.intBits, e]
  rw [wu8 (by omega)]; rfl
end
section
variable {P : Program} {N : Nat} {Q : Exit → Act → World → Prop} {f : Fr} {ds : List Deferred} {w w' : World} {o : Oper} {ops : Array Oper} {L : List Item} {K : Act → World → Prop}
theorem same_bytes (w : World) (e : TypeId) (s : ByteArray) : Same (fun g => g < w.heap.size) w (Lib.bytesWorld w e s) :=
  ⟨rfl, rfl, rfl, by rw [Lib.bytesWorld_size]; omega, fun g hg => Lib.bytesWorld_at_old w e s g hg⟩
/-- A text as a new row of bytes. -/
theorem s_bytesOf {d sT dT e : Nat} {x : Operand} {s : ByteArray} (H : S w L) (hw : Wt ops f o) (hd : o.dst = some d) (hN : Nat.blt d N = true) (ho : o.op = .convert sT dT x) (hx : evo f x = some (.string s))
    (hs : P.underlying sT = some .string) (hd' : P.underlying dT = some (.slice e)) (he : P.underlying e = some (.int .u8))
    (h : ∀ g c fr cs w', S w' (Ob g (.cells cs e fr) :: L) → (∀ j, j < s.size → cs[j]? = some (.int .u8 ((s.data.toList.getD j 0).toNat : Nat))) → s.size ≤ c → G N K ((d, .slice (some ⟨g, 0, none⟩) s.size c) :: f) ds w') : G N (StepK P ops Q o K) f ds w := by
  have hrun := Lib.run_convert_string_bytes (P := P) w sT dT e s hs hd' he
  have hS : S (Lib.bytesWorld w e s) (Ob w.heap.size (.cells (Lib.bytesCells w e s) e ((Lib.bytesCells w e s).size, (Lib.bytesCells w e s).size + 1)) :: L) := by
    refine (H.move (same_bytes w e s)).cons (Lib.bytesWorld_at_new w e s) (fun g hg => ?_) (fun x hx g hg hx' => ?_)
    · rw [Lib.bytesWorld_size]; have hg : g = w.heap.size := hg; omega
    · have hg : g = w.heap.size := hg
      have := (H.1 x hx).2 g hx'
      omega
  exact s_val hw hd hN (ex_of (x := convert sT dT (.string s)) (fun a ha => by unfold execOp; simp only [ho, ha.eval hx]) hrun)
    (h _ _ _ _ _ hS (fun j hj => by
      simp only [Lib.bytesCells]
      rw [Array.getElem?_append_left (by simpa using hj)]
      simp [List.getD, hj]) (grownCap_ge w s.size 0 e))
/-- A store into a row of one's own. -/
theorem s_storeW {t e size n c j : Nat} {x y : Operand} {p : Option Addr} {xs : List Value} {v : Value} (H : S w L) (k : Nat) (hw : Wt ops f o) (hd : o.dst = none) (ho : o.op = .store t x y) (hx : evo f x = some (.pointer (p.map fun q => q.add (j * size))))
    (hy : evo f y = some v) (hk : L[k]? = some (Rw e size p n c xs)) (hn : szO P t = some v.cells.size) (hv : v.cells.size = size) (h1 : v.cells.toList.all (·.oneCell') = true) (hj : j < n)
    (h : ∀ w', S w' (L.set k (Rw e size p n c (xs.take (j * size) ++ v.cells.toList ++ xs.drop (j * size + size)))) → G N K f ds w') : G N (StepK P ops Q o K) f ds w := by
  obtain ⟨k1, k2, k3, k4⟩ := H.rw hk
  rcases k4 with ⟨_, h0, _⟩ | ⟨g, off, cur, rfl, hg, hcs, hc⟩
  · omega
  · have hjs : j * size + size ≤ n * size := by
      have : (j + 1) * size ≤ n * size := Nat.mul_le_mul_right _ hj
      rw [Nat.add_mul, Nat.one_mul] at this; exact this
    have hns : n * size ≤ c * size := Nat.mul_le_mul_right _ k2
    have hr := run_storeR (P := P) (t := t) (g := g) (i := off + j * size) (v := v) hg hn (by omega) (List.all_eq_true.1 h1)
    rw [hv] at hr
    have ha : (Option.map (fun q : Addr => q.add (j * size)) (some ⟨g, off, none⟩)) = some ⟨g, off + j * size, none⟩ := by rw [Option.map_some, add_lit']
    rw [ha] at hx
    have hvl : v.cells.toList.length = size := by simpa using hv
    have hcl : cur.toList.length = cur.size := by simp
    have hlt : g < w.heap.size := (Array.getElem?_eq_some_iff.1 hg).1
    refine s_unit hw hd (exu_store ho hx hy hr) (h _ (H.turn hk ((same_setRow w g _).less fun b hb he => hb.2 ⟨off, by rw [he]⟩) ⟨?_, k2, k3, .inr ⟨g, off, _, rfl, by simp only [World.setRow, Array.getElem?_modify, if_true, hg, Option.map_some]; rfl, ?_, fun i u hu => ?_⟩⟩ (fun b hb => ⟨.inl hb, ?_⟩)))
    · simp only [List.length_append, List.length_take, List.length_drop, hvl, k1]; omega
    · simp only [List.size_toArray, List.length_append, List.length_take, List.length_drop, hvl, hcl]; omega
    · simp only [List.getElem?_toArray]
      rw [List.append_assoc, List.getElem?_append] at hu ⊢
      simp only [List.length_take, k1, hcl] at hu ⊢
      rw [Nat.min_eq_left (by omega)] at hu ⊢
      by_cases hi : i < j * size
      · rw [if_pos hi, List.getElem?_take, if_pos hi] at hu
        rw [if_pos (by omega), List.getElem?_take, if_pos (by omega), Array.getElem?_toList]
        exact hc i u hu
      · rw [if_neg hi, List.getElem?_append, hvl] at hu
        rw [if_neg (by omega), List.getElem?_append, hvl, show off + i - (off + j * size) = i - j * size from by omega]
        by_cases hi2 : i - j * size < size
        · rw [if_pos hi2] at hu ⊢; exact hu
        · rw [if_neg hi2, List.getElem?_drop] at hu ⊢
          have hu' := hc _ u hu
          rw [Array.getElem?_toList]
          rw [show off + j * size + size + (i - j * size - size) = off + (j * size + size + (i - j * size - size)) from by omega]; exact hu'
    · exact Nat.lt_of_lt_of_le (H.lt hk hb) (by simp [World.setRow])
end
/-- What is asked behind the assignment, where the loop's variables are slots alone. -/
def AssignB {α : Type} (N B : Nat) (Kp : World → World → Prop) (J : List α → List Item → Prop) (FA : α → Fr) (pre : List α) (x : α) (W : World) (a' : Act) (W' : World) : Prop :=
  KeepsFrom B W W' ∧ Kp W W' ∧ (∃ Lx, J pre Lx ∧ S W' Lx) ∧ Rds N a' (FA x) []
section
variable {P : Program} {N : Nat} {Q : Exit → Act → World → Prop} {f : Fr} {ds : List Deferred} {w : World} {n : Nat} {ops : Array Oper} {rest : List Oper} {o : Oper} {L : List Item}
theorem r_assignB {α : Type} {B : Nat} {Kp : World → World → Prop} {J : List α → List Item → Prop} {FA : α → Fr} {pre : List α} {x : α} {W : World} {Lx : List Item} (k : Nat) (H : S w L) (hk : L[k]? = some (NC B W)) (hs : sub (FA x) f) (hKp : Kp W w) (hJ : J pre Lx) (hS : S w Lx) :
    G N (AssignB N B Kp J FA pre x W) f [] w := fun a ha => ⟨H.kept hk, hKp, ⟨Lx, hJ, hS⟩, ha.weak hs⟩
theorem g_rangeB {α : Type} {x : Operand} {ps : Array Tmp} {assign body : Code} {gf : Nat} {lb : Array Value} {encs : α → Array Value} {Kp : World → World → Prop} {S' Sp : List α → Prop} {M : Nat}
    (hn : 1 ≤ n) (hx : evo f x = some (.func (.func gf) #[] lb)) (hc : callable P gf = true) (hseq : SeqStopsK (WF none) (n - 1) P gf lb encs Kp S' Sp M w)
    (hKt : ∀ {A B C : World}, Kp A B → Kp B C → Kp A C) (hKb : ∀ (W : World) (l : Nat) (o o' : Obj), w.heap.size ≤ l → W.heap[l]? = some o → o.isCells = false → o.isWalk = false → Kp W (W.putObj l o'))
    (hps : ∀ x, (encs x).size = ps.size) (hpN : (ps.toList.all fun p => Nat.blt p N) = true) (J Jx : List α → List Item → Prop) (FA : α → Fr)
    (hJ : ∀ pre Lx, J pre Lx → ∀ it ∈ Lx, it.okB w.heap.size) (hJx : ∀ pre Lx, Jx pre Lx → ∀ it ∈ Lx, it.okB w.heap.size) {L0 : List Item} (h0 : J [] L0) (H : S w L0)
    (hassign : ∀ (l : Nat) (pre : List α) (x : α) (Lx : List Item) (W : World), J pre Lx → S W (NC w.heap.size W :: Lx) → G N (assign.wpIn (WF (some l)) (n - 1 - 1) P (Exit.then (AssignB N w.heap.size Kp J FA pre x W) (fun _ _ _ => False))) (lay ps.toList (encs x).toList f) [] W)
    (hbody : ∀ (l : Nat) (pre : List α) (x : α) (Lx : List Item) (W : World), J pre Lx → pre.length < M → S W (NC w.heap.size W :: Lx) → G N (body.wpIn (WF (some l)) (n - 1 - 1) P (RoundK w.heap.size Kp J Jx (pre ++ [x]) W)) (FA x) [] W)
    (hdone : ∀ (D : Nat) (xs : List α) (Lx : List Item) (W : World), w.heap.size ≤ D → S' xs → J xs Lx → S W (Ob D (.deferred (some [])) :: Lx) → G N (Q .normal) f (mark D :: ds) W)
    (hstop : ∀ (D : Nat) (pre : List α) (Lx : List Item) (W : World), w.heap.size ≤ D → Sp pre → Jx pre Lx → S W (Ob D (.deferred (some [])) :: Lx) → G N (Q .ret) f (mark D :: ds) W) :
    G N ((Code.rangeFunc x ps assign body).wpIn (WF none) n P Q) f ds w := fun a ha => by
  have hobD : ∀ {D : Nat} {Lx : List Item} {W : World}, w.heap.size ≤ D → (∀ it ∈ Lx, it.okB w.heap.size) → S W Lx → W.heap[D]? = some (.deferred (some [])) → S W (Ob D (.deferred (some [])) :: Lx) := fun hD hok hS hd =>
    hS.cons hd (fun g hg => by cases hg; exact (Array.getElem?_eq_some_iff.1 hd).1) (fun it hit g hg hf => by
      cases hg
      have := hok it hit _ _ (hS.1 it hit).1 hf hD _ hd
      cases this)
  refine wpIn_rangeFunc_ownH (F := WF none) (w0 := w) rfl hn (ha.eval hx) trivial (fun args w => run_callFunc hc args) hseq (fun h k => hKt h k) hKb (Below.refl _ _) hps
    (fun pre W => ∃ Lx, J pre Lx ∧ S W Lx) (fun c pre W => c = .ret ∧ ∃ Lx, Jx pre Lx ∧ S W Lx) ?_ ?_ ⟨L0, h0, H⟩ (fun x a' W => Rds N a' (FA x) []) ?_ ?_ ?_ ?_ ?_
  · rintro pre W W' row ⟨Lx, h1, h2⟩ hg hr
    exact ⟨Lx, h1, h2.grown (hJ pre Lx h1) hg hr⟩
  · rintro c pre W W' row ⟨hc, Lx, h1, h2⟩ hg hr
    exact ⟨hc, Lx, h1, h2.grown (hJx pre Lx h1) hg hr⟩
  · rintro x a' u W W' row h1 hg hr
    exact h1
  · rintro l pre x W K ⟨Lx, h1, h2⟩ hK
    refine wpIn_mono (hassign l pre x Lx W h1 (h2.keep _ (hJ pre Lx h1)) _ (ha.putA hpN (hps x))) (fun e a' W' h => ?_)
    cases e with
    | normal => obtain ⟨k1, k2, k3, k4⟩ := h; exact hK a' W' k1 k2 k3 k4
    | _ => exact h.elim
  · rintro l pre x a' W _ _ ⟨Lx, q1, q2⟩ h1 hlt
    exact hbody l pre x Lx W q1 hlt (q2.keep _ (hJ pre Lx q1)) a' h1
  · rintro D xs W hD hS ⟨Lx, h1, h2⟩ hd
    exact hdone D xs Lx W hD hS h1 (hobD hD (hJ xs Lx h1) h2 hd) _ ⟨ha.size, ha.get, by rw [← ha.defers]; rfl⟩
  · rintro D c pre W hD hS ⟨rfl, Lx, h1, h2⟩ hd
    exact wpIn_ret (hstop D pre Lx W hD hS h1 (hobD hD (hJx pre Lx h1) h2 hd) _ ⟨ha.size, ha.get, by rw [← ha.defers]; rfl⟩)
end
end Go.Proofs.Ytlajgickimgigaa
