import Derived.Test.YthfglkkjkpdkpaaDoorGw
set_option linter.unusedSimpArgs false
set_option linter.unusedVariables false
namespace Go.Proofs.YthfglkkjkpdkpaaDoor
open Go.RowKit

/-! ## Lists in rows, by how an element is written -/
structure Enc {α : Type} (size : Nat) (enc : α → List Value) : Prop where
  pos : 0 < size
  len : ∀ x, (enc x).length = size
  one : ∀ x, (enc x).all (·.oneCell') = true
def fl {α : Type} (enc : α → List Value) (l : List α) : List Value := l.flatMap enc
section
variable {α : Type} {enc : α → List Value} {size : Nat}
theorem fl_app (enc : α → List Value) (a b : List α) : fl enc (a ++ b) = fl enc a ++ fl enc b := List.flatMap_append ..
theorem Enc.flLen (E : Enc size enc) (l : List α) : (fl enc l).length = l.length * size := flat_length fun x _ => E.len x
theorem Enc.flAt (E : Enc size enc) {l : List α} {j : Nat} {x : α} (h : l[j]? = some x) : ∀ i u, (enc x)[i]? = some u → (fl enc l)[j * size + i]? = some u := flat_at (fun x _ => E.len x) h
theorem Enc.flAt1 (E : Enc 1 enc) {l : List α} {j : Nat} {x : α} {v : Value} (h : l[j]? = some x) (hv : enc x = [v]) : (fl enc l)[j * 1]? = some v := by
  have := E.flAt h 0 v (by rw [hv]; rfl)
  simpa using this
theorem Enc.flOne (E : Enc size enc) (l : List α) : (fl enc l).all (·.oneCell') = true := by
  rw [List.all_eq_true]; intro v hv
  obtain ⟨x, _, h⟩ := List.mem_flatMap.1 hv
  exact List.all_eq_true.1 (E.one x) v h
theorem Enc.flTake (E : Enc size enc) : ∀ (l : List α) (k : Nat), (fl enc l).take (k * size) = fl enc (l.take k)
  | l, 0 => by simp [fl]
  | [], k + 1 => by simp [fl]
  | a :: l, k + 1 => by
    show (enc a ++ fl enc l).take ((k + 1) * size) = enc a ++ fl enc (l.take k)
    rw [show (k + 1) * size = (enc a).length + k * size by rw [E.len, Nat.succ_mul]; omega, List.take_length_add_append, E.flTake l k]
theorem Enc.flDrop (E : Enc size enc) : ∀ (l : List α) (k : Nat), (fl enc l).drop (k * size) = fl enc (l.drop k)
  | l, 0 => by simp [fl]
  | [], k + 1 => by simp [fl]
  | a :: l, k + 1 => by
    show (enc a ++ fl enc l).drop ((k + 1) * size) = fl enc (l.drop k)
    rw [show (k + 1) * size = (enc a).length + k * size by rw [E.len, Nat.succ_mul]; omega, List.drop_length_add_append, E.flDrop l k]
theorem Enc.flSet (E : Enc size enc) {l : List α} {i : Nat} (y : α) (h : i < l.length) : (fl enc l).take (i * size) ++ enc y ++ (fl enc l).drop (i * size + size) = fl enc (l.set i y) := by
  rw [show i * size + size = (i + 1) * size by rw [Nat.succ_mul], E.flTake, E.flDrop, List.set_eq_take_append_cons_drop, if_pos h, fl_app, List.append_assoc]; rfl
theorem ex_at {l : List α} {j : Nat} (h : j < l.length) : ∃ x, l[j]? = some x := ⟨_, List.getElem?_eq_getElem h⟩
variable {w : World} {p : Option Addr} {n c : Nat} {l : List α}
theorem Reads.lenL (hr : Reads w p n c size (fl enc l)) (E : Enc size enc) : n = l.length := by
  have h1 := hr.1
  rw [E.flLen] at h1
  exact (Nat.eq_of_mul_eq_mul_right E.pos h1).symm
theorem Reads.takeL (hr : Reads w p n c size (fl enc l)) (E : Enc size enc) (k : Nat) (hk : k ≤ n) : Reads w p k c size (fl enc (l.take k)) := by
  have := hr.take k hk
  rwa [E.flTake] at this
theorem cutP0 (p : Option Addr) (c size : Nat) : cutP p 0 c size = p := by
  unfold cutP
  split
  · rfl
  · cases p with
    | none => rfl
    | some a => show some (a.add (0 * size)) = some a; rw [Nat.zero_mul]; unfold Addr.add; rfl
theorem Reads.midL (hr : Reads w p n c size (fl enc l)) (E : Enc size enc) (a b : Nat) (hab : a ≤ b) (hb : b ≤ n) : Reads w (cutP p a c size) (b - a) (c - a) size (fl enc ((l.drop a).take (b - a))) := by
  have := hr.cut a b hab hb
  rwa [E.flDrop, E.flTake] at this
theorem Reads.cutL (hr : Reads w p n c size (fl enc l)) (E : Enc size enc) (a : Nat) (ha : a ≤ n) : Reads w (cutP p a c size) (n - a) (c - a) size (fl enc (l.drop a)) := by
  have h := hr.midL E a n ha (Nat.le_refl _)
  have hn := hr.lenL E
  rwa [List.take_of_length_le (by rw [List.length_drop]; omega)] at h
theorem Reads.cutLn (hr : Reads w p n c size (fl enc l)) (E : Enc size enc) (a : Nat) (ha : a ≤ n) : Reads w (cutP p a c size) (l.drop a).length (c - a) size (fl enc (l.drop a)) := by
  have h := hr.cutL E a ha
  rwa [hr.lenL E, ← List.length_drop] at h
theorem Reads.some (hr : Reads w p n c size (fl enc l)) (h : 0 < n) : ∃ a, p = some a := by
  obtain ⟨a, ha, _⟩ := hr.2.2 h
  exact ⟨a, ha⟩
end
section
variable {P : Program} {N : Nat} {Q : Exit → Act → World → Prop} {f : Fr} {ds : List Deferred} {w w' : World} {o : Oper} {ops : Array Oper} {L : List Item} {K : Act → World → Prop} {α : Type} {enc : α → List Value}
theorem S.nilFl (h : S w L) (e size : Nat) (enc : α → List Value) : S w (Rw e size none 0 0 (fl enc []) :: L) := h.nilRw e size
/-- append(x, y...) to a row of one's own. -/
theorem s_appL {d t e size bytes n m c sc : Nat} {s x : Operand} {z : Value} {p q : Option Addr} {l l2 : List α} (E : Enc size enc) (H : S w L) (k : Nat) (hw : Wt ops f o) (hd : o.dst = some d) (hN : Nat.blt d N = true)
    (ho : o.op = .call { callee := .builtin .append, args := #[s, x], argTypes := #[t, t] }) (hs : evo f s = some (.slice p n sc)) (hx : evo f x = some (.slice q m c)) (hk : L[k]? = some (Rw e size p n sc (fl enc l)))
    (ht : P.underlying t = some (.slice e)) (hi : infO P e = some (some z, size, bytes)) (hz : z.cells.size = size) (hb0 : 0 < bytes) (hr : Reads w q m c size (fl enc l2)) (hb : (n + m) * bytes ≤ 140737488355328)
    (h : ∀ p' c' w', S w' (L.set k (Rw e size p' (n + m) c' (fl enc (l ++ l2)))) → G N K ((d, .slice p' (n + m) c') :: f) ds w') : G N (StepK P ops Q o K) f ds w :=
  s_appendW H k hw hd hN ho hs hx hk ht hi hz E.pos hb0 hr (E.flOne l2) hb fun p' c' w' h9 => h p' c' w' (by rw [fl_app]; exact h9)
/-- x[j] = v, a whole element. -/
theorem s_stoL {t e size n c j : Nat} {x y : Operand} {p : Option Addr} {l : List α} {v : Value} (E : Enc size enc) (b : α) (H : S w L) (k : Nat) (hw : Wt ops f o) (hd : o.dst = none) (ho : o.op = .store t x y) (hx : evo f x = some (.pointer (p.map fun q => q.add (j * size))))
    (hy : evo f y = some v) (hk : L[k]? = some (Rw e size p n c (fl enc l))) (hv : v.cells.toList = enc b) (hn : szO P t = some size) (hj : j < n)
    (h : ∀ w', S w' (L.set k (Rw e size p n c (fl enc (l.set j b)))) → G N K f ds w') : G N (StepK P ops Q o K) f ds w := by
  have hr := H.rwReads hk
  have hl := hr.lenL E
  have hs : v.cells.size = size := by rw [← Array.length_toList, hv, E.len]
  exact s_storeW H k hw hd ho hx hy hk (by rw [hs]; exact hn) hs (by rw [hv]; exact E.one b) hj fun w' h9 => h w' (by rw [← E.flSet b (by omega), ← hv]; exact h9)
theorem s_appLn {d t e size bytes n m c sc : Nat} {s x : Operand} {z : Value} {p q : Option Addr} {l l2 : List α} (E : Enc size enc) (H : S w L) (k : Nat) (hw : Wt ops f o) (hd : o.dst = some d) (hN : Nat.blt d N = true)
    (ho : o.op = .call { callee := .builtin .append, args := #[s, x], argTypes := #[t, t] }) (hs : evo f s = some (.slice p n sc)) (hx : evo f x = some (.slice q m c)) (hk : L[k]? = some (Rw e size p n sc (fl enc l)))
    (ht : P.underlying t = some (.slice e)) (hi : infO P e = some (some z, size, bytes)) (hz : z.cells.size = size) (hb0 : 0 < bytes) (hr : Reads w q m c size (fl enc l2)) (hb : (n + m) * bytes ≤ 140737488355328)
    (h : ∀ p' c' w', S w' (L.set k (Rw e size p' (l ++ l2).length c' (fl enc (l ++ l2)))) → G N K ((d, .slice p' (l ++ l2).length c') :: f) ds w') : G N (StepK P ops Q o K) f ds w :=
  s_appL E H k hw hd hN ho hs hx hk ht hi hz hb0 hr hb fun p' c' w' h9 => by
    have h1 := h p' c' w'
    rw [List.length_append, ← (H.rwReads hk).lenL E, ← hr.lenL E] at h1
    exact h1 h9
theorem s_appBn {d t e size bytes n m c sc g : Nat} {s x : Operand} {z : Value} {p : Option Addr} {l l2 : List α} {cs : Array Value} (E : Enc size enc) (H : S w L) (k : Nat) {j0 : Nat} (hj : L[j0]? = some (Ob g (.cells cs e (0, 0)))) (hcs : cs.toList = fl enc l2) (hm : m = l2.length ∧ m ≤ c) (hw : Wt ops f o) (hd : o.dst = some d) (hN : Nat.blt d N = true)
    (ho : o.op = .call { callee := .builtin .append, args := #[s, x], argTypes := #[t, t] }) (hs : evo f s = some (.slice p n sc)) (hx : evo f x = some (.slice (some ⟨g, 0, none⟩) m c)) (hk : L[k]? = some (Rw e size p n sc (fl enc l)))
    (ht : P.underlying t = some (.slice e)) (hi : infO P e = some (some z, size, bytes)) (hz : z.cells.size = size) (hb0 : 0 < bytes) (hb : (n + m) * bytes ≤ 140737488355328)
    (h : ∀ p' c' w', S w' (L.set k (Rw e size p' (l ++ l2).length c' (fl enc (l ++ l2)))) → G N K ((d, .slice p' (l ++ l2).length c') :: f) ds w') : G N (StepK P ops Q o K) f ds w :=
  s_appLn E H k hw hd hN ho hs hx hk ht hi hz hb0 ⟨by rw [E.flLen, hm.1], hm.2, fun _ => ⟨_, rfl, fun j u hu => news_ob H hj j u (by rw [hcs]; exact hu)⟩⟩ hb h
theorem list_mod {β : Type} {l : List β} {j : Nat} {a b : β} (h : l[j]? = some a) : l.set j b = l.take j ++ b :: l.drop (j + 1) := by
  rw [List.set_eq_take_append_cons_drop, if_pos (List.getElem?_eq_some_iff.1 h).1]
/-- x[j].field = v: one cell of an element. -/
theorem s_fldL {t e size n c j i : Nat} {x y : Operand} {p : Option Addr} {l : List α} {v : Value} {a : α} (E : Enc size enc) (b : α) (H : S w L) (k : Nat) (hw : Wt ops f o) (hd : o.dst = none) (ho : o.op = .store t x y) (hx : evo f x = some (.pointer (p.map fun q => q.add (j * size + i))))
    (hy : evo f y = some v) (hk : L[k]? = some (Rw e size p n c (fl enc l))) (ha : l[j]? = some a) (hb : enc b = (enc a).set i v) (hi : i < size) (hn : szO P t = some 1) (hv : v.cells = #[v]) (h1 : v.oneCell' = true)
    (h : ∀ w', S w' (L.set k (Rw e size p n c (fl enc (l.set j b)))) → G N K f ds w') : G N (StepK P ops Q o K) f ds w := by
  have hr := H.rwReads hk
  have hl := hr.lenL E
  have hjl := (List.getElem?_eq_some_iff.1 ha).1
  have hjs : j * size + size ≤ n * size := by
    have : (j + 1) * size ≤ n * size := Nat.mul_le_mul_right _ (by omega)
    rw [Nat.add_mul, Nat.one_mul] at this; exact this
  refine s_storeWC H k hw hd ho hx hy hk hn hv h1 (by omega) fun w' h9 => h w' ?_
  have e1 : fl enc (l.set j b) = (fl enc l).set (j * size + i) v := by
    have hlen : (fl enc (l.take j)).length = j * size := by rw [E.flLen, List.length_take]; congr 1; omega
    have e0 : fl enc l = fl enc (l.take j) ++ (enc a ++ fl enc (l.drop (j + 1))) := by
      conv => lhs; rw [← List.take_append_drop j l]
      rw [fl_app, List.drop_eq_getElem_cons hjl, (List.getElem?_eq_some_iff.1 ha).2]; rfl
    rw [list_mod ha, fl_app, e0, List.set_append_right _ _ (by omega), hlen, show j * size + i - j * size = i by omega, List.set_append_left _ _ (by rw [E.len]; exact hi)]
    have ec : fl enc (b :: l.drop (j + 1)) = enc b ++ fl enc (l.drop (j + 1)) := rfl
    rw [ec, hb]
  rw [e1]; exact h9
theorem S.obFl {k g e size n : Nat} {cs : Array Value} {l : List α} (E : Enc size enc) (h : S w L) (hk : L[k]? = some (Ob g (.cells cs e (0, 0)))) (hn : n = l.length) (hm : n ≤ maxLen) (hc : cs.toList = fl enc l) : S w (L.set k (Rw e size (some ⟨g, 0, none⟩) n n (fl enc l))) := by
  have := h.obRw (size := size) (n := n) hk (by rw [← Array.length_toList, hc, E.flLen, hn]) hm
  rwa [hc] at this
end
/-! fields of elements -/
section
variable {P : Program} {N : Nat} {f : Fr} {ds : List Deferred} {w : World} {o : Oper} {α : Type} {enc : α → List Value}
theorem x_fieldAddrQ {s i n : Nat} {x : Operand} {q : Addr} (ho : o.op = .fieldAddr s x i) (hx : evo f x = some (.pointer (some q))) (hf : foO P s i = some n) : Ex P N f ds o w (.pointer (some (q.add n))) w :=
  ex_of (x := Instr.fieldAt s (.pointer (some q)) i) (fun a ha => by unfold execOp; simp only [ho, ha.eval hx]) (by
    unfold foO at hf
    split at hf
    · rename_i fs hu
      split at hf
      · rename_i fd hfd
        split at hf
        · rename_i ii hii
          split at hf
          · cases hf
          · rename_i hne
            cases hf
            unfold Instr.fieldAt
            simp only [Sem.run_bind, run_underlying hu, Result.andThen_ok, hfd, Instr.sureAddr, Sem.run_pure, fieldPlace, run_sz (show szO P fd.type = some ii.size by simp [szO, hii]), if_neg hne]
        · cases hf
      · cases hf
    · cases hf)
theorem x_fieldAddrG {s i n m : Nat} {x : Operand} {p : Option Addr} (hp : ∃ a, p = some a) (ho : o.op = .fieldAddr s x i) (hx : evo f x = some (.pointer (p.map fun q => q.add m))) (hf : foO P s i = some n) : Ex P N f ds o w (.pointer (p.map fun q => q.add (m + n))) w := by
  obtain ⟨a, rfl⟩ := hp
  have h := x_fieldAddrQ (N := N) (ds := ds) (w := w) ho hx hf
  rw [addr_add] at h
  exact h
theorem x_loadF1 {t size n c i j : Nat} {d : TypeDesc} {x : Operand} {p : Option Addr} {l : List α} {v : Value} {a : α} (E : Enc size enc) (hr : Reads w p n c size (fl enc l)) (ha : l[j]? = some a) (ho : o.op = .load t x) (hx : evo f x = some (.pointer (p.map fun q => q.add (j * size + i)))) (hu : P.underlying t = some d) (hd : aggB d = false) (hv : (enc a)[i]? = some v) :
    Ex P N f ds o w v w := by
  have hl := hr.lenL E
  have hj := (List.getElem?_eq_some_iff.1 ha).1
  obtain ⟨q, rfl, hc⟩ := hr.2.2 (by omega)
  exact x_load (p := q.add (j * size + i)) ho hx (run_load1 hu hd (hc _ v (E.flAt ha i v hv)))
end
/-! how things are written -/
def intL (x : Int) : List Value := [.int .i64 x]
def boolL (x : Bool) : List Value := [.bool x]
def strL (x : ByteArray) : List Value := [.string x]
def rowL {α : Type} (r : Ro α) : List Value := [roV r]
theorem intE : Enc 1 intL := ⟨by decide, fun _ => rfl, fun _ => rfl⟩
end Go.Proofs.YthfglkkjkpdkpaaDoor
