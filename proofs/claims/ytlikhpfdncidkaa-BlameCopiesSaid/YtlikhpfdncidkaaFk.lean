import Derived.Test.YtlikhpfdncidkaaFc
import Derived.Laws.Externs
import Derived.LoopN
import Derived.Test.YtlikhpfdncidkaaProg
set_option linter.unusedSimpArgs false
set_option linter.unusedVariables false
namespace Go.Proofs.Ytlikhpfdncidkaa
open Go.RowKit

/-! ## A range over a function that is left by a jump -/
def RoundX {α : Type} (b : Nat) (J Jx : List α → List Item → Prop) (base I K : Item) (xs : List α) : Exit → Act → World → Prop
  | .normal, _, W => ∃ Lx, J xs Lx ∧ S W (base :: I :: K :: Lx)
  | .exit b', _, W => b' = b ∧ ∃ Lx, Jx xs Lx ∧ S W (base :: I :: K :: Lx)
  | _, _, _ => False
section
variable {P : Program} {N : Nat} {Q : Exit → Act → World → Prop} {f : Fr} {ds : List Deferred} {w : World} {n : Nat} {ops : Array Oper} {rest : List Oper} {o : Oper} {L : List Item}
end
end Go.Proofs.Ytlikhpfdncidkaa
namespace Go.Proofs.Ytlikhpfdncidkaa
open Go.RowKit

/-! ## A function that defers and ranges over a function -/
/-- How a frame leaves: deferred functions and marks, in whatever order. -/
def LeavesW (P : Program) (fn : Func) (tmps : Array Value) (R : Ending → World → Prop) : List Deferred → FrameMode → World → Prop
  | [], u, w => Leaves P fn tmps R [] u w
  | d :: ds, u, w => u ≠ .run ∧
      ((∃ r w', d.target = .collected r ∧ (Instr.takeDeferred r).run P w = .ok [] w' ∧ LeavesW P fn tmps R ds u w') ∨
       (∃ fv cap f args, d.target = .fn fv cap ∧ (invoke d.target d.args).run P w = .ok (.enter f args) w ∧
        CallsD P f args u w fun
          | .returned _, u', w' => LeavesW P fn tmps R ds (settle u') w'
          | .panicked chain, u', w' => LeavesW P fn tmps R ds (raised u' chain) w'
          | .outgrown, _, w' => R .outgrown w'))
section
variable {P : Program}
def bodyPostW (P : Program) (fn : Func) (R : Ending → World → Prop) : Exit → Act → World → Prop
  | .normal, a, w | .ret, a, w => LeavesW P fn a.tmps R a.defers .returning w
  | .panic chain, a, w => LeavesW P fn a.tmps R a.defers (.panicking chain) w
  | .outgrown, _, w => R .outgrown w
  | _, _, _ => False
end
section
variable {P : Program} {N : Nat} {f : Fr} {ds : List Deferred} {w : World} {L : List Item}
/-- What is left of a body: the deferred calls and marks. -/
def GLW (N : Nat) (P : Program) (fn : Func) (R : Ending → World → Prop) (f : Fr) (ds : List Deferred) (u : FrameMode) (w : World) : Prop := ∀ a, Rds N a f a.defers → LeavesW P fn a.tmps R ds u w
end
end Go.Proofs.Ytlikhpfdncidkaa
namespace Go.Proofs.Ytlikhpfdncidkaa
open Go.RowKit
open Go.Maps (Keyed)
open Go.ChangeMaps (setBlock)

/-! ## A range over a map -/
section
variable {κ α : Type} {ek : κ → Value} {va : α → Value} {ok : κ → Prop} {M : κ → Option α} {es : Array MapEntry} {c : Nat} {kv : List (κ × α)}
/-- What is left. -/
def zipOf (es : Array MapEntry) (kv : List (κ × α)) (seen : Array Nat) : List (MapEntry × (κ × α)) := (es.toList.zip kv).filter (fun z => !seen.contains z.1.born)
def remOf (es : Array MapEntry) (kv : List (κ × α)) (seen : Array Nat) : List (κ × α) := (zipOf es kv seen).map Prod.snd
theorem KV.zip_at (h : KV ek va ok M es c kv) {z : MapEntry × (κ × α)} (hz : z ∈ es.toList.zip kv) : ∃ j : Nat, es.toList[j]? = some z.1 ∧ kv[j]? = some z.2 ∧ z.1.key = ek z.2.1 ∧ z.1.val = va z.2.2 := by
  obtain ⟨j, hj⟩ := List.getElem?_of_mem hz
  rw [List.getElem?_zip_eq_some] at hj
  obtain ⟨p, hp, h1, h2⟩ := h.at hj.1
  rw [hj.2] at hp
  cases hp
  exact ⟨j, hj.1, hj.2, h1, h2⟩
theorem KV.fst_zip (h : KV ek va ok M es c kv) : (es.toList.zip kv).map Prod.fst = es.toList := List.map_fst_zip (by have := h.len; simp; omega)
theorem KV.left (h : KV ek va ok M es c kv) (seen : Array Nat) : (leftOf es seen).toList = (zipOf es kv seen).map Prod.fst := by
  unfold leftOf zipOf
  rw [Array.toList_filter]
  conv => lhs; rw [← h.fst_zip]
  rw [List.filter_map]; rfl
theorem nodup_at {β : Type} {l : List β} {γ : Type} {f : β → γ} (hn : (l.map f).Nodup) {i j : Nat} {x y : β} (hi : l[i]? = some x) (hj : l[j]? = some y) (h : f x = f y) : i = j := by
  obtain ⟨hi1, hi2⟩ := List.getElem?_eq_some_iff.1 hi
  obtain ⟨hj1, hj2⟩ := List.getElem?_eq_some_iff.1 hj
  have hw := List.pairwise_iff_getElem.1 hn
  rcases Nat.lt_trichotomy i j with hl | hl | hl
  · exact absurd (show (l.map f)[i]'(by simpa using hi1) = (l.map f)[j]'(by simpa using hj1) from by simp [hi2, hj2, h]) (hw i j (by simpa using hi1) (by simpa using hj1) hl)
  · exact hl
  · exact absurd (show (l.map f)[j]'(by simpa using hj1) = (l.map f)[i]'(by simpa using hi1) from by simp [hi2, hj2, h]) (hw j i (by simpa using hj1) (by simpa using hi1) hl)
/-- One is taken: what is left then. -/
theorem KV.rem_next (h : KV ek va ok M es c kv) {seen : Array Nat} {e : MapEntry} (he : e ∈ (leftOf es seen).toList) :
    ∃ p, p ∈ remOf es kv seen ∧ e ∈ es.toList ∧ e.key = ek p.1 ∧ e.val = va p.2 ∧ (∀ q, q ∈ remOf es kv (seen.push e.born) ↔ q ∈ remOf es kv seen ∧ q ≠ p) ∧ (remOf es kv (seen.push e.born)).length < (remOf es kv seen).length := by
  rw [h.left, List.mem_map] at he
  obtain ⟨z, hz, rfl⟩ := he
  have hz' := List.mem_filter.1 hz
  obtain ⟨j, h1, h2, h3, h4⟩ := h.zip_at hz'.1
  have key : ∀ y ∈ es.toList.zip kv, (y.1.born = z.1.born ↔ y.2 = z.2) := fun y hy => by
    obtain ⟨i, i1, i2, _, _⟩ := h.zip_at hy
    constructor
    · intro e
      have := nodup_at (f := fun x : MapEntry => x.born) h.born i1 h1 e
      subst this
      rw [i2] at h2; exact Option.some.inj h2
    · intro e
      have := nodup_fst h.nodup i2 h2 (by rw [e])
      subst this
      rw [i1] at h1; rw [Option.some.inj h1]
  have hf : zipOf es kv (seen.push z.1.born) = (zipOf es kv seen).filter (fun y => !(y.1.born == z.1.born)) := by
    unfold zipOf
    rw [List.filter_filter]
    refine List.filter_congr fun y hy => ?_
    simp only [Array.contains_push, Bool.not_or]
    rw [Bool.and_comm]
  refine ⟨z.2, List.mem_map.2 ⟨z, hz, rfl⟩, List.mem_of_getElem? h1, h3, h4, fun q => ?_, ?_⟩
  · unfold remOf
    rw [hf]
    constructor
    · intro hq
      obtain ⟨y, hy, rfl⟩ := List.mem_map.1 hq
      obtain ⟨y1, y2⟩ := List.mem_filter.1 hy
      have y3 := (List.mem_filter.1 y1).1
      refine ⟨List.mem_map.2 ⟨y, y1, rfl⟩, fun e => ?_⟩
      have := (key y y3).2 e
      simp [this] at y2
    · rintro ⟨hq, hne⟩
      obtain ⟨y, hy, rfl⟩ := List.mem_map.1 hq
      have y3 := (List.mem_filter.1 hy).1
      refine List.mem_map.2 ⟨y, List.mem_filter.2 ⟨hy, ?_⟩, rfl⟩
      have : ¬ y.1.born = z.1.born := fun e => hne ((key y y3).1 e)
      simp [this]
  · unfold remOf
    rw [hf, List.length_map, List.length_map]
    exact List.length_filter_lt_length_iff_exists.2 ⟨z, hz, by simp⟩
def CurOk (ek : κ → Value) (va : α → Value) (es : Array MapEntry) (seen : Array Nat) : Option (κ × α) → Prop
  | none => True
  | some p => ∃ (seen0 : Array Nat) (e : MapEntry), seen = seen0.push e.born ∧ e ∈ es.toList ∧ e.key = ek p.1 ∧ e.val = va p.2
/-- A map and an iterator over it: what is left, what was handed out last. -/
def MpR (ek : κ → Value) (va : α → Value) (ok : κ → Prop) (g r : Nat) (M : κ → Option α) (rem : List (κ × α)) (cur : Option (κ × α)) : Item :=
  ⟨fun j => j = g ∨ j = r, fun w => g ≠ r ∧ ∃ es c kv seen since st, w.heap[g]? = some (.map es c) ∧ KV ek va ok M es c kv ∧ w.heap[r]? = some (.mapIter (some g) since seen st) ∧ (∀ e ∈ es.toList, e.born < since) ∧ (since ≤ st ∧ since ≤ c) ∧ rem = remOf es kv seen ∧ (cur.isSome = true → st = c) ∧ CurOk ek va es seen cur, fun h k => by
    obtain ⟨hn, es, c, kv, seen, since, st, h1, h2, h3, h4⟩ := k
    exact ⟨hn, es, c, kv, seen, since, st, (h.block g (.inl rfl)).trans h1, h2, (h.block r (.inr rfl)).trans h3, h4⟩⟩
variable {P : Program} {N : Nat} {Q : Exit → Act → World → Prop} {f : Fr} {ds : List Deferred} {w w' : World} {o : Oper} {ops : Array Oper} {L : List Item} {K : Act → World → Prop}
theorem S.unR {k0 g r : Nat} {rem : List (κ × α)} {cur : Option (κ × α)} (H : S w L) (hk : L[k0]? = some (MpR ek va ok g r M rem cur)) : S w (L.set k0 (Mp ek va ok g M)) := by
  have h := H.at hk
  obtain ⟨hn, es, c, kv, seen, since, st, h1, h2, h3, h4⟩ := h
  refine H.turn hk Same.rfl' ⟨es, c, kv, h1, h2⟩ (fun j hj => ?_)
  have hj : j = g := hj
  exact ⟨.inl (.inl hj), H.lt hk (.inl hj)⟩
theorem Mp_congr {k0 g : Nat} {M' : κ → Option α} (H : S w L) (hk : L[k0]? = some (Mp ek va ok g M)) (h : ∀ x, ok x → M x = M' x) : S w (L.set k0 (Mp ek va ok g M')) := by
  obtain ⟨es, c, kv, h1, h2⟩ := H.mp hk
  refine H.turn hk Same.rfl' ⟨es, c, kv, h1, h2.same, h2.nodup, h2.oks, h2.born, h2.old, fun p => ?_⟩ (fun j hj => ⟨.inl hj, H.lt hk hj⟩)
  rw [h2.is]
  exact ⟨fun ⟨a, b⟩ => ⟨a, by rw [← h _ a]; exact b⟩, fun ⟨a, b⟩ => ⟨a, by rw [h _ a]; exact b⟩⟩
/-- The next one: nothing is left, or one of those that are. -/
theorem s_next {d : TypeId} {y : Operand} {g r : Nat} {rem : List (κ × α)} {cur : Option (κ × α)} (H : S w L) (k0 : Nat) (hw : Wt ops f o) (hd : o.dst = some d) (hN : Nat.blt d N = true) (hk : L[k0]? = some (MpR ek va ok g r M rem cur)) (ho : o.op = .next y false) (hy : evo f y = some (.pointer (some ⟨r, 0, none⟩)))
    (h0 : rem = [] → G N K ((d, .tuple #[.bool false]) :: f) ds w)
    (h1 : ∀ p rem' w', p ∈ rem → ok p.1 → M p.1 = some p.2 → (∀ q, q ∈ rem' ↔ q ∈ rem ∧ q ≠ p) → rem'.length < rem.length → S w' (L.set k0 (MpR ek va ok g r M rem' (some p))) → G N K ((d, .tuple #[.bool true, ek p.1, va p.2]) :: f) ds w') : G N (StepK P ops Q o K) f ds w := by
  obtain ⟨hn, es, c, kv, seen, since, st, hb, hkv, hr, hold, hsc, hrem, _, hcur⟩ := H.at hk
  rcases run_next_at (P := P) w o.type r g since st seen es c hr hb hold hsc.1 with ⟨h2, h3⟩ | ⟨e, he, w1, hw1, h3⟩
  · refine s_val hw hd hN (ex_of (x := Instr.next (.pointer (some ⟨r, 0, none⟩)) false o.type) (fun a ha => by unfold execOp; simp only [ho, ha.eval hy]) h3) (h0 ?_)
    rw [hrem]
    unfold remOf
    have h4 := hkv.left seen
    have h5 : (leftOf es seen).toList = [] := by
      have : (leftOf es seen).toList.length = 0 := by simpa using h2
      exact List.eq_nil_of_length_eq_zero this
    rw [h5] at h4
    have : zipOf es kv seen = [] := List.map_eq_nil_iff.1 h4.symm
    rw [this]; rfl
  · obtain ⟨p, p1, p2, p3, p4, p5, p6⟩ := hkv.rem_next he
    have hpk : p ∈ kv := by
      obtain ⟨z, hz, rfl⟩ := List.mem_map.1 p1
      obtain ⟨j, _, j2, _⟩ := hkv.zip_at (List.mem_filter.1 hz).1
      exact List.mem_of_getElem? j2
    have hp := (hkv.is p).1 hpk
    rw [p3, p4] at h3
    refine s_val hw hd hN (ex_of (x := Instr.next (.pointer (some ⟨r, 0, none⟩)) false o.type) (fun a ha => by unfold execOp; simp only [ho, ha.eval hy]) h3) (h1 p (remOf es kv (seen.push e.born)) _ (hrem ▸ p1) hp.1 hp.2 (by rw [hrem]; exact p5) (by rw [hrem]; exact p6) ?_)
    have hw1h : w1.heap = w.heap := by rcases hw1 with rfl | rfl <;> rfl
    have hr1 : w1.heap[r]? = some (.mapIter (some g) since seen st) := by rw [hw1h]; exact hr
    have hS1 : S w1 L := by
      rcases hw1 with rfl | rfl
      · exact H
      · exact H.drew
    refine hS1.turn hk ((same_setBlock w1 r _).less fun j hj => fun e => hj.2 (.inr e)) ⟨hn, es, c, kv, _, since, c, ?_, hkv, heap_setBlock hr1, hold, ⟨hsc.2, hsc.2⟩, rfl, fun _ => rfl, seen, e, rfl, p2, p3, p4⟩ (fun j hj => ⟨.inl hj, ?_⟩)
    · rw [(same_setBlock w1 r _).block g hn, hw1h]; exact hb
    · exact Nat.lt_of_lt_of_le (hS1.lt hk hj) (same_setBlock w1 r _).size
theorem x_entry {t k e0 : TypeId} {y : Operand} {g r : Nat} {rem : List (κ × α)} {p : κ × α} (H : S w L) (k0 : Nat) (hk : L[k0]? = some (MpR ek va ok g r M rem (some p))) (ho : o.op = .entry y) (hy : evo f y = some (.pointer (some ⟨r, 0, none⟩))) : Ex P N f ds o w (.tuple #[ek p.1, va p.2]) w :=
  ex_of (x := Instr.entry (.pointer (some ⟨r, 0, none⟩))) (fun a ha => by unfold execOp; simp only [ho, ha.eval hy]) (by
    obtain ⟨hn, es, c, kv, seen, since, st, hb, hkv, hr, hold, hsc, hrem, hst, seen0, e, rfl, h2, h3, h4⟩ := H.at hk
    have hst := hst rfl
    subst hst
    rw [run_entry_at w r g since seen0 es _ e hr hb h2 hkv.born, h3, h4])
end
end Go.Proofs.Ytlikhpfdncidkaa
namespace Go.Proofs.Ytlikhpfdncidkaa
open Go.RowKit

/-! ## Functions without a body; the copy of a map -/
section
variable {P : Program} {N : Nat} {Q : Exit → Act → World → Prop} {f : Fr} {ds : List Deferred} {w w' : World} {o : Oper} {ops : Array Oper} {L : List Item} {K : Act → World → Prop}
theorem x_extern {x : Operand} {g : FuncId} {fn : Func} {e : Array Value → Sem Value} {args : Array Operand} {ts : Array TypeId} {vs : List Value} {v : Value} (ho : o.op = .call { callee := .value x, args := args, argTypes := ts }) (hx : evo f x = some (.func (.func g) #[] #[])) (hv : evs f args.toList = some vs)
    (hf : P.funcs[g]? = some fn) (hname : (fn.name == "runtime.NumGoroutine") = false) (hb : fn.body.isNone = true) (hn : Extern.findNext fn = none) (he : Extern.find fn = some e) (hr : (e vs.toArray).run P w = .ok v w') : Ex P N f ds o w v w' := fun a ha => by
  unfold execOp
  have h0 : args.map a.eval = vs.toArray := ha.evalsA hv
  have h1 : (#[] : Array Value) ++ vs.toArray ++ #[] = vs.toArray := by simp
  simp only [ho, resolve, ha.eval hx, Deferred.ofValue, Sem.run_bind, Sem.run_pure, Result.andThen_ok, invoke, h0, h1, run_callFunc_extern hf hname hb hn he, hr]
/-- x.(T) at a value of that very type; T is no interface. -/
theorem x_assert1 {x : Operand} {xt t : TypeId} {v : Value} {d : TypeDesc} (ho : o.op = .typeAssert x xt t false) (hx : evo f x = some (.iface t v)) (hu : P.underlying t = some d) (hd : (match d with | .interface _ => true | _ => false) = false) : Ex P N f ds o w v w :=
  ex_of (x := Instr.typeAssert (.iface t v) xt t false) (fun a ha => by unfold execOp; simp only [ho, ha.eval hx]) (by
    unfold Instr.typeAssert
    simp only [Sem.run_bind, run_underlying hu, Result.andThen_ok]
    cases d <;> simp at hd <;> simp)
/-- A map held against nil. -/
theorem b_eqlMap {t k e : TypeId} {xo : Operand} {c : Value} {g : Nat} (h : P.underlying t = some (.map k e)) : Bin P .eql t xo (.const c) (.map (some g)) (.map none) w (.bool false) := by
  have h0 : (eqGuard .eql t xo (.const c) (.map (some g)) (.map none)).run P w = .ok () w := by unfold eqGuard; cases xo <;> rfl
  have h1 : (Op.equal t (.map (some g)) (.map none)).run P w = .ok false w := by
    have h2 : ∀ d, (Op.equalIn (d + 1) t (.map (some g)) (.map none)).run P w = .ok false w := fun d => by simp [Op.equalIn, run_underlying h]
    exact h2 9999
  unfold Bin; rw [Sem.run_bind, h0]
  simp only [Result.andThen_ok, binOp, Sem.run_bind, h1]
  rfl
variable {κ α : Type} {ek : κ → Value} {va : α → Value} {ok : κ → Prop} {M : κ → Option α}
theorem s_mapsClone {x : Operand} {fi : FuncId} {fn : Func} {args : Array Operand} {ts : Array TypeId} {t : TypeId} {g d : Nat} (H : S w L) (k0 : Nat) (hw : Wt ops f o) (hd : o.dst = some d) (hN : Nat.blt d N = true) (hk : L[k0]? = some (Mp ek va ok g M))
    (ho : o.op = .call { callee := .value x, args := args, argTypes := ts }) (hx : evo f x = some (.func (.func fi) #[] #[])) (hv : evs f args.toList = some [.iface t (.map (some g))])
    (hf : P.funcs[fi]? = some fn) (hname : (fn.name == "runtime.NumGoroutine") = false) (hb : fn.body.isNone = true) (hn : Extern.findNext fn = none) (he : Extern.find fn = some Extern.MapsClone.clone)
    (h : ∀ g' w', S w' (Mp ek va ok g' M :: L) → G N K ((d, .iface t (.map (some g'))) :: f) ds w') : G N (StepK P ops Q o K) f ds w := by
  obtain ⟨es, c, kv, hb1, hkv⟩ := H.mp hk
  have hr : (Extern.MapsClone.clone ([.iface t (.map (some g))] : List Value).toArray).run P w = .ok (.iface t (.map (some w.heap.size))) (w.alloc (.map es c)) := by
    have e : Extern.MapsClone.clone ([.iface t (.map (some g))] : List Value).toArray = (getObj g >>= fun o => match o with
        | .map entries clock => (newObj (.map entries clock) >>= fun n => pure (.iface t (.map (some n))))
        | _ => stuck "maps.clone: a map expected") := rfl
    rw [e]
    simp [MapKept.run_getObj_map hb1, newObj, Sem.run, Result.andThen]
  refine s_val hw hd hN (x_extern ho hx hv hf hname hb hn he hr) (h _ _ ?_)
  have h1 := H.alloc (.map es c)
  obtain ⟨a1, a2, a3⟩ := h1.head
  exact h1.tail.cons ⟨es, c, kv, a1, hkv⟩ a2 a3
end
end Go.Proofs.Ytlikhpfdncidkaa
namespace Go.Proofs.Ytlikhpfdncidkaa
open Go.RowKit

section
variable {P : Program} {N : Nat} {f : Fr} {ds : List Deferred} {w : World} {ops : Array Oper} {Q : Exit → Act → World → Prop} {K : Act → World → Prop} {o : Oper} {L : List Item}
/-- append to a slice without room, which may be empty: a new block. -/
theorem s_appendFull2 {d t e size bytes n m c : Nat} {s x : Operand} {z : Value} {xs news : List Value} {p q : Option Addr} (H : S w L) (hw : Wt ops f o) (hd : o.dst = some d) (hN : Nat.blt d N = true)
    (ho : o.op = .call { callee := .builtin .append, args := #[s, x], argTypes := #[t, t] }) (hs : evo f s = some (.slice p n n)) (hx : evo f x = some (.slice q m c)) (hr0 : Reads w p n n size xs) (hp : ∃ a, p = some a)
    (ht : P.underlying t = some (.slice e)) (hi : infO P e = some (some z, size, bytes)) (hz : z.cells.size = size) (hsz : 0 < size) (hb0 : 0 < bytes) (hr : Reads w q m c size news) (hm : 0 < m) (h1 : news.all (·.oneCell') = true)
    (hb : (n + m) * bytes ≤ 140737488355328)
    (h : ∀ p' c' w', S w' (Rw e size p' (n + m) c' (xs ++ news) :: L) → G N K ((d, .slice p' (n + m) c') :: f) ds w') : G N (StepK P ops Q o K) f ds w := by
  obtain ⟨i, hi1, hi2, hi3, hi4⟩ := inf_of hi
  have h63 : n + m ≤ maxLen := by
    have : n + m ≤ (n + m) * bytes := Nat.le_mul_of_pos_right _ hb0
    unfold maxLen; omega
  obtain ⟨k1, _, k3⟩ := hr0
  obtain ⟨a, rfl⟩ := hp
  have hold : ∀ j u, xs[j]? = some u → w.cell? (a.add j) = some u := fun j u hu => by
    rcases Nat.eq_zero_or_pos n with h0 | h0
    · subst h0
      have : xs = [] := List.eq_nil_of_length_eq_zero (by rw [k1, Nat.zero_mul])
      rw [this] at hu; simp at hu
    · obtain ⟨a', ha, hc⟩ := k3 h0
      cases ha; exact hc j u hu
  obtain ⟨q1, _, q3⟩ := hr
  obtain ⟨ad, rfl, hnews⟩ := q3 hm
  have hlen : (xs ++ news).length = (n + m) * size := by rw [List.length_append, k1, q1, Nat.add_mul]
  obtain ⟨v', w', hr, hown, hg⟩ := run_append_arg_grows (P := P) w t o.type e i z size bytes ht hi1 hi2 hi3 hi4 hz hsz a n n xs k1 hold ad m c news q1 hnews (by omega) h63 hb
  rcases hown.2 with ⟨_, h0⟩ | ⟨g, cap, cur, rfl, hge, hgg, hle, hmx, hcs, htk⟩
  · omega
  · have hS : S w' (Rw e size (some ⟨g, 0, none⟩) (n + m) cap (xs ++ news) :: L) := by
      refine (H.move ⟨hg.os, hg.tape, hg.output, hg.size, fun b hb => hg.block b hb (by simp)⟩).cons ⟨hlen, hle, hmx, .inr ⟨g, 0, cur, rfl, hgg, by omega, fun j u hu => ?_⟩⟩ (fun b hb => ?_) (fun x hx b hb hb' => ?_)
      · rw [Nat.zero_add, ← Array.getElem?_toList]
        rw [← htk, List.getElem?_take] at hu
        split at hu
        · exact hu
        · cases hu
      · obtain ⟨q, hq⟩ := hb; cases hq
        exact (Array.getElem?_eq_some_iff.1 hgg).1
      · obtain ⟨q, hq⟩ := hb; cases hq
        have := (H.1 x hx).2 _ hb'
        omega
    exact s_val hw hd hN (x_builtin (vs := [.slice (some a) n n, .slice (some ad) m c]) ho (by simp only [Array.toList, evs, hs, hx]) (fun cs => by
      simp only [builtin, Sem.run_bind, hr, Result.andThen_ok, Sem.run_pure])) (h _ _ w' hS)
end
theorem Reads.take {w : World} {p : Option Addr} {n c size : Nat} {xs : List Value} (hr : Reads w p n c size xs) (k : Nat) (hk : k ≤ n) : Reads w p k c size (xs.take (k * size)) := by
  obtain ⟨k1, k2, k3⟩ := hr
  have hx : k * size ≤ n * size := Nat.mul_le_mul_right _ hk
  refine ⟨by rw [List.length_take, k1]; omega, by omega, fun h0 => ?_⟩
  obtain ⟨a, ha, hc⟩ := k3 (by omega)
  refine ⟨a, ha, fun j u hu => hc j u ?_⟩
  have hj := (List.getElem?_eq_some_iff.1 hu).1
  rw [List.length_take] at hj
  rwa [List.getElem?_take_of_lt (by omega)] at hu
/-- A cut from the front, with its own end as capacity. -/
def clipP (p : Option Addr) (k size : Nat) : Option Addr := if k = 0 then p else p.map fun q => q.add (0 * size)
theorem Reads.clip {w : World} {p : Option Addr} {n c size : Nat} {xs : List Value} (hr : Reads w p n c size xs) (k : Nat) (hk : k ≤ n) : Reads w (clipP p k size) k k size (xs.take (k * size)) := by
  obtain ⟨k1, k2, k3⟩ := hr.take k hk
  refine ⟨k1, Nat.le_refl _, fun h0 => ?_⟩
  obtain ⟨a, rfl, hc⟩ := k3 h0
  refine ⟨a.add (0 * size), by unfold clipP; rw [if_neg (by omega)]; rfl, fun j u hu => ?_⟩
  rw [addr_add, Nat.zero_mul, Nat.zero_add]
  exact hc j u hu
end Go.Proofs.Ytlikhpfdncidkaa
namespace Go.Proofs.Ytlikhpfdncidkaa
open Go.RowKit
open Go.ChangeMaps (setBlock)

/-! ## Loops round by round; clear; delete -/
section
variable {P : Program} {N : Nat} {Q : Exit → Act → World → Prop} {f : Fr} {ds : List Deferred} {w w' : World} {o : Oper} {ops : Array Oper} {L : List Item} {K : Act → World → Prop}
end
section
variable {κ α : Type} {ek : κ → Value} {va : α → Value} {ok : κ → Prop}
theorem map_erase {α β : Type} (f : α → β) : ∀ (l : List α) (j : Nat), (l.eraseIdx j).map f = (l.map f).eraseIdx j
  | [], _ => rfl
  | a :: l, 0 => rfl
  | a :: l, j + 1 => by simp only [List.eraseIdx_cons_succ, List.map_cons, map_erase f l j]
theorem erase_list (es : Array MapEntry) (j : Nat) : (es.eraseIdxIfInBounds j).toList = es.toList.eraseIdx j := by
  unfold Array.eraseIdxIfInBounds
  split
  · simp
  · rename_i h
    rw [List.eraseIdx_of_length_le (by simpa using h)]
def delM {κ α : Type} [DecidableEq κ] (M : κ → Option α) (x : κ) : κ → Option α := fun y => if y = x then none else M y
theorem KV.del {κ α : Type} [DecidableEq κ] {ek : κ → Value} {va : α → Value} {ok : κ → Prop} {M : κ → Option α} {es : Array MapEntry} {c : Nat} {kv : List (κ × α)} (h : KV ek va ok M es c kv) {x : κ} {b : α} {j : Nat} (hj : kv[j]? = some (x, b)) : KV ek va ok (delM M x) (es.eraseIdxIfInBounds j) c (kv.eraseIdx j) := by
  refine ⟨?_, ?_, ?_, ?_, ?_, ?_⟩
  · rw [erase_list, map_erase, map_erase, h.same]
  · rw [map_erase]; exact h.nodup.sublist (List.eraseIdx_sublist _ _)
  · exact fun p hp => h.oks p (List.mem_of_mem_eraseIdx hp)
  · rw [erase_list, map_erase]; exact h.born.sublist (List.eraseIdx_sublist _ _)
  · intro e he
    rw [erase_list] at he
    exact h.old e (List.mem_of_mem_eraseIdx he)
  · intro p
    unfold delM
    constructor
    · intro hp
      obtain ⟨i, hi, hpi⟩ := List.mem_eraseIdx_iff_getElem?.1 hp
      obtain ⟨h1, h2⟩ := (h.is p).1 (List.mem_of_getElem? hpi)
      refine ⟨h1, ?_⟩
      rw [if_neg (fun e => hi (nodup_fst h.nodup hpi hj e))]
      exact h2
    · rintro ⟨h1, h2⟩
      split at h2
      · cases h2
      · rename_i hne
        obtain ⟨i, hi⟩ := List.getElem?_of_mem ((h.is p).2 ⟨h1, h2⟩)
        refine List.mem_eraseIdx_iff_getElem?.2 ⟨i, fun e => ?_, hi⟩
        subst e
        rw [hj] at hi
        cases hi
        exact hne rfl
theorem KV.delNone {κ α : Type} [DecidableEq κ] {ek : κ → Value} {va : α → Value} {ok : κ → Prop} {M : κ → Option α} {es : Array MapEntry} {c : Nat} {kv : List (κ × α)} (h : KV ek va ok M es c kv) {x : κ} (hM : M x = none) : KV ek va ok (delM M x) es c kv := by
  have e : delM M x = M := by
    funext y
    unfold delM
    split
    · rename_i h; rw [h, hM]
    · rfl
  rw [e]; exact h
variable {P : Program} {N : Nat} {Q : Exit → Act → World → Prop} {f : Fr} {ds : List Deferred} {w w' : World} {o : Oper} {ops : Array Oper} {L : List Item} {K : Act → World → Prop} {M : κ → Option α}
theorem s_delete {κ α : Type} [DecidableEq κ] {ek : κ → Value} {va : α → Value} {ok : κ → Prop} {M : κ → Option α} {t k e : TypeId} {m y : Operand} {g : Nat} {x : κ} (T : MapTy P t k e ek ok) (H : S w L) (k0 : Nat) (hw : Wt ops f o) (hd : o.dst = none) (hk : L[k0]? = some (Mp ek va ok g M))
    (ho : o.op = .call { callee := .builtin .delete, args := #[m, y], argTypes := #[t, k] }) (hm : evo f m = some (.map (some g))) (hy : evo f y = some (ek x)) (hx : ok x)
    (h : ∀ w', S w' (L.set k0 (Mp ek va ok g (delM M x))) → G N K f ds w') : G N (StepK P ops Q o K) f ds w := by
  obtain ⟨es, c, kv, hb, hkv⟩ := H.mp hk
  obtain ⟨l, hl⟩ := T.key x hx
  have hrun : ∃ es' kv', (∀ ty, (Builtin.delete_ #[t, k] ty #[.map (some g), ek x]).run P w = .ok (.tuple #[]) (setBlock w g (.map es' c))) ∧ KV ek va ok (delM M x) es' c kv' := by
    rcases hkv.find T w hx with ⟨h1, h2⟩ | ⟨j, b, h1, h2, h3, q, hq, hqk⟩
    · refine ⟨es, kv, fun ty => ?_, hkv.delNone h1⟩
      simp [Builtin.delete_, run_underlying T.ht, MapKept.run_getObj_map hb, T.K.check w _ hl, h2, MapKept.run_setObj_map _ hb, Result.andThen, setBlock]
    · refine ⟨_, _, fun ty => ?_, hkv.del h2⟩
      simp [Builtin.delete_, run_underlying T.ht, MapKept.run_getObj_map hb, T.K.check w _ hl, h3, MapKept.run_setObj_map _ hb, Result.andThen, setBlock]
  obtain ⟨es', kv', hrun, hkv'⟩ := hrun
  refine s_val0 hw hd (x_builtin (vs := [.map (some g), ek x]) (v := .tuple #[]) (w' := setBlock w g (.map es' c)) ho (by simp only [evs, hm, hy]) (fun cs => by simp only [builtin, hrun, Sem.run_bind, Result.andThen_ok, Sem.run_pure])) (h _ ?_)
  exact H.turn hk ((same_setBlock w g _).less fun j hj => hj.2) ⟨es', c, kv', heap_setBlock hb, hkv'⟩ (fun j hj => by
    have : j = g := hj
    exact ⟨.inl this, Nat.lt_of_lt_of_le (H.lt hk this) (same_setBlock w g _).size⟩)
end
end Go.Proofs.Ytlikhpfdncidkaa
namespace Go.Proofs.Ytlikhpfdncidkaa
open Go.RowKit Go.Deep

/-! ## Bytes of a text as a block of one's own, and stores into it -/
section
variable {P : Program} {N : Nat} {Q : Exit → Act → World → Prop} {f : Fr} {ds : List Deferred} {w w' : World} {o : Oper} {ops : Array Oper} {L : List Item} {K : Act → World → Prop}
end
end Go.Proofs.Ytlikhpfdncidkaa
namespace Go.Proofs.Ytlikhpfdncidkaa
open Go.RowKit Go.Deep

/-! Tables of types, each held once against the program. -/
def lk1 (k : Nat) : List (Nat × Nat) → Option Nat
  | [] => none
  | (a, b) :: r => bif Nat.beq a k then some b else lk1 k r
def lk2 (k i : Nat) : List (Nat × Nat × Nat) → Option Nat
  | [] => none
  | (a, b, c) :: r => bif Nat.beq a k && Nat.beq b i then some c else lk2 k i r
def unL : List (Nat × Nat) := [(3, 0), (4, 0), (5, 0), (9, 0), (24, 0), (25, 0), (28, 0), (29, 0), (60, 0), (63, 0), (64, 0), (70, 0), (85, 0), (86, 0), (94, 0), (112, 0), (144, 0)]
def szL : List (Nat × Nat) := [(3, 1), (4, 1), (5, 1), (9, 1), (24, 1), (25, 1), (27, 2), (28, 1), (29, 1), (37, 3), (52, 7), (60, 1), (62, 2), (63, 1), (64, 1), (66, 4), (70, 1), (74, 2), (77, 2), (85, 1), (86, 1), (88, 4), (94, 1), (105, 2), (109, 5), (112, 1), (113, 4), (115, 4), (118, 5), (144, 1)]
def foL : List (Nat × Nat × Nat) := [(27, 0, 0), (27, 1, 1), (37, 0, 0), (37, 1, 1), (37, 2, 2), (52, 0, 0), (52, 1, 1), (52, 2, 2), (52, 3, 5), (52, 4, 6), (62, 0, 0), (62, 1, 1), (66, 0, 0), (66, 1, 2), (66, 2, 3), (74, 0, 0), (77, 0, 0), (77, 1, 1), (88, 0, 0), (88, 1, 1), (88, 2, 2), (88, 3, 3), (109, 0, 0), (109, 1, 1), (109, 2, 4), (115, 0, 0), (118, 0, 0), (118, 1, 4)]
def isO (o : Option Nat) (n : Nat) : Bool := match o with
  | some m => Nat.beq m n
  | none => false
theorem isO_eq {o : Option Nat} {n : Nat} (h : isO o n = true) : o = some n := by
  cases o with
  | none => exact absurd h (by simp [isO])
  | some m => exact congrArg some (Nat.eq_of_beq_eq_true h)
theorem lk1_of {k n : Nat} {Q : Nat → Nat → Bool} : ∀ {l : List (Nat × Nat)}, l.all (fun e => Q e.1 e.2) = true → lk1 k l = some n → Q k n = true
  | [], _, h => absurd h (by simp [lk1])
  | (a, b) :: r, h, hk => by
    rw [List.all_cons, Bool.and_eq_true] at h
    unfold lk1 at hk
    cases e : Nat.beq a k with
    | false => rw [e] at hk; exact lk1_of h.2 hk
    | true =>
      rw [e] at hk
      cases hk
      have := Nat.eq_of_beq_eq_true e
      subst this
      exact h.1
theorem lk2_of {k i n : Nat} {Q : Nat → Nat → Nat → Bool} : ∀ {l : List (Nat × Nat × Nat)}, l.all (fun e => Q e.1 e.2.1 e.2.2) = true → lk2 k i l = some n → Q k i n = true
  | [], _, h => absurd h (by simp [lk2])
  | (a, b, c) :: r, h, hk => by
    rw [List.all_cons, Bool.and_eq_true] at h
    unfold lk2 at hk
    cases e : (Nat.beq a k && Nat.beq b i) with
    | false => rw [e] at hk; exact lk2_of h.2 hk
    | true =>
      rw [e] at hk
      cases hk
      rw [Bool.and_eq_true] at e
      have h1 := Nat.eq_of_beq_eq_true e.1
      have h2 := Nat.eq_of_beq_eq_true e.2
      subst h1 h2
      exact h.1
theorem unB_all : unL.all (fun e => (Try.prog.underlying e.1).elim false fun d => !(aggB d)) = true := by kernel_rfl
theorem szB_all : szL.all (fun e => isO (szO Try.prog e.1) e.2) = true := by kernel_rfl
theorem foB_all : foL.all (fun e => isO (foO Try.prog e.1 e.2.1) e.2.2) = true := by kernel_rfl
theorem unT {t : Nat} (h : lk1 t unL = some 0) : ∃ d, Try.prog.underlying t = some d ∧ aggB d = false := by
  have h1 : ((Try.prog.underlying t).elim false fun d => !(aggB d)) = true := lk1_of (Q := fun a _ => (Try.prog.underlying a).elim false fun d => !(aggB d)) unB_all h
  cases e : Try.prog.underlying t with
  | none => rw [e] at h1; cases h1
  | some d => rw [e] at h1; exact ⟨d, rfl, by simpa using h1⟩
theorem szT {t n : Nat} (h : lk1 t szL = some n) : szO Try.prog t = some n := isO_eq (lk1_of (Q := fun a b => isO (szO Try.prog a) b) szB_all h)
theorem foT {s i n : Nat} (h : lk2 s i foL = some n) : foO Try.prog s i = some n := isO_eq (lk2_of (Q := fun a b c => isO (foO Try.prog a b) c) foB_all h)
end Go.Proofs.Ytlikhpfdncidkaa
namespace Go.Proofs.Ytlikhpfdncidkaa
open Go.RowKit Go.Deep

/-! ## Short forms of steps -/
section
variable {P : Program} {N : Nat} {Q : Exit → Act → World → Prop} {f : Fr} {ds : List Deferred} {w w' : World} {o : Oper} {ops : Array Oper} {rest : List Oper} {L : List Item} {d : Nat} {v : Value}
theorem w_s {y : Code} {id : Nat} {l : List Oper} (h : G N (wpList P l.toArray (Exit.then (y.wp P Q) Q) l) f ds w) : G N ((Code.seq (Code.region id l.toArray false) y).wp P Q) f ds w := g_seq (g_region h)
theorem w_e {K : Act → World → Prop} (h : G N K f ds w) : G N (wpList P ops (Exit.then K Q) []) f ds w := g_nil (g_then h)
theorem w_v (hx : Ex P N f ds o w v w') (h : G N (wpList P ops Q rest) ((d, v) :: f) ds w') (hg : o.guard = none := by rfl) (hd : o.dst = some d := by rfl) (hN : Nat.blt d N = true := by rfl) : G N (wpList P ops Q (o :: rest)) f ds w := l_of (s_val (wt0 hg) hd hN hx h)
theorem w_g {j : Nat} {b b' : Bool} {oj : Oper} {dj : Nat} (h4 : b' = b) (hx : Ex P N f ds o w v w') (h : G N (wpList P ops Q rest) ((d, v) :: f) ds w') (h0 : o.guard = some (j, b) := by rfl) (h1 : ops[j]? = some oj := by rfl) (h2 : oj.dst = some dj := by rfl) (h3 : gt f dj = some (.bool b') := by rfl) (hd : o.dst = some d := by rfl) (hN : Nat.blt d N = true := by rfl) : G N (wpList P ops Q (o :: rest)) f ds w := l_of (s_val (wt1 h0 h1 h2 h3 h4) hd hN hx h)
theorem w_m {x : Operand} (h : G N (wpList P ops Q rest) ((d, v) :: f) ds w) (hg : o.guard = none := by rfl) (hd : o.dst = some d := by rfl) (hN : Nat.blt d N = true := by rfl) (ho : o.op = .move x := by rfl) (hx : evo f x = some v := by rfl) : G N (wpList P ops Q (o :: rest)) f ds w := l_of (s_val (wt0 hg) hd hN (x_move ho hx) h)
theorem w_a {x : Operand} (h : G N (wpList P ops Q rest) ((d, v) :: f) ds w) (hg : o.guard = none := by rfl) (hd : o.dst = some d := by rfl) (hN : Nat.blt d N = true := by rfl) (ho : o.op = .assign x := by rfl) (hx : evo f x = some v := by rfl) : G N (wpList P ops Q (o :: rest)) f ds w := l_of (s_val (wt0 hg) hd hN (x_assign ho hx) h)
theorem w_f {s i n : Nat} {x : Operand} {g off : Nat} (off' : Nat) (h : G N (wpList P ops Q rest) ((d, .pointer (some ⟨g, off', none⟩)) :: f) ds w) (hg : o.guard = none := by rfl) (hd : o.dst = some d := by rfl) (hN : Nat.blt d N = true := by rfl) (ho : o.op = .fieldAddr s x i := by rfl) (hx : evo f x = some (.pointer (some ⟨g, off, none⟩)) := by rfl) (hf : foO P s i = some n := by exact foT rfl) (he : off + n = off' := by rfl) :
    G N (wpList P ops Q (o :: rest)) f ds w := l_of (s_val (wt0 hg) hd hN (x_fieldAddr ho hx hf he) h)
theorem w_1 {t : TypeId} {x : Operand} {g i : Nat} {cs : Array Value} {e : TypeId} {fr : Nat × Nat} (H : S w L) (k : Nat) (h : G N (wpList P ops Q rest) ((d, v) :: f) ds w) (hg : o.guard = none := by rfl) (hd : o.dst = some d := by rfl) (hN : Nat.blt d N = true := by rfl) (ho : o.op = .load t x := by rfl) (hx : evo f x = some (.pointer (some ⟨g, i, none⟩)) := by rfl) (hu : ∃ dd, P.underlying t = some dd ∧ aggB dd = false := by exact unT rfl)
    (hk : L[k]? = some (Ob g (.cells cs e fr)) := by rfl) (hv : cs[i]? = some v := by rfl) : G N (wpList P ops Q (o :: rest)) f ds w := by
  obtain ⟨dd, q1, q2⟩ := hu
  exact l_of (s_val (wt0 hg) hd hN (x_load1 H k ho hx q1 q2 hk hv) h)
theorem w_b {op : BinOp} {t ty : TypeId} {x y : Operand} {vx vy : Value} (h : G N (wpList P ops Q rest) ((d, v) :: f) ds w) (hg : o.guard = none := by rfl) (hd : o.dst = some d := by rfl) (hN : Nat.blt d N = true := by rfl) (ho : o.op = .binOp op t x y ty := by rfl) (hx : evo f x = some vx := by rfl) (hy : evo f y = some vy := by rfl) (hb : Bin P op t x y vx vy w v := by first | exact b_eql | exact b_lss | exact b_leq | exact b_gtr | exact b_geq) : G N (wpList P ops Q (o :: rest)) f ds w := l_of (s_val (wt0 hg) hd hN (x_bin ho hx hy hb) h)
theorem w_n {j : Nat} {b b' : Bool} {oj : Oper} {dj : Nat} (h4 : b' = !b) (h : G N (wpList P ops Q rest) ((d, undef) :: f) ds w) (h0 : o.guard = some (j, b) := by rfl) (h1 : ops[j]? = some oj := by rfl) (h2 : oj.dst = some dj := by rfl) (h3 : gt f dj = some (.bool b') := by rfl) (hd : o.dst = some d := by rfl) (hN : Nat.blt d N = true := by rfl) : G N (wpList P ops Q (o :: rest)) f ds w := l_of (s_not (wn1 h0 h1 h2 h3 h4) hd hN h)
theorem xf {s i n : Nat} {x : Operand} {g off : Nat} (off' : Nat) (ho : o.op = .fieldAddr s x i := by rfl) (hx : evo f x = some (.pointer (some ⟨g, off, none⟩)) := by rfl) (hf : foO P s i = some n := by exact foT rfl) (he : off + n = off' := by rfl) : Ex P N f ds o w (.pointer (some ⟨g, off', none⟩)) w := x_fieldAddr ho hx hf he
theorem xl {t : TypeId} {x : Operand} {g i : Nat} {cs : Array Value} {e : TypeId} {fr : Nat × Nat} (H : S w L) (k : Nat) (ho : o.op = .load t x := by rfl) (hx : evo f x = some (.pointer (some ⟨g, i, none⟩)) := by rfl) (hu : ∃ dd, P.underlying t = some dd ∧ aggB dd = false := by exact unT rfl) (hk : L[k]? = some (Ob g (.cells cs e fr)) := by rfl) (hv : cs[i]? = some v := by rfl) : Ex P N f ds o w v w := by
  obtain ⟨dd, q1, q2⟩ := hu
  exact x_load1 H k ho hx q1 q2 hk hv
theorem xm {x : Operand} (ho : o.op = .move x := by rfl) (hx : evo f x = some v := by rfl) : Ex P N f ds o w v w := x_move ho hx
theorem xa {x : Operand} (ho : o.op = .assign x := by rfl) (hx : evo f x = some v := by rfl) : Ex P N f ds o w v w := x_assign ho hx
theorem xn {x : Operand} {p : Addr} (ho : o.op = .nilCheck x := by rfl) (hx : evo f x = some (.pointer (some p)) := by rfl) : Ex P N f ds o w (.pointer (some p)) w := x_nilCheck ho hx
theorem xe {x : Operand} {i : Nat} {vs : Array Value} (ho : o.op = .extract x i := by rfl) (hx : evo f x = some (.tuple vs) := by rfl) (hv : vs[i]? = some v := by rfl) : Ex P N f ds o w v w := x_extract ho hx hv
/-- A store into a block that is told whole. -/
theorem w_st {K : Act → World → Prop} {t : TypeId} {x y : Operand} {g i : Nat} {cs : Array Value} {e : TypeId} (cs' : Array Value) (H : S w L) (k : Nat) (h : ∀ w', S w' (L.set k (Ob g (.cells cs' e (0, 0)))) → G N K f ds w') (hg : o.guard = none := by rfl) (hd : o.dst = none := by rfl) (ho : o.op = .store t x y := by rfl) (hx : evo f x = some (.pointer (some ⟨g, i, none⟩)) := by rfl)
    (hy : evo f y = some v := by rfl) (hk : L[k]? = some (Ob g (.cells cs e (0, 0))) := by rfl) (hn : szO P t = some v.cells.size := by exact szT rfl) (hl : Nat.ble (i + v.cells.size) cs.size = true := by rfl) (h1 : v.cells.toList.all (·.oneCell') = true := by rfl)
    (hc : (cs.toList.take i ++ v.cells.toList ++ cs.toList.drop (i + v.cells.size)).toArray = cs' := by rfl) : G N (StepK P ops Q o K) f ds w := s_store H k (wt0 hg) hd ho hx hy hk hn hl h1 hc h
theorem xf0 {s i n : Nat} {x : Operand} {g off : Nat} (ho : o.op = .fieldAddr s x i := by rfl) (hx : evo f x = some (.pointer (some ⟨g, off, none⟩)) := by rfl) (hf : foO P s i = some n := by exact foT rfl) : Ex P N f ds o w (.pointer (some ⟨g, off + n, none⟩)) w := x_fieldAddr ho hx hf rfl
/-- A call of which nothing stays. -/
theorem s_call0 {K : Act → World → Prop} {g : FuncId} {vs : List Value} (H : S w L) (hw : Wt ops f o) (hx : ExC P N f ds o w g vs w) (hc : Calls P g vs.toArray w (fun e w' => e = .returned v ∧ S w' [Old w no])) (hd : o.dst = some d) (hN : Nat.blt d N = true)
    (h : ∀ w', S w' L → G N K ((d, v) :: f) ds w') : G N (StepK P ops Q o K) f ds w :=
  s_call hw hx hc fun e w'' he => by
    obtain ⟨rfl, h2⟩ := he
    exact b_ret hd hN (h _ (H.absorb (new := []) h2))
end
section
variable {P : Program} {N : Nat} {ops : Array Oper} {Q : Exit → Act → World → Prop} {md : Region.Mode} {C : World → Prop} {T : List Nat} {f : Fr} {ds : List Deferred} {w : World} {listed : Array Bool} {fuel : Nat}
theorem and4 {a b c d : Bool} (h : (a && b && c && d) = true) : a = true ∧ b = true ∧ c = true ∧ d = true := by
  cases a <;> cases b <;> cases c <;> cases d <;> simp at h ⊢
theorem w_t {f0 : Fr} {d : Nat} {o : Oper} {v : Value} (i : Nat) (hi : ops[i]? = some o) (hC : C w) (hx : ∀ w, C w → Ex P N f ds o w v w)
    (h : G N (wpAnyX P md ops (PanP N f0 ds Q) C T fuel (listed.setIfInBounds i true)) ((d, v) :: f) ds w) (hg : o.guard = none := by rfl) (hd : o.dst = some d := by rfl) (hN : Nat.blt d N = true := by rfl) (h0 : gt f0 d = none := by rfl) (hB : (Region.noSelect ops && Region.free md ops listed i && (Region.ready md ops listed).contains i && waits md ops T i) = true := by kernel_rfl) : G N (wpAnyX P md ops (PanP N f0 ds Q) C T (fuel + 1) listed) f ds w :=
  a_take i hi (wt0 hg) hd hN h0 (and4 hB).1 (and4 hB).2.1 (and4 hB).2.2.1 (and4 hB).2.2.2 hC hx h
theorem w_y {C0 : World → Prop} {f0 : Fr} {d : Nat} {o : Oper} {v : Value} (i : Nat) (hi : ops[i]? = some o) (hw : Wt ops f o) (hd : o.dst = some d) (hN : Nat.blt d N = true) (h0 : gt f0 d = none) (hB : (Region.noSelect ops && Region.free md ops listed i && (Region.ready md ops listed).contains i && closedB md ops listed) = true) (hx : ∀ w, Ex P N f ds o w v w)
    (h : G N (wpAnyY P md ops (PanP N f0 ds Q) C C0 T fuel (listed.setIfInBounds i true)) ((d, v) :: f) ds w) : G N (wpAnyY P md ops (PanP N f0 ds Q) C C0 T (fuel + 1) listed) f ds w :=
  y_pure i hi hw hd hN h0 (and4 hB).1 (and4 hB).2.1 (and4 hB).2.2.1 (and4 hB).2.2.2 hx h
end
/-! Runs of simple operations -/
theorem w_r2 {A B : Prop} (b : B) (h : B → A := by intro k; (iterate 2 first | refine w_m ?_ | refine w_a ?_ | refine w_v xf0 ?_ | refine w_v xn ?_ | refine w_v xe ?_); exact k) : A := h b
theorem w_r3 {A B : Prop} (b : B) (h : B → A := by intro k; (iterate 3 first | refine w_m ?_ | refine w_a ?_ | refine w_v xf0 ?_ | refine w_v xn ?_ | refine w_v xe ?_); exact k) : A := h b
theorem w_r4 {A B : Prop} (b : B) (h : B → A := by intro k; (iterate 4 first | refine w_m ?_ | refine w_a ?_ | refine w_v xf0 ?_ | refine w_v xn ?_ | refine w_v xe ?_); exact k) : A := h b
theorem w_r5 {A B : Prop} (b : B) (h : B → A := by intro k; (iterate 5 first | refine w_m ?_ | refine w_a ?_ | refine w_v xf0 ?_ | refine w_v xn ?_ | refine w_v xe ?_); exact k) : A := h b
end Go.Proofs.Ytlikhpfdncidkaa
