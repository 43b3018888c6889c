import Derived.Test.YtlikhpfdncidkaaFf
import Derived.Laws.Externs
set_option linter.unusedSimpArgs false
set_option linter.unusedVariables false
namespace Go.Proofs.Ytlikhpfdncidkaa
open Go.RowKit

/-! ## Functions without a body; the copy of a map -/
section
variable {P : Program} {N : Nat} {Q : Exit → Act → World → Prop} {f : Fr} {ds : List Deferred} {w w' : World} {o : Oper} {ops : Array Oper} {L : List Item} {K : Act → World → Prop}
theorem x_extern {x : Operand} {g : FuncId} {fn : Func} {e : Array Value → Sem Value} {args : Array Operand} {ts : Array TypeId} {vs : List Value} {v : Value} (ho : o.op = .call { callee := .value x, args := args, argTypes := ts }) (hx : evo f x = some (.func (.func g) #[] #[])) (hv : evs f args.toList = some vs)
    (hf : P.funcs[g]? = some fn) (hname : (fn.name == "runtime.NumGoroutine") = false) (hb : fn.body.isNone = true) (hn : Extern.findNext fn = none) (he : Extern.find fn = some e) (hr : (e vs.toArray).run P w = .ok v w') : Ex P N f ds o w v w' := fun a ha => by
  unfold execOp
  have h0 : args.map a.eval = vs.toArray := ha.evalsA hv
  have h1 : (#[] : Array Value) ++ vs.toArray ++ #[] = vs.toArray := by simp
  simp only [ho, resolve, ha.eval hx, Deferred.ofValue, Sem.run_bind, Sem.run_pure, Result.andThen_ok, invoke, h0, h1, run_callFunc_extern hf hname hb hn he, hr]
/-- x.(T) at a value of that very type; T is no interface. -/
theorem x_assert1 {x : Operand} {xt t : TypeId} {v : Value} {d : TypeDesc} (ho : o.op = .typeAssert x xt t false) (hx : evo f x = some (.iface t v)) (hu : P.underlying t = some d) (hd : (match d with | .interface _ => true | _ => false) = false) : Ex P N f ds o w v w :=
  ex_of (x := Instr.typeAssert (.iface t v) xt t false) (fun a ha => by unfold execOp; simp only [ho, ha.eval hx]) (by
    unfold Instr.typeAssert
    simp only [Sem.run_bind, run_underlying hu, Result.andThen_ok]
    cases d <;> simp at hd <;> simp)
/-- A map held against nil. -/
theorem b_eqlMap {t k e : TypeId} {xo : Operand} {c : Value} {g : Nat} (h : P.underlying t = some (.map k e)) : Bin P .eql t xo (.const c) (.map (some g)) (.map none) w (.bool false) := by
  have h0 : (eqGuard .eql t xo (.const c) (.map (some g)) (.map none)).run P w = .ok () w := by unfold eqGuard; cases xo <;> rfl
  have h1 : (Op.equal t (.map (some g)) (.map none)).run P w = .ok false w := by
    have h2 : ∀ d, (Op.equalIn (d + 1) t (.map (some g)) (.map none)).run P w = .ok false w := fun d => by simp [Op.equalIn, run_underlying h]
    exact h2 9999
  unfold Bin; rw [Sem.run_bind, h0]
  simp only [Result.andThen_ok, binOp, Sem.run_bind, h1]
  rfl
variable {κ α : Type} {ek : κ → Value} {va : α → Value} {ok : κ → Prop} {M : κ → Option α}
theorem s_mapsClone {x : Operand} {fi : FuncId} {fn : Func} {args : Array Operand} {ts : Array TypeId} {t : TypeId} {g d : Nat} (H : S w L) (k0 : Nat) (hw : Wt ops f o) (hd : o.dst = some d) (hN : Nat.blt d N = true) (hk : L[k0]? = some (Mp ek va ok g M))
    (ho : o.op = .call { callee := .value x, args := args, argTypes := ts }) (hx : evo f x = some (.func (.func fi) #[] #[])) (hv : evs f args.toList = some [.iface t (.map (some g))])
    (hf : P.funcs[fi]? = some fn) (hname : (fn.name == "runtime.NumGoroutine") = false) (hb : fn.body.isNone = true) (hn : Extern.findNext fn = none) (he : Extern.find fn = some Extern.MapsClone.clone)
    (h : ∀ g' w', S w' (Mp ek va ok g' M :: L) → G N K ((d, .iface t (.map (some g'))) :: f) ds w') : G N (StepK P ops Q o K) f ds w := by
  obtain ⟨es, c, kv, hb1, hkv⟩ := H.mp hk
  have hr : (Extern.MapsClone.clone ([.iface t (.map (some g))] : List Value).toArray).run P w = .ok (.iface t (.map (some w.heap.size))) (w.alloc (.map es c)) := by
    have e : Extern.MapsClone.clone ([.iface t (.map (some g))] : List Value).toArray = (getObj g >>= fun o => match o with
        | .map entries clock => (newObj (.map entries clock) >>= fun n => pure (.iface t (.map (some n))))
        | _ => stuck "maps.clone: a map expected") := rfl
    rw [e]
    simp [MapKept.run_getObj_map hb1, newObj, Sem.run, Result.andThen]
  refine s_val hw hd hN (x_extern ho hx hv hf hname hb hn he hr) (h _ _ ?_)
  have h1 := H.alloc (.map es c)
  obtain ⟨a1, a2, a3⟩ := h1.head
  exact h1.tail.cons ⟨es, c, kv, a1, hkv⟩ a2 a3
end
end Go.Proofs.Ytlikhpfdncidkaa
