import Derived.Test.YtibdlnjnomikjaaFf
import Derived.Laws.Externs
import Derived.LoopN
set_option linter.unusedSimpArgs false
set_option linter.unusedVariables false
namespace Go.Proofs.Ytibdlnjnomikjaa
open Go.RowKit

/-! ## Functions without a body; the copy of a map -/
section
variable {P : Program} {N : Nat} {Q : Exit → Act → World → Prop} {f : Fr} {ds : List Deferred} {w w' : World} {o : Oper} {ops : Array Oper} {L : List Item} {K : Act → World → Prop}
theorem x_extern {x : Operand} {g : FuncId} {fn : Func} {e : Array Value → Sem Value} {args : Array Operand} {ts : Array TypeId} {vs : List Value} {v : Value} (ho : o.op = .call { callee := .value x, args := args, argTypes := ts }) (hx : evo f x = some (.func (.func g) #[] #[])) (hv : evs f args.toList = some vs)
    (hf : P.funcs[g]? = some fn) (hname : (fn.name == "runtime.NumGoroutine") = false) (hb : fn.body.isNone = true) (hn : Extern.findNext fn = none) (he : Extern.find fn = some e) (hr : (e vs.toArray).run P w = .ok v w') : Ex P N f ds o w v w' := fun a ha => by
  unfold execOp
  have h0 : args.map a.eval = vs.toArray := ha.evalsA hv
  have h1 : (#[] : Array Value) ++ vs.toArray ++ #[] = vs.toArray := by simp
  simp only [ho, resolve, ha.eval hx, Deferred.ofValue, Sem.run_bind, Sem.run_pure, Result.andThen_ok, invoke, h0, h1, run_callFunc_extern hf hname hb hn he, hr]
variable {κ α : Type} {ek : κ → Value} {va : α → Value} {ok : κ → Prop} {M : κ → Option α}
end
end Go.Proofs.Ytibdlnjnomikjaa
namespace Go.Proofs.Ytibdlnjnomikjaa
open Go.RowKit

section
variable {P : Program} {N : Nat} {f : Fr} {ds : List Deferred} {w : World} {ops : Array Oper} {Q : Exit → Act → World → Prop} {K : Act → World → Prop} {o : Oper} {L : List Item}
end
theorem Reads.take {w : World} {p : Option Addr} {n c size : Nat} {xs : List Value} (hr : Reads w p n c size xs) (k : Nat) (hk : k ≤ n) : Reads w p k c size (xs.take (k * size)) := by
  obtain ⟨k1, k2, k3⟩ := hr
  have hx : k * size ≤ n * size := Nat.mul_le_mul_right _ hk
  refine ⟨by rw [List.length_take, k1]; omega, by omega, fun h0 => ?_⟩
  obtain ⟨a, ha, hc⟩ := k3 (by omega)
  refine ⟨a, ha, fun j u hu => hc j u ?_⟩
  have hj := (List.getElem?_eq_some_iff.1 hu).1
  rw [List.length_take] at hj
  rwa [List.getElem?_take_of_lt (by omega)] at hu
/-- A cut from the front, with its own end as capacity. -/
def clipP (p : Option Addr) (k size : Nat) : Option Addr := if k = 0 then p else p.map fun q => q.add (0 * size)
end Go.Proofs.Ytibdlnjnomikjaa
namespace Go.Proofs.Ytibdlnjnomikjaa
open Go.RowKit
open Go.ChangeMaps (setBlock)

/-! ## Loops round by round; clear; delete -/
section
variable {P : Program} {N : Nat} {Q : Exit → Act → World → Prop} {f : Fr} {ds : List Deferred} {w w' : World} {o : Oper} {ops : Array Oper} {L : List Item} {K : Act → World → Prop}
theorem g_rounds {c : Code} (n : Nat) (h : G N (Code.rounds P c Q n) f ds w) : G N ((Code.loop c).wp P Q) f ds w := fun a ha => wp_loop_rounds n (h a ha)
theorem g_roundU {c : Code} {n : Nat} (h : G N (c.wp P (Exit.then (Code.rounds P c Q n) Q)) f ds w) : G N (Code.rounds P c Q (n + 1)) f ds w := h
end
section
variable {κ α : Type} {ek : κ → Value} {va : α → Value} {ok : κ → Prop}
def delM {κ α : Type} [DecidableEq κ] (M : κ → Option α) (x : κ) : κ → Option α := fun y => if y = x then none else M y
variable {P : Program} {N : Nat} {Q : Exit → Act → World → Prop} {f : Fr} {ds : List Deferred} {w w' : World} {o : Oper} {ops : Array Oper} {L : List Item} {K : Act → World → Prop} {M : κ → Option α}
end
end Go.Proofs.Ytibdlnjnomikjaa
namespace Go.Proofs.Ytibdlnjnomikjaa
open Go.RowKit Go.Deep

/-! ## Bytes of a text as a block of one's own, and stores into it -/
section
variable {P : Program} {N : Nat} {Q : Exit → Act → World → Prop} {f : Fr} {ds : List Deferred} {w w' : World} {o : Oper} {ops : Array Oper} {L : List Item} {K : Act → World → Prop}
/-- A store of one cell into a row of one's own. -/
theorem s_storeWC {t e size n c j : Nat} {x y : Operand} {p : Option Addr} {xs : List Value} {v : Value} (H : S w L) (k : Nat) (hw : Wt ops f o) (hd : o.dst = none) (ho : o.op = .store t x y) (hx : evo f x = some (.pointer (p.map fun q => q.add j)))
    (hy : evo f y = some v) (hk : L[k]? = some (Rw e size p n c xs)) (hn : szO P t = some 1) (hv : v.cells = #[v]) (h1 : v.oneCell' = true) (hj : j < n * size)
    (h : ∀ w', S w' (L.set k (Rw e size p n c (xs.set j v))) → G N K f ds w') : G N (StepK P ops Q o K) f ds w := by
  obtain ⟨k1, k2, k3, k4⟩ := H.rw hk
  rcases k4 with ⟨_, h0, _⟩ | ⟨g, off, cur, rfl, hg, hcs, hc⟩
  · subst h0; omega
  · have hns : n * size ≤ c * size := Nat.mul_le_mul_right _ k2
    have hr := run_storeR (P := P) (t := t) (g := g) (i := off + j) (v := v) hg (by rw [hv]; exact hn) (by rw [hv]; show off + j + 1 ≤ _; omega) (by rw [hv]; simpa using h1)
    rw [hv] at hr
    have hcur : (cur.toList.take (off + j) ++ (#[v] : Array Value).toList ++ cur.toList.drop (off + j + (#[v] : Array Value).size)).toArray = cur.setIfInBounds (off + j) v := by
      apply Array.ext'
      simp only [Array.toList_setIfInBounds, List.size_toArray, List.length_cons, List.length_nil]
      rw [List.set_eq_take_append_cons_drop, if_pos (by rw [Array.length_toList]; omega)]
      simp
    rw [hcur] at hr
    rw [Option.map_some, add_lit'] at hx
    have hlt : g < w.heap.size := (Array.getElem?_eq_some_iff.1 hg).1
    refine s_unit hw hd (exu_store ho hx hy hr) (h _ (H.turn hk ((same_setRow w g _).less fun b hb he => hb.2 ⟨off, by rw [he]⟩) ⟨by rw [List.length_set]; exact k1, k2, k3, .inr ⟨g, off, _, rfl, by simp only [World.setRow, Array.getElem?_modify, if_true, hg, Option.map_some]; rfl, by rw [Array.size_setIfInBounds]; exact hcs, fun i u hu => ?_⟩⟩ (fun b hb => ⟨.inl hb, Nat.lt_of_lt_of_le (H.lt hk hb) (by simp [World.setRow])⟩)))
    rw [List.getElem?_set] at hu
    rw [Array.getElem?_setIfInBounds]
    by_cases hi : j = i
    · subst hi
      rw [if_pos rfl] at hu
      rw [if_pos rfl, if_pos (by omega)]
      split at hu
      · exact hu
      · cases hu
    · rw [if_neg hi] at hu
      rw [if_neg (by omega)]
      exact hc i u hu
end
end Go.Proofs.Ytibdlnjnomikjaa
