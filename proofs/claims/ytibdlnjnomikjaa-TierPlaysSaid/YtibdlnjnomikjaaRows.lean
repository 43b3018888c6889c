/-
  No cell of these rows narrows 'for every input' (looked for: loops, veiled, ifaces, maps, wideKeys, modest, calm, conditions, laid).
  DERIVED. THE GIVEN ROWS OF THIS SEAT. 4 by the template 'for every input the law returns true; each argument reads behind the call as it read before'; 0 by the template 'total and deterministic' (their statements: YtibdlnjnomikjaaTotals.lean).
  GIVEN WITH THE SEED: the statements are not yours to turn. If you find one false, say at which input.
  Laid BY PROGRAM, IN A SANDBOX (cutbox-rows.mjs): the forced cells as the released guide's own fill.sh prints them over the translation b90ffc18d0d9df79… (all of the seat's roots in one cut). By AI agents, Wed Nov 11 2026. No macro, syntax, notation, axiom, sorry.
-/
import Derived.Test.YtibdlnjnomikjaaChecked
import GoSem.Claim
import GoSem.ClaimJoined
import GoSem.ClaimMapViews
import Derived.JoinedTies
import Derived.KernelRfl
namespace Go.Proofs.Ytibdlnjnomikjaa
/- THE CELL 'sum', in the pinned program and in every row, IS THE sha256 OF THE DUMP (.gsa) THAT YtibdlnjnomikjaaProg.lean LOADS. Nothing in Lean hashes anything: it is a label: what it is worth is what the hold of that sum in a sandbox is worth. -/
noncomputable def Try.pinned : Pinned := { name := "ytibdlnjnomikjaa", sum := "b90ffc18d0d9df797097a02a407e9c836acf898f305a8eb954038a336e65eddd", checked := Try.checked }
namespace Rows
def none {H : Type} : Left H := { results := [], args := [] }

/-- 'coveylaw11.TierWhen': WHATEVER THE INPUT: true; the input reads as it did. -/
def tierWhenSpec : ChangeSpec := { name := "tierWhen", fn := fun _ => fun
  | [d1, d2, d3] => { results := [.lit (.bool true)], args := [d1, d2, d3] }
  | _ => none }
def tierWhenRow : OpenClaim := { program := "ytibdlnjnomikjaa", sum := "b90ffc18d0d9df797097a02a407e9c836acf898f305a8eb954038a336e65eddd", func := "covey/coveylaw11.TierWhen", spec := "tierWhen", inPlace := ["internal/bytealg.abigen_runtime_cmpstring"], unfollowed := true, recurses := true, apart := false }
def TierWhenSaid : Prop := tierWhenRow.holds Try.pinned (OpenSpec.ofChange tierWhenSpec)

/-- ITS FALSE NEIGHBOUR: 'it returns false'. Refute it at one input. -/
def tierWhenWrong : ChangeSpec := { name := "tierWhen", fn := fun _ => fun
  | [d1, d2, d3] => { results := [.lit (.bool false)], args := [d1, d2, d3] }
  | _ => none }
def TierWhenWrongFalsely : Prop := tierWhenRow.holds Try.pinned (OpenSpec.ofChange tierWhenWrong)

/-- 'coveylaw11.TierEvents': WHATEVER THE INPUT: true; the input reads as it did. -/
def tierEventsSpec : ChangeSpec := { name := "tierEvents", fn := fun _ => fun
  | [d1, d2, d3, d4, d5] => { results := [.lit (.bool true)], args := [d1, d2, d3, d4, d5] }
  | _ => none }
def tierEventsRow : OpenClaim := { program := "ytibdlnjnomikjaa", sum := "b90ffc18d0d9df797097a02a407e9c836acf898f305a8eb954038a336e65eddd", func := "covey/coveylaw11.TierEvents", spec := "tierEvents", inPlace := ["internal/bytealg.abigen_runtime_cmpstring"], unfollowed := true, recurses := true, apart := false }
def TierEventsSaid : Prop := tierEventsRow.holds Try.pinned (OpenSpec.ofChange tierEventsSpec)

/-- ITS FALSE NEIGHBOUR: 'it returns false'. Refute it at one input. -/
def tierEventsWrong : ChangeSpec := { name := "tierEvents", fn := fun _ => fun
  | [d1, d2, d3, d4, d5] => { results := [.lit (.bool false)], args := [d1, d2, d3, d4, d5] }
  | _ => none }
def TierEventsWrongFalsely : Prop := tierEventsRow.holds Try.pinned (OpenSpec.ofChange tierEventsWrong)

/-- 'coveylaw11.TierPlays': WHATEVER THE INPUT: true; the input reads as it did. -/
def tierPlaysSpec : ChangeSpec := { name := "tierPlays", fn := fun _ => fun
  | [d1, d2, d3, d4] => { results := [.lit (.bool true)], args := [d1, d2, d3, d4] }
  | _ => none }
def tierPlaysRow : OpenClaim := { program := "ytibdlnjnomikjaa", sum := "b90ffc18d0d9df797097a02a407e9c836acf898f305a8eb954038a336e65eddd", func := "covey/coveylaw11.TierPlays", spec := "tierPlays", inPlace := ["internal/bytealg.abigen_runtime_cmpstring"], unfollowed := true, recurses := true, apart := false }
def TierPlaysSaid : Prop := tierPlaysRow.holds Try.pinned (OpenSpec.ofChange tierPlaysSpec)

/-- ITS FALSE NEIGHBOUR: 'it returns false'. Refute it at one input. -/
def tierPlaysWrong : ChangeSpec := { name := "tierPlays", fn := fun _ => fun
  | [d1, d2, d3, d4] => { results := [.lit (.bool false)], args := [d1, d2, d3, d4] }
  | _ => none }
def TierPlaysWrongFalsely : Prop := tierPlaysRow.holds Try.pinned (OpenSpec.ofChange tierPlaysWrong)

/-- 'coveylaw11.TierOrders': WHATEVER THE INPUT: true; the input reads as it did. -/
def tierOrdersSpec : ChangeSpec := { name := "tierOrders", fn := fun _ => fun
  | [d1, d2, d3] => { results := [.lit (.bool true)], args := [d1, d2, d3] }
  | _ => none }
def tierOrdersRow : OpenClaim := { program := "ytibdlnjnomikjaa", sum := "b90ffc18d0d9df797097a02a407e9c836acf898f305a8eb954038a336e65eddd", func := "covey/coveylaw11.TierOrders", spec := "tierOrders", inPlace := ["internal/bytealg.abigen_runtime_cmpstring"], unfollowed := true, recurses := true, apart := false }
def TierOrdersSaid : Prop := tierOrdersRow.holds Try.pinned (OpenSpec.ofChange tierOrdersSpec)

/-- ITS FALSE NEIGHBOUR: 'it returns false'. Refute it at one input. -/
def tierOrdersWrong : ChangeSpec := { name := "tierOrders", fn := fun _ => fun
  | [d1, d2, d3] => { results := [.lit (.bool false)], args := [d1, d2, d3] }
  | _ => none }
def TierOrdersWrongFalsely : Prop := tierOrdersRow.holds Try.pinned (OpenSpec.ofChange tierOrdersWrong)

/- THE SECOND FORM. 'bulk': how many values and letters a reading holds, each counted each time it is reached (what is shared counts as often as it is met; a slice's spare places count too). A statement '..UptoSaid' is the law's where the arguments, and the package variables that the reading takes, are together of bulk at most 1048576: NARROWER than '..Said'. Prove '..Said' where nothing that the law and all that it calls make is longer than what came in: it says more and counts as full. Else prove '..UptoSaid'. A law counts once. -/
mutual
def uptoBulk {H : Type} : DataW H → Nat
  | .lit (.string bytes) => bytes.length + 1
  | .lit _ => 1
  | .nil => 1
  | .ptr d => uptoBulk d + 1
  | .slice elems spare => uptoBulkAll elems + uptoBulkAll spare + 1
  | .agg parts => uptoBulkAll parts + 1
  | .iface _ d => uptoBulk d + 1
  | .map entries => uptoBulkEntries entries + 1
  | .held _ => 1
def uptoBulkAll {H : Type} : List (DataW H) → Nat
  | [] => 0
  | d :: r => uptoBulk d + uptoBulkAll r
def uptoBulkEntries {H : Type} : List (Lit × DataW H) → Nat
  | [] => 0
  | x :: r => uptoBulkEntry x + uptoBulkEntries r
def uptoBulkEntry {H : Type} : Lit × DataW H → Nat
  | (.string bytes, d) => bytes.length + uptoBulk d + 1
  | (_, d) => uptoBulk d + 1
 end
def uptoSmall : (H : Type) → List (DataW H) → Bool := fun _ ds => decide (uptoBulkAll ds ≤ 1048576)
def OpenSpec.upto (s : _root_.Go.ChangeSpec) : _root_.Go.OpenSpec := { _root_.Go.OpenSpec.ofChange s with cond := some uptoSmall }

/-- 'coveylaw11.TierWhen', WHERE WHAT IT READS IS OF BULK AT MOST 1048576: true; the input reads as it did. -/
def tierWhenUptoRow : OpenClaim := { program := "ytibdlnjnomikjaa", sum := "b90ffc18d0d9df797097a02a407e9c836acf898f305a8eb954038a336e65eddd", func := "covey/coveylaw11.TierWhen", spec := "tierWhen", inPlace := ["internal/bytealg.abigen_runtime_cmpstring"], unfollowed := true, recurses := true, apart := false, narrowed := true }
def TierWhenUptoSaid : Prop := tierWhenUptoRow.holds Try.pinned (OpenSpec.upto tierWhenSpec)

/-- 'coveylaw11.TierEvents', WHERE WHAT IT READS IS OF BULK AT MOST 1048576: true; the input reads as it did. -/
def tierEventsUptoRow : OpenClaim := { program := "ytibdlnjnomikjaa", sum := "b90ffc18d0d9df797097a02a407e9c836acf898f305a8eb954038a336e65eddd", func := "covey/coveylaw11.TierEvents", spec := "tierEvents", inPlace := ["internal/bytealg.abigen_runtime_cmpstring"], unfollowed := true, recurses := true, apart := false, narrowed := true }
def TierEventsUptoSaid : Prop := tierEventsUptoRow.holds Try.pinned (OpenSpec.upto tierEventsSpec)

/-- 'coveylaw11.TierPlays', WHERE WHAT IT READS IS OF BULK AT MOST 1048576: true; the input reads as it did. -/
def tierPlaysUptoRow : OpenClaim := { program := "ytibdlnjnomikjaa", sum := "b90ffc18d0d9df797097a02a407e9c836acf898f305a8eb954038a336e65eddd", func := "covey/coveylaw11.TierPlays", spec := "tierPlays", inPlace := ["internal/bytealg.abigen_runtime_cmpstring"], unfollowed := true, recurses := true, apart := false, narrowed := true }
def TierPlaysUptoSaid : Prop := tierPlaysUptoRow.holds Try.pinned (OpenSpec.upto tierPlaysSpec)

/-- 'coveylaw11.TierOrders', WHERE WHAT IT READS IS OF BULK AT MOST 1048576: true; the input reads as it did. -/
def tierOrdersUptoRow : OpenClaim := { program := "ytibdlnjnomikjaa", sum := "b90ffc18d0d9df797097a02a407e9c836acf898f305a8eb954038a336e65eddd", func := "covey/coveylaw11.TierOrders", spec := "tierOrders", inPlace := ["internal/bytealg.abigen_runtime_cmpstring"], unfollowed := true, recurses := true, apart := false, narrowed := true }
def TierOrdersUptoSaid : Prop := tierOrdersUptoRow.holds Try.pinned (OpenSpec.upto tierOrdersSpec)

end Rows
end Go.Proofs.Ytibdlnjnomikjaa
