/-
  No cell of these rows narrows 'for every input' (looked for: loops, veiled, ifaces, maps, wideKeys, modest, calm, conditions, laid).
  DERIVED. THE GIVEN ROWS OF THIS SEAT. 2 by the template 'for every input the law returns true; each argument reads behind the call as it read before'; 0 by the template 'total and deterministic' (their statements: YtdkfkdekiljcoaaTotals.lean).
  GIVEN WITH THE SEED: the statements are not yours to turn. If you find one false, say at which input.
  Laid BY PROGRAM, IN A SANDBOX (cutbox-rows.mjs): the forced cells as the released guide's own fill.sh prints them over the translation facaab43fb2b68b9… (all of the seat's roots in one cut). By AI agents, Wed Nov 11 2026. No macro, syntax, notation, axiom, sorry.
-/
import Derived.Test.YtdkfkdekiljcoaaChecked
import GoSem.Claim
import GoSem.ClaimJoined
import GoSem.ClaimMapViews
import Derived.JoinedTies
import Derived.KernelRfl
namespace Go.Proofs.Ytdkfkdekiljcoaa
/- THE CELL 'sum', in the pinned program and in every row, IS THE sha256 OF THE DUMP (.gsa) THAT YtdkfkdekiljcoaaProg.lean LOADS. Nothing in Lean hashes anything: it is a label: what it is worth is what the hold of that sum in a sandbox is worth. -/
noncomputable def Try.pinned : Pinned := { name := "ytdkfkdekiljcoaa", sum := "facaab43fb2b68b98f6e475131e3c0fa09db017c600df405f29ec3cc3bc3e9a2", checked := Try.checked }
namespace Rows
def none {H : Type} : Left H := { results := [], args := [] }

/-- 'coveylaw21.FastAnswered': WHATEVER THE INPUT: true; the input reads as it did. -/
def fastAnsweredSpec : ChangeSpec := { name := "fastAnswered", fn := fun _ => fun
  | [d1, d2] => { results := [.lit (.bool true)], args := [d1, d2] }
  | _ => none }
def fastAnsweredRow : OpenClaim := { program := "ytdkfkdekiljcoaa", sum := "facaab43fb2b68b98f6e475131e3c0fa09db017c600df405f29ec3cc3bc3e9a2", func := "covey/coveylaw21.FastAnswered", spec := "fastAnswered", unfollowed := true, recurses := true, plainKeys := false, apart := false }
def FastAnsweredSaid : Prop := fastAnsweredRow.holds Try.pinned (OpenSpec.ofChange fastAnsweredSpec)

/-- ITS FALSE NEIGHBOUR: 'it returns false'. Refute it at one input. -/
def fastAnsweredWrong : ChangeSpec := { name := "fastAnswered", fn := fun _ => fun
  | [d1, d2] => { results := [.lit (.bool false)], args := [d1, d2] }
  | _ => none }
def FastAnsweredWrongFalsely : Prop := fastAnsweredRow.holds Try.pinned (OpenSpec.ofChange fastAnsweredWrong)

/-- 'coveylaw21.FastSides': WHATEVER THE INPUT: true; the input reads as it did. -/
def fastSidesSpec : ChangeSpec := { name := "fastSides", fn := fun _ => fun
  | [d1, d2] => { results := [.lit (.bool true)], args := [d1, d2] }
  | _ => none }
def fastSidesRow : OpenClaim := { program := "ytdkfkdekiljcoaa", sum := "facaab43fb2b68b98f6e475131e3c0fa09db017c600df405f29ec3cc3bc3e9a2", func := "covey/coveylaw21.FastSides", spec := "fastSides", unfollowed := true, recurses := true, plainKeys := false, apart := false }
def FastSidesSaid : Prop := fastSidesRow.holds Try.pinned (OpenSpec.ofChange fastSidesSpec)

/-- ITS FALSE NEIGHBOUR: 'it returns false'. Refute it at one input. -/
def fastSidesWrong : ChangeSpec := { name := "fastSides", fn := fun _ => fun
  | [d1, d2] => { results := [.lit (.bool false)], args := [d1, d2] }
  | _ => none }
def FastSidesWrongFalsely : Prop := fastSidesRow.holds Try.pinned (OpenSpec.ofChange fastSidesWrong)

/- THE SECOND FORM. 'bulk': how many values and letters a reading holds, each counted each time it is reached (what is shared counts as often as it is met; a slice's spare places count too). A statement '..UptoSaid' is the law's where the arguments, and the package variables that the reading takes, are together of bulk at most 1048576: NARROWER than '..Said'. Prove '..Said' where nothing that the law and all that it calls make is longer than what came in: it says more and counts as full. Else prove '..UptoSaid'. A law counts once. -/
mutual
def uptoBulk {H : Type} : DataW H → Nat
  | .lit (.string bytes) => bytes.length + 1
  | .lit _ => 1
  | .nil => 1
  | .ptr d => uptoBulk d + 1
  | .slice elems spare => uptoBulkAll elems + uptoBulkAll spare + 1
  | .agg parts => uptoBulkAll parts + 1
  | .iface _ d => uptoBulk d + 1
  | .map entries => uptoBulkEntries entries + 1
  | .held _ => 1
def uptoBulkAll {H : Type} : List (DataW H) → Nat
  | [] => 0
  | d :: r => uptoBulk d + uptoBulkAll r
def uptoBulkEntries {H : Type} : List (Lit × DataW H) → Nat
  | [] => 0
  | x :: r => uptoBulkEntry x + uptoBulkEntries r
def uptoBulkEntry {H : Type} : Lit × DataW H → Nat
  | (.string bytes, d) => bytes.length + uptoBulk d + 1
  | (_, d) => uptoBulk d + 1
 end
def uptoSmall : (H : Type) → List (DataW H) → Bool := fun _ ds => decide (uptoBulkAll ds ≤ 1048576)
def OpenSpec.upto (s : _root_.Go.ChangeSpec) : _root_.Go.OpenSpec := { _root_.Go.OpenSpec.ofChange s with cond := some uptoSmall }

/-- 'coveylaw21.FastAnswered', WHERE WHAT IT READS IS OF BULK AT MOST 1048576: true; the input reads as it did. -/
def fastAnsweredUptoRow : OpenClaim := { program := "ytdkfkdekiljcoaa", sum := "facaab43fb2b68b98f6e475131e3c0fa09db017c600df405f29ec3cc3bc3e9a2", func := "covey/coveylaw21.FastAnswered", spec := "fastAnswered", unfollowed := true, recurses := true, plainKeys := false, apart := false, narrowed := true }
def FastAnsweredUptoSaid : Prop := fastAnsweredUptoRow.holds Try.pinned (OpenSpec.upto fastAnsweredSpec)

/-- 'coveylaw21.FastSides', WHERE WHAT IT READS IS OF BULK AT MOST 1048576: true; the input reads as it did. -/
def fastSidesUptoRow : OpenClaim := { program := "ytdkfkdekiljcoaa", sum := "facaab43fb2b68b98f6e475131e3c0fa09db017c600df405f29ec3cc3bc3e9a2", func := "covey/coveylaw21.FastSides", spec := "fastSides", unfollowed := true, recurses := true, plainKeys := false, apart := false, narrowed := true }
def FastSidesUptoSaid : Prop := fastSidesUptoRow.holds Try.pinned (OpenSpec.upto fastSidesSpec)

end Rows
end Go.Proofs.Ytdkfkdekiljcoaa
