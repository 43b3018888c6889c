/-
  No cell of these rows narrows 'for every input' (looked for: loops, veiled, ifaces, maps, wideKeys, modest, calm, conditions, laid).
  DERIVED. THE GIVEN ROWS OF THIS SEAT. 5 by the template 'for every input the law returns true; each argument reads behind the call as it read before'; 0 by the template 'total and deterministic' (their statements: YtlikhpfdncidkaaTotals.lean).
  GIVEN WITH THE SEED: the statements are not yours to turn. If you find one false, say at which input.
  Laid BY PROGRAM, IN A SANDBOX (cutbox-rows.mjs): the forced cells as the released guide's own fill.sh prints them over the translation 464430f9ccbbe954… (all of the seat's roots in one cut). By AI agents, Wed Nov 11 2026. No macro, syntax, notation, axiom, sorry.
-/
import Derived.Test.YtlikhpfdncidkaaChecked
import GoSem.Claim
import GoSem.ClaimJoined
import GoSem.ClaimMapViews
import Derived.JoinedTies
import Derived.KernelRfl
namespace Go.Proofs.Ytlikhpfdncidkaa
/- THE CELL 'sum', in the pinned program and in every row, IS THE sha256 OF THE DUMP (.gsa) THAT YtlikhpfdncidkaaProg.lean LOADS. Nothing in Lean hashes anything: it is a label: what it is worth is what the hold of that sum in a sandbox is worth. -/
noncomputable def Try.pinned : Pinned := { name := "ytlikhpfdncidkaa", sum := "464430f9ccbbe954521998154225e6c86a9b91d724c683790f3d9e426f0105de", checked := Try.checked }
namespace Rows
def none {H : Type} : Left H := { results := [], args := [] }

/-- 'coveylaw34.BlameNever': WHATEVER THE INPUT: true; the input reads as it did. -/
def blameNeverSpec : ChangeSpec := { name := "blameNever", fn := fun _ => fun
  | [d1, d2] => { results := [.lit (.bool true)], args := [d1, d2] }
  | _ => none }
def blameNeverRow : OpenClaim := { program := "ytlikhpfdncidkaa", sum := "464430f9ccbbe954521998154225e6c86a9b91d724c683790f3d9e426f0105de", func := "covey/coveylaw34.BlameNever", spec := "blameNever", unfollowed := true, recurses := true, plainKeys := false, apart := false }
def BlameNeverSaid : Prop := blameNeverRow.holds Try.pinned (OpenSpec.ofChange blameNeverSpec)

/-- ITS FALSE NEIGHBOUR: 'it returns false'. Refute it at one input. -/
def blameNeverWrong : ChangeSpec := { name := "blameNever", fn := fun _ => fun
  | [d1, d2] => { results := [.lit (.bool false)], args := [d1, d2] }
  | _ => none }
def BlameNeverWrongFalsely : Prop := blameNeverRow.holds Try.pinned (OpenSpec.ofChange blameNeverWrong)

/-- 'coveylaw34.BlameAlone': WHATEVER THE INPUT: true; the input reads as it did. -/
def blameAloneSpec : ChangeSpec := { name := "blameAlone", fn := fun _ => fun
  | [d1, d2, d3, d4] => { results := [.lit (.bool true)], args := [d1, d2, d3, d4] }
  | _ => none }
def blameAloneRow : OpenClaim := { program := "ytlikhpfdncidkaa", sum := "464430f9ccbbe954521998154225e6c86a9b91d724c683790f3d9e426f0105de", func := "covey/coveylaw34.BlameAlone", spec := "blameAlone", unfollowed := true, recurses := true, plainKeys := false, apart := false }
def BlameAloneSaid : Prop := blameAloneRow.holds Try.pinned (OpenSpec.ofChange blameAloneSpec)

/-- ITS FALSE NEIGHBOUR: 'it returns false'. Refute it at one input. -/
def blameAloneWrong : ChangeSpec := { name := "blameAlone", fn := fun _ => fun
  | [d1, d2, d3, d4] => { results := [.lit (.bool false)], args := [d1, d2, d3, d4] }
  | _ => none }
def BlameAloneWrongFalsely : Prop := blameAloneRow.holds Try.pinned (OpenSpec.ofChange blameAloneWrong)

/-- 'coveylaw34.BlameRuns': WHATEVER THE INPUT: true; the input reads as it did. -/
def blameRunsSpec : ChangeSpec := { name := "blameRuns", fn := fun _ => fun
  | [d] => { results := [.lit (.bool true)], args := [d] }
  | _ => none }
def blameRunsRow : OpenClaim := { program := "ytlikhpfdncidkaa", sum := "464430f9ccbbe954521998154225e6c86a9b91d724c683790f3d9e426f0105de", func := "covey/coveylaw34.BlameRuns", spec := "blameRuns", unfollowed := true, recurses := true, plainKeys := false, apart := false }
def BlameRunsSaid : Prop := blameRunsRow.holds Try.pinned (OpenSpec.ofChange blameRunsSpec)

/-- ITS FALSE NEIGHBOUR: 'it returns false'. Refute it at one input. -/
def blameRunsWrong : ChangeSpec := { name := "blameRuns", fn := fun _ => fun
  | [d] => { results := [.lit (.bool false)], args := [d] }
  | _ => none }
def BlameRunsWrongFalsely : Prop := blameRunsRow.holds Try.pinned (OpenSpec.ofChange blameRunsWrong)

/-- 'coveylaw34.BlameCopies': WHATEVER THE INPUT: true; the input reads as it did. -/
def blameCopiesSpec : ChangeSpec := { name := "blameCopies", fn := fun _ => fun
  | [d1, d2] => { results := [.lit (.bool true)], args := [d1, d2] }
  | _ => none }
def blameCopiesRow : OpenClaim := { program := "ytlikhpfdncidkaa", sum := "464430f9ccbbe954521998154225e6c86a9b91d724c683790f3d9e426f0105de", func := "covey/coveylaw34.BlameCopies", spec := "blameCopies", inPlace := ["maps.clone"], unfollowed := true, recurses := true, plainKeys := false, apart := false }
def BlameCopiesSaid : Prop := blameCopiesRow.holds Try.pinned (OpenSpec.ofChange blameCopiesSpec)

/-- ITS FALSE NEIGHBOUR: 'it returns false'. Refute it at one input. -/
def blameCopiesWrong : ChangeSpec := { name := "blameCopies", fn := fun _ => fun
  | [d1, d2] => { results := [.lit (.bool false)], args := [d1, d2] }
  | _ => none }
def BlameCopiesWrongFalsely : Prop := blameCopiesRow.holds Try.pinned (OpenSpec.ofChange blameCopiesWrong)

/-- 'coveylaw34.BlameNil': WHATEVER THE INPUT: true; the input reads as it did. -/
def blameNilSpec : ChangeSpec := { name := "blameNil", fn := fun _ => fun
  | [d1, d2, d3] => { results := [.lit (.bool true)], args := [d1, d2, d3] }
  | _ => none }
def blameNilRow : OpenClaim := { program := "ytlikhpfdncidkaa", sum := "464430f9ccbbe954521998154225e6c86a9b91d724c683790f3d9e426f0105de", func := "covey/coveylaw34.BlameNil", spec := "blameNil", inPlace := ["maps.clone"], unfollowed := true, recurses := true, plainKeys := false, apart := false }
def BlameNilSaid : Prop := blameNilRow.holds Try.pinned (OpenSpec.ofChange blameNilSpec)

/-- ITS FALSE NEIGHBOUR: 'it returns false'. Refute it at one input. -/
def blameNilWrong : ChangeSpec := { name := "blameNil", fn := fun _ => fun
  | [d1, d2, d3] => { results := [.lit (.bool false)], args := [d1, d2, d3] }
  | _ => none }
def BlameNilWrongFalsely : Prop := blameNilRow.holds Try.pinned (OpenSpec.ofChange blameNilWrong)

/- THE SECOND FORM. 'bulk': how many values and letters a reading holds, each counted each time it is reached (what is shared counts as often as it is met; a slice's spare places count too). A statement '..UptoSaid' is the law's where the arguments, and the package variables that the reading takes, are together of bulk at most 1048576: NARROWER than '..Said'. Prove '..Said' where nothing that the law and all that it calls make is longer than what came in: it says more and counts as full. Else prove '..UptoSaid'. A law counts once. -/
mutual
def uptoBulk {H : Type} : DataW H → Nat
  | .lit (.string bytes) => bytes.length + 1
  | .lit _ => 1
  | .nil => 1
  | .ptr d => uptoBulk d + 1
  | .slice elems spare => uptoBulkAll elems + uptoBulkAll spare + 1
  | .agg parts => uptoBulkAll parts + 1
  | .iface _ d => uptoBulk d + 1
  | .map entries => uptoBulkEntries entries + 1
  | .held _ => 1
def uptoBulkAll {H : Type} : List (DataW H) → Nat
  | [] => 0
  | d :: r => uptoBulk d + uptoBulkAll r
def uptoBulkEntries {H : Type} : List (Lit × DataW H) → Nat
  | [] => 0
  | x :: r => uptoBulkEntry x + uptoBulkEntries r
def uptoBulkEntry {H : Type} : Lit × DataW H → Nat
  | (.string bytes, d) => bytes.length + uptoBulk d + 1
  | (_, d) => uptoBulk d + 1
 end
def uptoSmall : (H : Type) → List (DataW H) → Bool := fun _ ds => decide (uptoBulkAll ds ≤ 1048576)
def OpenSpec.upto (s : _root_.Go.ChangeSpec) : _root_.Go.OpenSpec := { _root_.Go.OpenSpec.ofChange s with cond := some uptoSmall }

/-- 'coveylaw34.BlameNever', WHERE WHAT IT READS IS OF BULK AT MOST 1048576: true; the input reads as it did. -/
def blameNeverUptoRow : OpenClaim := { program := "ytlikhpfdncidkaa", sum := "464430f9ccbbe954521998154225e6c86a9b91d724c683790f3d9e426f0105de", func := "covey/coveylaw34.BlameNever", spec := "blameNever", unfollowed := true, recurses := true, plainKeys := false, apart := false, narrowed := true }
def BlameNeverUptoSaid : Prop := blameNeverUptoRow.holds Try.pinned (OpenSpec.upto blameNeverSpec)

/-- 'coveylaw34.BlameAlone', WHERE WHAT IT READS IS OF BULK AT MOST 1048576: true; the input reads as it did. -/
def blameAloneUptoRow : OpenClaim := { program := "ytlikhpfdncidkaa", sum := "464430f9ccbbe954521998154225e6c86a9b91d724c683790f3d9e426f0105de", func := "covey/coveylaw34.BlameAlone", spec := "blameAlone", unfollowed := true, recurses := true, plainKeys := false, apart := false, narrowed := true }
def BlameAloneUptoSaid : Prop := blameAloneUptoRow.holds Try.pinned (OpenSpec.upto blameAloneSpec)

/-- 'coveylaw34.BlameRuns', WHERE WHAT IT READS IS OF BULK AT MOST 1048576: true; the input reads as it did. -/
def blameRunsUptoRow : OpenClaim := { program := "ytlikhpfdncidkaa", sum := "464430f9ccbbe954521998154225e6c86a9b91d724c683790f3d9e426f0105de", func := "covey/coveylaw34.BlameRuns", spec := "blameRuns", unfollowed := true, recurses := true, plainKeys := false, apart := false, narrowed := true }
def BlameRunsUptoSaid : Prop := blameRunsUptoRow.holds Try.pinned (OpenSpec.upto blameRunsSpec)

/-- 'coveylaw34.BlameCopies', WHERE WHAT IT READS IS OF BULK AT MOST 1048576: true; the input reads as it did. -/
def blameCopiesUptoRow : OpenClaim := { program := "ytlikhpfdncidkaa", sum := "464430f9ccbbe954521998154225e6c86a9b91d724c683790f3d9e426f0105de", func := "covey/coveylaw34.BlameCopies", spec := "blameCopies", inPlace := ["maps.clone"], unfollowed := true, recurses := true, plainKeys := false, apart := false, narrowed := true }
def BlameCopiesUptoSaid : Prop := blameCopiesUptoRow.holds Try.pinned (OpenSpec.upto blameCopiesSpec)

/-- 'coveylaw34.BlameNil', WHERE WHAT IT READS IS OF BULK AT MOST 1048576: true; the input reads as it did. -/
def blameNilUptoRow : OpenClaim := { program := "ytlikhpfdncidkaa", sum := "464430f9ccbbe954521998154225e6c86a9b91d724c683790f3d9e426f0105de", func := "covey/coveylaw34.BlameNil", spec := "blameNil", inPlace := ["maps.clone"], unfollowed := true, recurses := true, plainKeys := false, apart := false, narrowed := true }
def BlameNilUptoSaid : Prop := blameNilUptoRow.holds Try.pinned (OpenSpec.upto blameNilSpec)

end Rows
end Go.Proofs.Ytlikhpfdncidkaa
