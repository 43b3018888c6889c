/-
  No cell of these rows narrows 'for every input' (looked for: loops, veiled, ifaces, maps, wideKeys, modest, calm, conditions, laid).
  DERIVED. THE GIVEN ROWS OF THIS SEAT. 3 by the template 'for every input the law returns true; each argument reads behind the call as it read before'; 0 by the template 'total and deterministic' (their statements: YtpbjekdjebjbkaaGreatTotals.lean).
  GIVEN WITH THE SEED: the statements are not yours to turn. If you find one false, say at which input.
  Laid BY PROGRAM, IN A SANDBOX (cutbox-rows.mjs): the forced cells as the released guide's own fill.sh prints them over the translation badcdd5fc06386e1… (all of the seat's roots in one cut). By AI agents, Wed Nov 11 2026. No macro, syntax, notation, axiom, sorry.
-/
import Derived.Test.YtpbjekdjebjbkaaGreatChecked
import GoSem.Claim
import GoSem.ClaimJoined
import GoSem.ClaimMapViews
import Derived.JoinedTies
import Derived.KernelRfl
namespace Go.Proofs.YtpbjekdjebjbkaaGreat
/- THE CELL 'sum', in the pinned program and in every row, IS THE sha256 OF THE DUMP (.gsa) THAT YtpbjekdjebjbkaaGreatProg.lean LOADS. Nothing in Lean hashes anything: it is a label: what it is worth is what the hold of that sum in a sandbox is worth. -/
noncomputable def Tryz.pinned : Pinned := { name := "ytpbjekdjebjbkaagreat", sum := "badcdd5fc06386e18e59640e1e505383f86a6dce2372fbb8e1410d131728f2aa", checked := Tryz.checked }
namespace Rows
def none {H : Type} : Left H := { results := [], args := [] }

/-- 'coveylaw32.TradeFree': WHATEVER THE INPUT: true; the input reads as it did. -/
def tradeFreeSpec : ChangeSpec := { name := "tradeFree", fn := fun _ => fun
  | [d1, d2, d3] => { results := [.lit (.bool true)], args := [d1, d2, d3] }
  | _ => none }
def tradeFreeRow : OpenClaim := { program := "ytpbjekdjebjbkaagreat", sum := "badcdd5fc06386e18e59640e1e505383f86a6dce2372fbb8e1410d131728f2aa", func := "covey/coveylaw32.TradeFree", spec := "tradeFree", unfollowed := true, recurses := true, apart := false }
def TradeFreeSaid : Prop := tradeFreeRow.holds Tryz.pinned (OpenSpec.ofChange tradeFreeSpec)

/-- ITS FALSE NEIGHBOUR: 'it returns false'. Refute it at one input. -/
def tradeFreeWrong : ChangeSpec := { name := "tradeFree", fn := fun _ => fun
  | [d1, d2, d3] => { results := [.lit (.bool false)], args := [d1, d2, d3] }
  | _ => none }
def TradeFreeWrongFalsely : Prop := tradeFreeRow.holds Tryz.pinned (OpenSpec.ofChange tradeFreeWrong)

/-- 'coveylaw32.TradeSums': WHATEVER THE INPUT: true; the input reads as it did. -/
def tradeSumsSpec : ChangeSpec := { name := "tradeSums", fn := fun _ => fun
  | [d1, d2, d3] => { results := [.lit (.bool true)], args := [d1, d2, d3] }
  | _ => none }
def tradeSumsRow : OpenClaim := { program := "ytpbjekdjebjbkaagreat", sum := "badcdd5fc06386e18e59640e1e505383f86a6dce2372fbb8e1410d131728f2aa", func := "covey/coveylaw32.TradeSums", spec := "tradeSums", unfollowed := true, recurses := true, apart := false }
def TradeSumsSaid : Prop := tradeSumsRow.holds Tryz.pinned (OpenSpec.ofChange tradeSumsSpec)

/-- ITS FALSE NEIGHBOUR: 'it returns false'. Refute it at one input. -/
def tradeSumsWrong : ChangeSpec := { name := "tradeSums", fn := fun _ => fun
  | [d1, d2, d3] => { results := [.lit (.bool false)], args := [d1, d2, d3] }
  | _ => none }
def TradeSumsWrongFalsely : Prop := tradeSumsRow.holds Tryz.pinned (OpenSpec.ofChange tradeSumsWrong)

/-- 'coveylaw32.TradeCopies': WHATEVER THE INPUT: true; the input reads as it did. -/
def tradeCopiesSpec : ChangeSpec := { name := "tradeCopies", fn := fun _ => fun
  | [d1, d2, d3, d4] => { results := [.lit (.bool true)], args := [d1, d2, d3, d4] }
  | _ => none }
def tradeCopiesRow : OpenClaim := { program := "ytpbjekdjebjbkaagreat", sum := "badcdd5fc06386e18e59640e1e505383f86a6dce2372fbb8e1410d131728f2aa", func := "covey/coveylaw32.TradeCopies", spec := "tradeCopies", unfollowed := true, recurses := true, apart := false }
def TradeCopiesSaid : Prop := tradeCopiesRow.holds Tryz.pinned (OpenSpec.ofChange tradeCopiesSpec)

/-- ITS FALSE NEIGHBOUR: 'it returns false'. Refute it at one input. -/
def tradeCopiesWrong : ChangeSpec := { name := "tradeCopies", fn := fun _ => fun
  | [d1, d2, d3, d4] => { results := [.lit (.bool false)], args := [d1, d2, d3, d4] }
  | _ => none }
def TradeCopiesWrongFalsely : Prop := tradeCopiesRow.holds Tryz.pinned (OpenSpec.ofChange tradeCopiesWrong)

/- THE SECOND FORM. 'bulk': how many values and letters a reading holds, each counted each time it is reached (what is shared counts as often as it is met; a slice's spare places count too). A statement '..UptoSaid' is the law's where the arguments, and the package variables that the reading takes, are together of bulk at most 1048576: NARROWER than '..Said'. Prove '..Said' where nothing that the law and all that it calls make is longer than what came in: it says more and counts as full. Else prove '..UptoSaid'. A law counts once. -/
mutual
def uptoBulk {H : Type} : DataW H → Nat
  | .lit (.string bytes) => bytes.length + 1
  | .lit _ => 1
  | .nil => 1
  | .ptr d => uptoBulk d + 1
  | .slice elems spare => uptoBulkAll elems + uptoBulkAll spare + 1
  | .agg parts => uptoBulkAll parts + 1
  | .iface _ d => uptoBulk d + 1
  | .map entries => uptoBulkEntries entries + 1
  | .held _ => 1
def uptoBulkAll {H : Type} : List (DataW H) → Nat
  | [] => 0
  | d :: r => uptoBulk d + uptoBulkAll r
def uptoBulkEntries {H : Type} : List (Lit × DataW H) → Nat
  | [] => 0
  | x :: r => uptoBulkEntry x + uptoBulkEntries r
def uptoBulkEntry {H : Type} : Lit × DataW H → Nat
  | (.string bytes, d) => bytes.length + uptoBulk d + 1
  | (_, d) => uptoBulk d + 1
 end
def uptoSmall : (H : Type) → List (DataW H) → Bool := fun _ ds => decide (uptoBulkAll ds ≤ 1048576)
def OpenSpec.upto (s : _root_.Go.ChangeSpec) : _root_.Go.OpenSpec := { _root_.Go.OpenSpec.ofChange s with cond := some uptoSmall }

/-- 'coveylaw32.TradeFree', WHERE WHAT IT READS IS OF BULK AT MOST 1048576: true; the input reads as it did. -/
def tradeFreeUptoRow : OpenClaim := { program := "ytpbjekdjebjbkaagreat", sum := "badcdd5fc06386e18e59640e1e505383f86a6dce2372fbb8e1410d131728f2aa", func := "covey/coveylaw32.TradeFree", spec := "tradeFree", unfollowed := true, recurses := true, apart := false, narrowed := true }
def TradeFreeUptoSaid : Prop := tradeFreeUptoRow.holds Tryz.pinned (OpenSpec.upto tradeFreeSpec)

/-- 'coveylaw32.TradeSums', WHERE WHAT IT READS IS OF BULK AT MOST 1048576: true; the input reads as it did. -/
def tradeSumsUptoRow : OpenClaim := { program := "ytpbjekdjebjbkaagreat", sum := "badcdd5fc06386e18e59640e1e505383f86a6dce2372fbb8e1410d131728f2aa", func := "covey/coveylaw32.TradeSums", spec := "tradeSums", unfollowed := true, recurses := true, apart := false, narrowed := true }
def TradeSumsUptoSaid : Prop := tradeSumsUptoRow.holds Tryz.pinned (OpenSpec.upto tradeSumsSpec)

/-- 'coveylaw32.TradeCopies', WHERE WHAT IT READS IS OF BULK AT MOST 1048576: true; the input reads as it did. -/
def tradeCopiesUptoRow : OpenClaim := { program := "ytpbjekdjebjbkaagreat", sum := "badcdd5fc06386e18e59640e1e505383f86a6dce2372fbb8e1410d131728f2aa", func := "covey/coveylaw32.TradeCopies", spec := "tradeCopies", unfollowed := true, recurses := true, apart := false, narrowed := true }
def TradeCopiesUptoSaid : Prop := tradeCopiesUptoRow.holds Tryz.pinned (OpenSpec.upto tradeCopiesSpec)

end Rows
end Go.Proofs.YtpbjekdjebjbkaaGreat
