/-
  No cell of these rows narrows 'for every input' (looked for: loops, veiled, ifaces, maps, wideKeys, modest, calm, conditions, laid).
  DERIVED. THE GIVEN ROWS OF THIS SEAT. 7 by the template 'for every input the law returns true; each argument reads behind the call as it read before'; 0 by the template 'total and deterministic' (their statements: YtcjmdkklbbollaaTotals.lean).
  GIVEN WITH THE SEED: the statements are not yours to turn. If you find one false, say at which input.
  Laid BY PROGRAM, IN A SANDBOX (cutbox-rows.mjs): the forced cells as the released guide's own fill.sh prints them over the translation 1d3a16d68a5ecb19… (all of the seat's roots in one cut). By AI agents, Wed Nov 11 2026. No macro, syntax, notation, axiom, sorry.
-/
import Derived.Test.YtcjmdkklbbollaaChecked
import GoSem.Claim
import GoSem.ClaimJoined
import GoSem.ClaimMapViews
import Derived.JoinedTies
import Derived.KernelRfl
namespace Go.Proofs.Ytcjmdkklbbollaa
/- THE CELL 'sum', in the pinned program and in every row, IS THE sha256 OF THE DUMP (.gsa) THAT YtcjmdkklbbollaaProg.lean LOADS. Nothing in Lean hashes anything: it is a label: what it is worth is what the hold of that sum in a sandbox is worth. -/
noncomputable def Try.pinned : Pinned := { name := "ytcjmdkklbbollaa", sum := "1d3a16d68a5ecb193a4d464f9a278f4836e9b6d94a8e681999d162346cc0b15d", checked := Try.checked }
namespace Rows
def none {H : Type} : Left H := { results := [], args := [] }

/-- 'coveylaw19.WireHellos': WHATEVER THE INPUT: true; the input reads as it did. -/
def wireHellosSpec : ChangeSpec := { name := "wireHellos", fn := fun _ => fun
  | [d1, d2] => { results := [.lit (.bool true)], args := [d1, d2] }
  | _ => none }
def wireHellosRow : OpenClaim := { program := "ytcjmdkklbbollaa", sum := "1d3a16d68a5ecb193a4d464f9a278f4836e9b6d94a8e681999d162346cc0b15d", func := "covey/coveylaw19.WireHellos", spec := "wireHellos", unfollowed := true, recurses := true, apart := false }
def WireHellosSaid : Prop := wireHellosRow.holds Try.pinned (OpenSpec.ofChange wireHellosSpec)

/-- ITS FALSE NEIGHBOUR: 'it returns false'. Refute it at one input. -/
def wireHellosWrong : ChangeSpec := { name := "wireHellos", fn := fun _ => fun
  | [d1, d2] => { results := [.lit (.bool false)], args := [d1, d2] }
  | _ => none }
def WireHellosWrongFalsely : Prop := wireHellosRow.holds Try.pinned (OpenSpec.ofChange wireHellosWrong)

/-- 'coveylaw19.WireCodes': WHATEVER THE INPUT: true; the input reads as it did. -/
def wireCodesSpec : ChangeSpec := { name := "wireCodes", fn := fun _ => fun
  | [d1, d2] => { results := [.lit (.bool true)], args := [d1, d2] }
  | _ => none }
def wireCodesRow : OpenClaim := { program := "ytcjmdkklbbollaa", sum := "1d3a16d68a5ecb193a4d464f9a278f4836e9b6d94a8e681999d162346cc0b15d", func := "covey/coveylaw19.WireCodes", spec := "wireCodes", unfollowed := true, recurses := true, apart := false }
def WireCodesSaid : Prop := wireCodesRow.holds Try.pinned (OpenSpec.ofChange wireCodesSpec)

/-- ITS FALSE NEIGHBOUR: 'it returns false'. Refute it at one input. -/
def wireCodesWrong : ChangeSpec := { name := "wireCodes", fn := fun _ => fun
  | [d1, d2] => { results := [.lit (.bool false)], args := [d1, d2] }
  | _ => none }
def WireCodesWrongFalsely : Prop := wireCodesRow.holds Try.pinned (OpenSpec.ofChange wireCodesWrong)

/-- 'coveylaw19.WireFirst': WHATEVER THE INPUT: true; the input reads as it did. -/
def wireFirstSpec : ChangeSpec := { name := "wireFirst", fn := fun _ => fun
  | [d] => { results := [.lit (.bool true)], args := [d] }
  | _ => none }
def wireFirstRow : OpenClaim := { program := "ytcjmdkklbbollaa", sum := "1d3a16d68a5ecb193a4d464f9a278f4836e9b6d94a8e681999d162346cc0b15d", func := "covey/coveylaw19.WireFirst", spec := "wireFirst", unfollowed := true, recurses := true, apart := false }
def WireFirstSaid : Prop := wireFirstRow.holds Try.pinned (OpenSpec.ofChange wireFirstSpec)

/-- ITS FALSE NEIGHBOUR: 'it returns false'. Refute it at one input. -/
def wireFirstWrong : ChangeSpec := { name := "wireFirst", fn := fun _ => fun
  | [d] => { results := [.lit (.bool false)], args := [d] }
  | _ => none }
def WireFirstWrongFalsely : Prop := wireFirstRow.holds Try.pinned (OpenSpec.ofChange wireFirstWrong)

/-- 'coveylaw19.WireFits': WHATEVER THE INPUT: true; the input reads as it did. -/
def wireFitsSpec : ChangeSpec := { name := "wireFits", fn := fun _ => fun
  | [d1, d2, d3, d4, d5] => { results := [.lit (.bool true)], args := [d1, d2, d3, d4, d5] }
  | _ => none }
def wireFitsRow : OpenClaim := { program := "ytcjmdkklbbollaa", sum := "1d3a16d68a5ecb193a4d464f9a278f4836e9b6d94a8e681999d162346cc0b15d", func := "covey/coveylaw19.WireFits", spec := "wireFits", unfollowed := true, recurses := true, apart := false }
def WireFitsSaid : Prop := wireFitsRow.holds Try.pinned (OpenSpec.ofChange wireFitsSpec)

/-- ITS FALSE NEIGHBOUR: 'it returns false'. Refute it at one input. -/
def wireFitsWrong : ChangeSpec := { name := "wireFits", fn := fun _ => fun
  | [d1, d2, d3, d4, d5] => { results := [.lit (.bool false)], args := [d1, d2, d3, d4, d5] }
  | _ => none }
def WireFitsWrongFalsely : Prop := wireFitsRow.holds Try.pinned (OpenSpec.ofChange wireFitsWrong)

/-- 'coveylaw19.WireAll': WHATEVER THE INPUT: true; the input reads as it did. -/
def wireAllSpec : ChangeSpec := { name := "wireAll", fn := fun _ => fun
  | [d] => { results := [.lit (.bool true)], args := [d] }
  | _ => none }
def wireAllRow : OpenClaim := { program := "ytcjmdkklbbollaa", sum := "1d3a16d68a5ecb193a4d464f9a278f4836e9b6d94a8e681999d162346cc0b15d", func := "covey/coveylaw19.WireAll", spec := "wireAll", unfollowed := true, recurses := true, apart := false }
def WireAllSaid : Prop := wireAllRow.holds Try.pinned (OpenSpec.ofChange wireAllSpec)

/-- ITS FALSE NEIGHBOUR: 'it returns false'. Refute it at one input. -/
def wireAllWrong : ChangeSpec := { name := "wireAll", fn := fun _ => fun
  | [d] => { results := [.lit (.bool false)], args := [d] }
  | _ => none }
def WireAllWrongFalsely : Prop := wireAllRow.holds Try.pinned (OpenSpec.ofChange wireAllWrong)

/-- 'coveylaw19.WireReaders': WHATEVER THE INPUT: true; the input reads as it did. -/
def wireReadersSpec : ChangeSpec := { name := "wireReaders", fn := fun _ => fun
  | [d1, d2] => { results := [.lit (.bool true)], args := [d1, d2] }
  | _ => none }
def wireReadersRow : OpenClaim := { program := "ytcjmdkklbbollaa", sum := "1d3a16d68a5ecb193a4d464f9a278f4836e9b6d94a8e681999d162346cc0b15d", func := "covey/coveylaw19.WireReaders", spec := "wireReaders", unfollowed := true, recurses := true, apart := false }
def WireReadersSaid : Prop := wireReadersRow.holds Try.pinned (OpenSpec.ofChange wireReadersSpec)

/-- ITS FALSE NEIGHBOUR: 'it returns false'. Refute it at one input. -/
def wireReadersWrong : ChangeSpec := { name := "wireReaders", fn := fun _ => fun
  | [d1, d2] => { results := [.lit (.bool false)], args := [d1, d2] }
  | _ => none }
def WireReadersWrongFalsely : Prop := wireReadersRow.holds Try.pinned (OpenSpec.ofChange wireReadersWrong)

/-- 'coveylaw19.WirePieces': WHATEVER THE INPUT: true; the input reads as it did. -/
def wirePiecesSpec : ChangeSpec := { name := "wirePieces", fn := fun _ => fun
  | [d1, d2, d3] => { results := [.lit (.bool true)], args := [d1, d2, d3] }
  | _ => none }
def wirePiecesRow : OpenClaim := { program := "ytcjmdkklbbollaa", sum := "1d3a16d68a5ecb193a4d464f9a278f4836e9b6d94a8e681999d162346cc0b15d", func := "covey/coveylaw19.WirePieces", spec := "wirePieces", unfollowed := true, recurses := true, apart := false }
def WirePiecesSaid : Prop := wirePiecesRow.holds Try.pinned (OpenSpec.ofChange wirePiecesSpec)

/-- ITS FALSE NEIGHBOUR: 'it returns false'. Refute it at one input. -/
def wirePiecesWrong : ChangeSpec := { name := "wirePieces", fn := fun _ => fun
  | [d1, d2, d3] => { results := [.lit (.bool false)], args := [d1, d2, d3] }
  | _ => none }
def WirePiecesWrongFalsely : Prop := wirePiecesRow.holds Try.pinned (OpenSpec.ofChange wirePiecesWrong)

/- THE SECOND FORM. 'bulk': how many values and letters a reading holds, each counted each time it is reached (what is shared counts as often as it is met; a slice's spare places count too). A statement '..UptoSaid' is the law's where the arguments, and the package variables that the reading takes, are together of bulk at most 1048576: NARROWER than '..Said'. Prove '..Said' where nothing that the law and all that it calls make is longer than what came in: it says more and counts as full. Else prove '..UptoSaid'. A law counts once. -/
mutual
def uptoBulk {H : Type} : DataW H → Nat
  | .lit (.string bytes) => bytes.length + 1
  | .lit _ => 1
  | .nil => 1
  | .ptr d => uptoBulk d + 1
  | .slice elems spare => uptoBulkAll elems + uptoBulkAll spare + 1
  | .agg parts => uptoBulkAll parts + 1
  | .iface _ d => uptoBulk d + 1
  | .map entries => uptoBulkEntries entries + 1
  | .held _ => 1
def uptoBulkAll {H : Type} : List (DataW H) → Nat
  | [] => 0
  | d :: r => uptoBulk d + uptoBulkAll r
def uptoBulkEntries {H : Type} : List (Lit × DataW H) → Nat
  | [] => 0
  | x :: r => uptoBulkEntry x + uptoBulkEntries r
def uptoBulkEntry {H : Type} : Lit × DataW H → Nat
  | (.string bytes, d) => bytes.length + uptoBulk d + 1
  | (_, d) => uptoBulk d + 1
 end
def uptoSmall : (H : Type) → List (DataW H) → Bool := fun _ ds => decide (uptoBulkAll ds ≤ 1048576)
def OpenSpec.upto (s : _root_.Go.ChangeSpec) : _root_.Go.OpenSpec := { _root_.Go.OpenSpec.ofChange s with cond := some uptoSmall }

/-- 'coveylaw19.WireHellos', WHERE WHAT IT READS IS OF BULK AT MOST 1048576: true; the input reads as it did. -/
def wireHellosUptoRow : OpenClaim := { program := "ytcjmdkklbbollaa", sum := "1d3a16d68a5ecb193a4d464f9a278f4836e9b6d94a8e681999d162346cc0b15d", func := "covey/coveylaw19.WireHellos", spec := "wireHellos", unfollowed := true, recurses := true, apart := false, narrowed := true }
def WireHellosUptoSaid : Prop := wireHellosUptoRow.holds Try.pinned (OpenSpec.upto wireHellosSpec)

/-- 'coveylaw19.WireCodes', WHERE WHAT IT READS IS OF BULK AT MOST 1048576: true; the input reads as it did. -/
def wireCodesUptoRow : OpenClaim := { program := "ytcjmdkklbbollaa", sum := "1d3a16d68a5ecb193a4d464f9a278f4836e9b6d94a8e681999d162346cc0b15d", func := "covey/coveylaw19.WireCodes", spec := "wireCodes", unfollowed := true, recurses := true, apart := false, narrowed := true }
def WireCodesUptoSaid : Prop := wireCodesUptoRow.holds Try.pinned (OpenSpec.upto wireCodesSpec)

/-- 'coveylaw19.WireFirst', WHERE WHAT IT READS IS OF BULK AT MOST 1048576: true; the input reads as it did. -/
def wireFirstUptoRow : OpenClaim := { program := "ytcjmdkklbbollaa", sum := "1d3a16d68a5ecb193a4d464f9a278f4836e9b6d94a8e681999d162346cc0b15d", func := "covey/coveylaw19.WireFirst", spec := "wireFirst", unfollowed := true, recurses := true, apart := false, narrowed := true }
def WireFirstUptoSaid : Prop := wireFirstUptoRow.holds Try.pinned (OpenSpec.upto wireFirstSpec)

/-- 'coveylaw19.WireFits', WHERE WHAT IT READS IS OF BULK AT MOST 1048576: true; the input reads as it did. -/
def wireFitsUptoRow : OpenClaim := { program := "ytcjmdkklbbollaa", sum := "1d3a16d68a5ecb193a4d464f9a278f4836e9b6d94a8e681999d162346cc0b15d", func := "covey/coveylaw19.WireFits", spec := "wireFits", unfollowed := true, recurses := true, apart := false, narrowed := true }
def WireFitsUptoSaid : Prop := wireFitsUptoRow.holds Try.pinned (OpenSpec.upto wireFitsSpec)

/-- 'coveylaw19.WireAll', WHERE WHAT IT READS IS OF BULK AT MOST 1048576: true; the input reads as it did. -/
def wireAllUptoRow : OpenClaim := { program := "ytcjmdkklbbollaa", sum := "1d3a16d68a5ecb193a4d464f9a278f4836e9b6d94a8e681999d162346cc0b15d", func := "covey/coveylaw19.WireAll", spec := "wireAll", unfollowed := true, recurses := true, apart := false, narrowed := true }
def WireAllUptoSaid : Prop := wireAllUptoRow.holds Try.pinned (OpenSpec.upto wireAllSpec)

/-- 'coveylaw19.WireReaders', WHERE WHAT IT READS IS OF BULK AT MOST 1048576: true; the input reads as it did. -/
def wireReadersUptoRow : OpenClaim := { program := "ytcjmdkklbbollaa", sum := "1d3a16d68a5ecb193a4d464f9a278f4836e9b6d94a8e681999d162346cc0b15d", func := "covey/coveylaw19.WireReaders", spec := "wireReaders", unfollowed := true, recurses := true, apart := false, narrowed := true }
def WireReadersUptoSaid : Prop := wireReadersUptoRow.holds Try.pinned (OpenSpec.upto wireReadersSpec)

/-- 'coveylaw19.WirePieces', WHERE WHAT IT READS IS OF BULK AT MOST 1048576: true; the input reads as it did. -/
def wirePiecesUptoRow : OpenClaim := { program := "ytcjmdkklbbollaa", sum := "1d3a16d68a5ecb193a4d464f9a278f4836e9b6d94a8e681999d162346cc0b15d", func := "covey/coveylaw19.WirePieces", spec := "wirePieces", unfollowed := true, recurses := true, apart := false, narrowed := true }
def WirePiecesUptoSaid : Prop := wirePiecesUptoRow.holds Try.pinned (OpenSpec.upto wirePiecesSpec)

end Rows
end Go.Proofs.Ytcjmdkklbbollaa
