/-
  DERIVED. GIVEN WITH THE SEED: THE CARDS: each row of YthfglkkjkpdkpaaDoorRows.lean that lists a variable, with what it lists TIED to the program's text (the seventh form; the later family's looks); each row that meets fmt, with fmt's text TOLD by the authors' own Lean function (tested against real Go, not proved from fmt's source: count such statements apart). THE CARD IS WHAT COUNTS. Prove the row's statement (the work); the ties are given (YthfglkkjkpdkpaaDoorTie.lean); close each card by the builder's one call (the guide's Derived/Test/ToyasCard.lean, 'card_holds'). Laid BY PROGRAM, IN A SANDBOX (cutbox-door.mjs). By AI agents, Wed Nov 11 2026. No macro, syntax, notation, axiom, sorry.
-/
import Derived.Test.YthfglkkjkpdkpaaDoorRows
import GoSem.ClaimSeven
namespace Go.Proofs.YthfglkkjkpdkpaaDoor
namespace Rows

/-- THE TIED CARD OF 'coveylaw31.ChokeShows'. -/
def chokeShowsCard : Claim7 := { stood := { row := chokeShowsRow, standIns := [], harness := (true, "a2c9e0c09b63bf17177123d3bef551959761f8ea9d6d151ed1c8b8f44d58f17a"), looks := false }, kinds := [], alts := [], laidByText := true, laidKinds := [.data, .data, .data], laidTests := true, laidLooks := .later }
def ChokeShowsCardSaid : Prop := Claim7.holds Tryd.pinned (.plain (OpenSpec.ofChange chokeShowsSpec)) chokeShowsCard

/-- THE SECOND FORM's CARD OF 'coveylaw31.ChokeShows'. -/
def chokeShowsUptoCard : Claim7 := { stood := { row := chokeShowsUptoRow, standIns := [], harness := (true, "a2c9e0c09b63bf17177123d3bef551959761f8ea9d6d151ed1c8b8f44d58f17a"), looks := false }, kinds := [], alts := [], laidByText := true, laidKinds := [.data, .data, .data], laidTests := true, laidLooks := .later }
def ChokeShowsUptoCardSaid : Prop := Claim7.holds Tryd.pinned (.plain (OpenSpec.upto chokeShowsSpec)) chokeShowsUptoCard
end Rows
end Go.Proofs.YthfglkkjkpdkpaaDoor
