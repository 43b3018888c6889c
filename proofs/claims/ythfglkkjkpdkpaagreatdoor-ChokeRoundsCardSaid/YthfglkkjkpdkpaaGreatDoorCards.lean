/-
  DERIVED. GIVEN WITH THE SEED: THE CARDS: each row of YthfglkkjkpdkpaaGreatDoorRows.lean that lists a variable, with what it lists TIED to the program's text (the seventh form; the later family's looks); each row that meets fmt, with fmt's text TOLD by the authors' own Lean function (tested against real Go, not proved from fmt's source: count such statements apart). THE CARD IS WHAT COUNTS. Prove the row's statement (the work); the ties are given (YthfglkkjkpdkpaaGreatDoorTie.lean); close each card by the builder's one call (the guide's Derived/Test/ToyasCard.lean, 'card_holds'). Laid BY PROGRAM, IN A SANDBOX (cutbox-door.mjs). By AI agents, Wed Nov 11 2026. No macro, syntax, notation, axiom, sorry.
-/
import Derived.Test.YthfglkkjkpdkpaaGreatDoorRows
import GoSem.ClaimSeven
namespace Go.Proofs.YthfglkkjkpdkpaaGreatDoor
namespace Rows

/-- THE TIED CARD OF 'coveylaw31.ChokeTat'. -/
def chokeTatCard : Claim7 := { stood := { row := chokeTatRow, standIns := [], harness := (true, "5ceaf529f70c4a7557002a68a32cb1e86db2f380cb8b63f9a5e9a2e79efbdb65"), looks := false }, kinds := [], alts := [], laidByText := true, laidKinds := [.data, .data, .data], laidTests := true, laidLooks := .later }
def ChokeTatCardSaid : Prop := Claim7.holds Tryz.pinned (.plain (OpenSpec.ofChange chokeTatSpec)) chokeTatCard

/-- THE TIED CARD OF 'coveylaw31.ChokeTurns'. -/
def chokeTurnsCard : Claim7 := { stood := { row := chokeTurnsRow, standIns := [], harness := (true, "5ceaf529f70c4a7557002a68a32cb1e86db2f380cb8b63f9a5e9a2e79efbdb65"), looks := false }, kinds := [], alts := [], laidByText := true, laidKinds := [.data, .data, .data], laidTests := true, laidLooks := .later }
def ChokeTurnsCardSaid : Prop := Claim7.holds Tryz.pinned (.plain (OpenSpec.ofChange chokeTurnsSpec)) chokeTurnsCard

/-- THE TIED CARD OF 'coveylaw31.ChokeRounds'. -/
def chokeRoundsCard : Claim7 := { stood := { row := chokeRoundsRow, standIns := [], harness := (true, "5ceaf529f70c4a7557002a68a32cb1e86db2f380cb8b63f9a5e9a2e79efbdb65"), looks := false }, kinds := [], alts := [], laidByText := true, laidKinds := [.data, .data, .data], laidTests := true, laidLooks := .later }
def ChokeRoundsCardSaid : Prop := Claim7.holds Tryz.pinned (.plain (OpenSpec.ofChange chokeRoundsSpec)) chokeRoundsCard

/-- THE SECOND FORM's CARD OF 'coveylaw31.ChokeTat'. -/
def chokeTatUptoCard : Claim7 := { stood := { row := chokeTatUptoRow, standIns := [], harness := (true, "5ceaf529f70c4a7557002a68a32cb1e86db2f380cb8b63f9a5e9a2e79efbdb65"), looks := false }, kinds := [], alts := [], laidByText := true, laidKinds := [.data, .data, .data], laidTests := true, laidLooks := .later }
def ChokeTatUptoCardSaid : Prop := Claim7.holds Tryz.pinned (.plain (OpenSpec.upto chokeTatSpec)) chokeTatUptoCard

/-- THE SECOND FORM's CARD OF 'coveylaw31.ChokeTurns'. -/
def chokeTurnsUptoCard : Claim7 := { stood := { row := chokeTurnsUptoRow, standIns := [], harness := (true, "5ceaf529f70c4a7557002a68a32cb1e86db2f380cb8b63f9a5e9a2e79efbdb65"), looks := false }, kinds := [], alts := [], laidByText := true, laidKinds := [.data, .data, .data], laidTests := true, laidLooks := .later }
def ChokeTurnsUptoCardSaid : Prop := Claim7.holds Tryz.pinned (.plain (OpenSpec.upto chokeTurnsSpec)) chokeTurnsUptoCard

/-- THE SECOND FORM's CARD OF 'coveylaw31.ChokeRounds'. -/
def chokeRoundsUptoCard : Claim7 := { stood := { row := chokeRoundsUptoRow, standIns := [], harness := (true, "5ceaf529f70c4a7557002a68a32cb1e86db2f380cb8b63f9a5e9a2e79efbdb65"), looks := false }, kinds := [], alts := [], laidByText := true, laidKinds := [.data, .data, .data], laidTests := true, laidLooks := .later }
def ChokeRoundsUptoCardSaid : Prop := Claim7.holds Tryz.pinned (.plain (OpenSpec.upto chokeRoundsSpec)) chokeRoundsUptoCard
end Rows
end Go.Proofs.YthfglkkjkpdkpaaGreatDoor
