/-
  DERIVED. GIVEN WITH THE SEED: THE CARDS: each row of YthmmfhdpkddniaaGreatDoorRows.lean that lists a variable, with what it lists TIED to the program's text (the seventh form; the later family's looks); each row that meets fmt, with fmt's text TOLD by the authors' own Lean function (tested against real Go, not proved from fmt's source: count such statements apart). THE CARD IS WHAT COUNTS. Prove the row's statement (the work); the ties are given (YthmmfhdpkddniaaGreatDoorTie.lean); close each card by the builder's one call (the guide's Derived/Test/ToyasCard.lean, 'card_holds'). Laid BY PROGRAM, IN A SANDBOX (cutbox-door.mjs). By AI agents, Wed Nov 11 2026. No macro, syntax, notation, axiom, sorry.
-/
import Derived.Test.YthmmfhdpkddniaaGreatDoorRows
import GoSem.ClaimSeven
namespace Go.Proofs.YthmmfhdpkddniaaGreatDoor
namespace Rows

/-- THE TIED CARD OF 'coveylaw29.PickWhole'. -/
def pickWholeCard : Claim7 := { stood := { row := pickWholeRow, standIns := [], harness := (true, "45ed59394b752a199938c2929be3057697ec4ac5be72f4c2218ed2cd372c7403"), looks := true }, kinds := [], alts := [], laidByText := true, laidKinds := [.data, .data, .data], laidTests := true, laidLooks := .later }
def PickWholeCardSaid : Prop := Claim7.holds Tryz.pinned (.plain (OpenSpec.ofChange pickWholeSpec)) pickWholeCard

/-- THE TIED CARD OF 'coveylaw29.PickKept'. -/
def pickKeptCard : Claim7 := { stood := { row := pickKeptRow, standIns := [], harness := (true, "45ed59394b752a199938c2929be3057697ec4ac5be72f4c2218ed2cd372c7403"), looks := true }, kinds := [], alts := [], laidByText := true, laidKinds := [.data, .data, .data], laidTests := true, laidLooks := .later }
def PickKeptCardSaid : Prop := Claim7.holds Tryz.pinned (.plain (OpenSpec.ofChange pickKeptSpec)) pickKeptCard

/-- THE TIED CARD OF 'coveylaw29.PickOnce'. -/
def pickOnceCard : Claim7 := { stood := { row := pickOnceRow, standIns := [], harness := (true, "45ed59394b752a199938c2929be3057697ec4ac5be72f4c2218ed2cd372c7403"), looks := true }, kinds := [], alts := [], laidByText := true, laidKinds := [.data, .data, .data], laidTests := true, laidLooks := .later }
def PickOnceCardSaid : Prop := Claim7.holds Tryz.pinned (.plain (OpenSpec.ofChange pickOnceSpec)) pickOnceCard

/-- THE TIED CARD OF 'coveylaw29.PickRuns'. -/
def pickRunsCard : Claim7 := { stood := { row := pickRunsRow, standIns := [], harness := (true, "45ed59394b752a199938c2929be3057697ec4ac5be72f4c2218ed2cd372c7403"), looks := true }, kinds := [], alts := [], laidByText := true, laidKinds := [.data, .data, .data], laidTests := true, laidLooks := .later }
def PickRunsCardSaid : Prop := Claim7.holds Tryz.pinned (.plain (OpenSpec.ofChange pickRunsSpec)) pickRunsCard

/-- THE TIED CARD OF 'coveylaw29.PickTells'. -/
def pickTellsCard : Claim7 := { stood := { row := pickTellsRow, standIns := [], harness := (true, "45ed59394b752a199938c2929be3057697ec4ac5be72f4c2218ed2cd372c7403"), looks := true }, kinds := [], alts := [], laidByText := true, laidKinds := [.data, .data, .data], laidTests := true, laidLooks := .later }
def PickTellsCardSaid : Prop := Claim7.holds Tryz.pinned (.plain (OpenSpec.ofChange pickTellsSpec)) pickTellsCard

/-- THE SECOND FORM's CARD OF 'coveylaw29.PickWhole'. -/
def pickWholeUptoCard : Claim7 := { stood := { row := pickWholeUptoRow, standIns := [], harness := (true, "45ed59394b752a199938c2929be3057697ec4ac5be72f4c2218ed2cd372c7403"), looks := true }, kinds := [], alts := [], laidByText := true, laidKinds := [.data, .data, .data], laidTests := true, laidLooks := .later }
def PickWholeUptoCardSaid : Prop := Claim7.holds Tryz.pinned (.plain (OpenSpec.upto pickWholeSpec)) pickWholeUptoCard

/-- THE SECOND FORM's CARD OF 'coveylaw29.PickKept'. -/
def pickKeptUptoCard : Claim7 := { stood := { row := pickKeptUptoRow, standIns := [], harness := (true, "45ed59394b752a199938c2929be3057697ec4ac5be72f4c2218ed2cd372c7403"), looks := true }, kinds := [], alts := [], laidByText := true, laidKinds := [.data, .data, .data], laidTests := true, laidLooks := .later }
def PickKeptUptoCardSaid : Prop := Claim7.holds Tryz.pinned (.plain (OpenSpec.upto pickKeptSpec)) pickKeptUptoCard

/-- THE SECOND FORM's CARD OF 'coveylaw29.PickOnce'. -/
def pickOnceUptoCard : Claim7 := { stood := { row := pickOnceUptoRow, standIns := [], harness := (true, "45ed59394b752a199938c2929be3057697ec4ac5be72f4c2218ed2cd372c7403"), looks := true }, kinds := [], alts := [], laidByText := true, laidKinds := [.data, .data, .data], laidTests := true, laidLooks := .later }
def PickOnceUptoCardSaid : Prop := Claim7.holds Tryz.pinned (.plain (OpenSpec.upto pickOnceSpec)) pickOnceUptoCard

/-- THE SECOND FORM's CARD OF 'coveylaw29.PickRuns'. -/
def pickRunsUptoCard : Claim7 := { stood := { row := pickRunsUptoRow, standIns := [], harness := (true, "45ed59394b752a199938c2929be3057697ec4ac5be72f4c2218ed2cd372c7403"), looks := true }, kinds := [], alts := [], laidByText := true, laidKinds := [.data, .data, .data], laidTests := true, laidLooks := .later }
def PickRunsUptoCardSaid : Prop := Claim7.holds Tryz.pinned (.plain (OpenSpec.upto pickRunsSpec)) pickRunsUptoCard

/-- THE SECOND FORM's CARD OF 'coveylaw29.PickTells'. -/
def pickTellsUptoCard : Claim7 := { stood := { row := pickTellsUptoRow, standIns := [], harness := (true, "45ed59394b752a199938c2929be3057697ec4ac5be72f4c2218ed2cd372c7403"), looks := true }, kinds := [], alts := [], laidByText := true, laidKinds := [.data, .data, .data], laidTests := true, laidLooks := .later }
def PickTellsUptoCardSaid : Prop := Claim7.holds Tryz.pinned (.plain (OpenSpec.upto pickTellsSpec)) pickTellsUptoCard
end Rows
end Go.Proofs.YthmmfhdpkddniaaGreatDoor
