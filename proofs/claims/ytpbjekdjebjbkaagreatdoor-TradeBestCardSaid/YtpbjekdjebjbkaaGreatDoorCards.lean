/-
  DERIVED. GIVEN WITH THE SEED: THE CARDS: each row of YtpbjekdjebjbkaaGreatDoorRows.lean that lists a variable, with what it lists TIED to the program's text (the seventh form; the later family's looks); each row that meets fmt, with fmt's text TOLD by the authors' own Lean function (tested against real Go, not proved from fmt's source: count such statements apart). THE CARD IS WHAT COUNTS. Prove the row's statement (the work); the ties are given (YtpbjekdjebjbkaaGreatDoorTie.lean); close each card by the builder's one call (the guide's Derived/Test/ToyasCard.lean, 'card_holds'). Laid BY PROGRAM, IN A SANDBOX (cutbox-door.mjs). By AI agents, Wed Nov 11 2026. No macro, syntax, notation, axiom, sorry.
-/
import Derived.Test.YtpbjekdjebjbkaaGreatDoorRows
import GoSem.ClaimSeven
namespace Go.Proofs.YtpbjekdjebjbkaaGreatDoor
namespace Rows

/-- THE TIED CARD OF 'coveylaw32.TradePlays'. -/
def tradePlaysCard : Claim7 := { stood := { row := tradePlaysRow, standIns := [], harness := (true, "d39e8a00e6332137a9397eff3776197afd20cec0ea5a32a752e1948393c8e627"), looks := true }, kinds := [], alts := [], laidByText := true, laidKinds := [.data, .data, .data], laidTests := true, laidLooks := .later }
def TradePlaysCardSaid : Prop := Claim7.holds Tryz.pinned (.plain (OpenSpec.ofChange tradePlaysSpec)) tradePlaysCard

/-- THE TIED CARD OF 'coveylaw32.TradeBest'. -/
def tradeBestCard : Claim7 := { stood := { row := tradeBestRow, standIns := [], harness := (true, "d39e8a00e6332137a9397eff3776197afd20cec0ea5a32a752e1948393c8e627"), looks := true }, kinds := [], alts := [], laidByText := true, laidKinds := [.data, .data, .data], laidTests := true, laidLooks := .later }
def TradeBestCardSaid : Prop := Claim7.holds Tryz.pinned (.plain (OpenSpec.ofChange tradeBestSpec)) tradeBestCard

/-- THE SECOND FORM's CARD OF 'coveylaw32.TradePlays'. -/
def tradePlaysUptoCard : Claim7 := { stood := { row := tradePlaysUptoRow, standIns := [], harness := (true, "d39e8a00e6332137a9397eff3776197afd20cec0ea5a32a752e1948393c8e627"), looks := true }, kinds := [], alts := [], laidByText := true, laidKinds := [.data, .data, .data], laidTests := true, laidLooks := .later }
def TradePlaysUptoCardSaid : Prop := Claim7.holds Tryz.pinned (.plain (OpenSpec.upto tradePlaysSpec)) tradePlaysUptoCard

/-- THE SECOND FORM's CARD OF 'coveylaw32.TradeBest'. -/
def tradeBestUptoCard : Claim7 := { stood := { row := tradeBestUptoRow, standIns := [], harness := (true, "d39e8a00e6332137a9397eff3776197afd20cec0ea5a32a752e1948393c8e627"), looks := true }, kinds := [], alts := [], laidByText := true, laidKinds := [.data, .data, .data], laidTests := true, laidLooks := .later }
def TradeBestUptoCardSaid : Prop := Claim7.holds Tryz.pinned (.plain (OpenSpec.upto tradeBestSpec)) tradeBestUptoCard
end Rows
end Go.Proofs.YtpbjekdjebjbkaaGreatDoor
