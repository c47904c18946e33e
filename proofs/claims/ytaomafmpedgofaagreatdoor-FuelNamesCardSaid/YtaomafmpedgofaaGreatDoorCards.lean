/-
  DERIVED. GIVEN WITH THE SEED: THE CARDS: each row of YtaomafmpedgofaaGreatDoorRows.lean that lists a variable, with what it lists TIED to the program's text (the seventh form; the later family's looks); each row that meets fmt, with fmt's text TOLD by the authors' own Lean function (tested against real Go, not proved from fmt's source: count such statements apart). THE CARD IS WHAT COUNTS. Prove the row's statement (the work); the ties are given (YtaomafmpedgofaaGreatDoorTie.lean); close each card by the builder's one call (the guide's Derived/Test/ToyasCard.lean, 'card_holds'). Laid BY PROGRAM, IN A SANDBOX (cutbox-door.mjs). By AI agents, Wed Nov 11 2026. No macro, syntax, notation, axiom, sorry.
-/
import Derived.Test.YtaomafmpedgofaaGreatDoorRows
import GoSem.ClaimSeven
namespace Go.Proofs.YtaomafmpedgofaaGreatDoor
namespace Rows

/-- THE TIED CARD OF 'bonsailaw17.FuelNames'. -/
def fuelNamesCard : Claim7 := { stood := { row := fuelNamesRow, standIns := [], harness := (true, "e12118c84992eac56d72a293573538215a185d51f86e2953d29e6b54f2671e7b"), looks := false }, kinds := [], alts := [], laidByText := true, laidKinds := [.data, .data, .data, .data, .data, .data], laidTests := true, laidLooks := .later }
def FuelNamesCardSaid : Prop := Claim7.holds Tryz.pinned (.plain (OpenSpec.ofChange fuelNamesSpec)) fuelNamesCard

/-- THE TIED CARD OF 'bonsailaw15.TableNames'. -/
def tableNamesCard : Claim7 := { stood := { row := tableNamesRow, standIns := [], harness := (true, "e12118c84992eac56d72a293573538215a185d51f86e2953d29e6b54f2671e7b"), looks := false }, kinds := [], alts := [], laidByText := true, laidKinds := [.data, .data, .data, .data, .data, .data], laidTests := true, laidLooks := .later }
def TableNamesCardSaid : Prop := Claim7.holds Tryz.pinned (.plain (OpenSpec.ofChange tableNamesSpec)) tableNamesCard

/-- THE SECOND FORM's CARD OF 'bonsailaw17.FuelNames'. -/
def fuelNamesUptoCard : Claim7 := { stood := { row := fuelNamesUptoRow, standIns := [], harness := (true, "e12118c84992eac56d72a293573538215a185d51f86e2953d29e6b54f2671e7b"), looks := false }, kinds := [], alts := [], laidByText := true, laidKinds := [.data, .data, .data, .data, .data, .data], laidTests := true, laidLooks := .later }
def FuelNamesUptoCardSaid : Prop := Claim7.holds Tryz.pinned (.plain (OpenSpec.upto fuelNamesSpec)) fuelNamesUptoCard

/-- THE SECOND FORM's CARD OF 'bonsailaw15.TableNames'. -/
def tableNamesUptoCard : Claim7 := { stood := { row := tableNamesUptoRow, standIns := [], harness := (true, "e12118c84992eac56d72a293573538215a185d51f86e2953d29e6b54f2671e7b"), looks := false }, kinds := [], alts := [], laidByText := true, laidKinds := [.data, .data, .data, .data, .data, .data], laidTests := true, laidLooks := .later }
def TableNamesUptoCardSaid : Prop := Claim7.holds Tryz.pinned (.plain (OpenSpec.upto tableNamesSpec)) tableNamesUptoCard
end Rows
end Go.Proofs.YtaomafmpedgofaaGreatDoor
