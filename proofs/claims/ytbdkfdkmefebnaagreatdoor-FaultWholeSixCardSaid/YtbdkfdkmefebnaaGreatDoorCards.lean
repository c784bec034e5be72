/-
  DERIVED. GIVEN WITH THE SEED: THE CARDS: each row of YtbdkfdkmefebnaaGreatDoorRows.lean that lists a variable, with what it lists TIED to the program's text (the seventh form; the later family's looks); each row that meets fmt, with fmt's text TOLD by the authors' own Lean function (tested against real Go, not proved from fmt's source: count such statements apart). THE CARD IS WHAT COUNTS. Prove the row's statement (the work); the ties are given (YtbdkfdkmefebnaaGreatDoorTie.lean); close each card by the builder's one call (the guide's Derived/Test/ToyasCard.lean, 'card_holds'). Laid BY PROGRAM, IN A SANDBOX (cutbox-door.mjs). By AI agents, Wed Nov 11 2026. No macro, syntax, notation, axiom, sorry.
-/
import Derived.Test.YtbdkfdkmefebnaaGreatDoorRows
import GoSem.ClaimSeven
namespace Go.Proofs.YtbdkfdkmefebnaaGreatDoor
namespace Rows

/-- THE TIED CARD OF 'interpreterlaw15.FaultWhole'. -/
def faultWholeCard : Claim7 := { stood := { row := faultWholeRow, standIns := [], harness := (true, "c349f03376243747187edd7289afed00ebe45f941da5b21c5a035d21661cc793"), looks := true }, kinds := [], alts := [], laidByText := true, laidKinds := [.handle], laidTests := true, laidLooks := .later }
def FaultWholeCardSaid : Prop := Claim7.holds Tryz.pinned (.plain (OpenSpec.ofChange faultWholeSpec)) faultWholeCard

/-- THE TIED CARD OF 'interpreterlaw15.FaultWholeSix'. -/
def faultWholeSixCard : Claim7 := { stood := { row := faultWholeSixRow, standIns := [], harness := (true, "c349f03376243747187edd7289afed00ebe45f941da5b21c5a035d21661cc793"), looks := true }, kinds := [], alts := [], laidByText := true, laidKinds := [.handle], laidTests := true, laidLooks := .later }
def FaultWholeSixCardSaid : Prop := Claim7.holds Tryz.pinned (.plain (OpenSpec.ofChange faultWholeSixSpec)) faultWholeSixCard

/-- THE SECOND FORM's CARD OF 'interpreterlaw15.FaultWhole'. -/
def faultWholeUptoCard : Claim7 := { stood := { row := faultWholeUptoRow, standIns := [], harness := (true, "c349f03376243747187edd7289afed00ebe45f941da5b21c5a035d21661cc793"), looks := true }, kinds := [], alts := [], laidByText := true, laidKinds := [.handle], laidTests := true, laidLooks := .later }
def FaultWholeUptoCardSaid : Prop := Claim7.holds Tryz.pinned (.plain (OpenSpec.upto faultWholeSpec)) faultWholeUptoCard

/-- THE SECOND FORM's CARD OF 'interpreterlaw15.FaultWholeSix'. -/
def faultWholeSixUptoCard : Claim7 := { stood := { row := faultWholeSixUptoRow, standIns := [], harness := (true, "c349f03376243747187edd7289afed00ebe45f941da5b21c5a035d21661cc793"), looks := true }, kinds := [], alts := [], laidByText := true, laidKinds := [.handle], laidTests := true, laidLooks := .later }
def FaultWholeSixUptoCardSaid : Prop := Claim7.holds Tryz.pinned (.plain (OpenSpec.upto faultWholeSixSpec)) faultWholeSixUptoCard
end Rows
end Go.Proofs.YtbdkfdkmefebnaaGreatDoor
