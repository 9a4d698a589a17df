/-
  DERIVED. GIVEN WITH THE SEED: THE CARDS: each row of YtbfpmofhopglfaaGreatDoorRows.lean that lists a variable, with what it lists TIED to the program's text (the seventh form; the later family's looks); each row that meets fmt, with fmt's text TOLD by the authors' own Lean function (tested against real Go, not proved from fmt's source: count such statements apart). THE CARD IS WHAT COUNTS. Prove the row's statement (the work); the ties are given (YtbfpmofhopglfaaGreatDoorTie.lean); close each card by the builder's one call (the guide's Derived/Test/ToyasCard.lean, 'card_holds'). Laid BY PROGRAM, IN A SANDBOX (cutbox-door.mjs). By AI agents, Wed Nov 11 2026. No macro, syntax, notation, axiom, sorry.
-/
import Derived.Test.YtbfpmofhopglfaaGreatDoorRows
import GoSem.ClaimSeven
namespace Go.Proofs.YtbfpmofhopglfaaGreatDoor
namespace Rows

/-- THE TIED CARD OF 'gantlaw1.BorderTo'. -/
def borderToCard : Claim7 := { stood := { row := borderToRow, standIns := [], harness := (true, "5e6cb386d983fb0a72e119bd99496b1a02d2cd72fe24b5086a8ec8e57402943c"), looks := false }, kinds := [], alts := [], laidByText := true, laidKinds := [.data, .data, .pinned], laidTests := true, laidLooks := .later }
def BorderToCardSaid : Prop := Claim7.holds Tryz.pinned (.plain (OpenSpec.ofChange borderToSpec)) borderToCard

/-- THE TIED CARD OF 'ganttop.FramesGroup'. -/
def framesGroupCard : Claim7 := { stood := { row := framesGroupRow, standIns := [], harness := (true, "5e6cb386d983fb0a72e119bd99496b1a02d2cd72fe24b5086a8ec8e57402943c"), looks := false }, kinds := [], alts := [], laidByText := true, laidKinds := [.data], laidTests := true, laidLooks := .later }
def FramesGroupCardSaid : Prop := Claim7.holds Tryz.pinned (.plain (OpenSpec.ofChange framesGroupSpec)) framesGroupCard

/-- THE TIED CARD OF 'gantlaw1.TurnPoints'. -/
def turnPointsCard : Claim7 := { stood := { row := turnPointsRow, standIns := [], harness := (true, "5e6cb386d983fb0a72e119bd99496b1a02d2cd72fe24b5086a8ec8e57402943c"), looks := false }, kinds := [], alts := [], laidByText := true, laidKinds := [.data, .data, .pinned], laidTests := true, laidLooks := .later }
def TurnPointsCardSaid : Prop := Claim7.holds Tryz.pinned (.plain (OpenSpec.ofChange turnPointsSpec)) turnPointsCard

/-- THE SECOND FORM's CARD OF 'gantlaw1.BorderTo'. -/
def borderToUptoCard : Claim7 := { stood := { row := borderToUptoRow, standIns := [], harness := (true, "5e6cb386d983fb0a72e119bd99496b1a02d2cd72fe24b5086a8ec8e57402943c"), looks := false }, kinds := [], alts := [], laidByText := true, laidKinds := [.data, .data, .pinned], laidTests := true, laidLooks := .later }
def BorderToUptoCardSaid : Prop := Claim7.holds Tryz.pinned (.plain (OpenSpec.upto borderToSpec)) borderToUptoCard

/-- THE SECOND FORM's CARD OF 'ganttop.FramesGroup'. -/
def framesGroupUptoCard : Claim7 := { stood := { row := framesGroupUptoRow, standIns := [], harness := (true, "5e6cb386d983fb0a72e119bd99496b1a02d2cd72fe24b5086a8ec8e57402943c"), looks := false }, kinds := [], alts := [], laidByText := true, laidKinds := [.data], laidTests := true, laidLooks := .later }
def FramesGroupUptoCardSaid : Prop := Claim7.holds Tryz.pinned (.plain (OpenSpec.upto framesGroupSpec)) framesGroupUptoCard

/-- THE SECOND FORM's CARD OF 'gantlaw1.TurnPoints'. -/
def turnPointsUptoCard : Claim7 := { stood := { row := turnPointsUptoRow, standIns := [], harness := (true, "5e6cb386d983fb0a72e119bd99496b1a02d2cd72fe24b5086a8ec8e57402943c"), looks := false }, kinds := [], alts := [], laidByText := true, laidKinds := [.data, .data, .pinned], laidTests := true, laidLooks := .later }
def TurnPointsUptoCardSaid : Prop := Claim7.holds Tryz.pinned (.plain (OpenSpec.upto turnPointsSpec)) turnPointsUptoCard
end Rows
end Go.Proofs.YtbfpmofhopglfaaGreatDoor
