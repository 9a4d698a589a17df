/-
  DERIVED. GIVEN WITH THE SEED: THE CARDS: each row of YtjefpjajkbldpaaDoorRows.lean that lists a variable, with what it lists TIED to the program's text (the seventh form; the later family's looks); each row that meets fmt, with fmt's text TOLD by the authors' own Lean function (tested against real Go, not proved from fmt's source: count such statements apart). THE CARD IS WHAT COUNTS. Prove the row's statement (the work); the ties are given (YtjefpjajkbldpaaDoorTie.lean); close each card by the builder's one call (the guide's Derived/Test/ToyasCard.lean, 'card_holds'). Laid BY PROGRAM, IN A SANDBOX (cutbox-door.mjs). By AI agents, Wed Nov 11 2026. No macro, syntax, notation, axiom, sorry.
-/
import Derived.Test.YtjefpjajkbldpaaDoorRows
import GoSem.ClaimSeven
namespace Go.Proofs.YtjefpjajkbldpaaDoor
namespace Rows

/-- THE TIED CARD OF 'gantlaw1.ApartTells'. -/
def apartTellsCard : Claim7 := { stood := { row := apartTellsRow, standIns := [], harness := (true, "236752160fb87a02ed6113bfcd9bf9c1784e4c615f7c24173d86bd5eb7c8e0b7"), looks := false }, kinds := [], alts := [], laidByText := true, laidKinds := [.data], laidTests := true, laidLooks := .later }
def ApartTellsCardSaid : Prop := Claim7.holds Tryd.pinned (.plain (OpenSpec.ofChange apartTellsSpec)) apartTellsCard

/-- THE SECOND FORM's CARD OF 'gantlaw1.ApartTells'. -/
def apartTellsUptoCard : Claim7 := { stood := { row := apartTellsUptoRow, standIns := [], harness := (true, "236752160fb87a02ed6113bfcd9bf9c1784e4c615f7c24173d86bd5eb7c8e0b7"), looks := false }, kinds := [], alts := [], laidByText := true, laidKinds := [.data], laidTests := true, laidLooks := .later }
def ApartTellsUptoCardSaid : Prop := Claim7.holds Tryd.pinned (.plain (OpenSpec.upto apartTellsSpec)) apartTellsUptoCard
end Rows
end Go.Proofs.YtjefpjajkbldpaaDoor
