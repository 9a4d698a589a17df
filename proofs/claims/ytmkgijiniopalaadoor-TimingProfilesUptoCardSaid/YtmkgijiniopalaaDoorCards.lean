/-
  DERIVED. GIVEN WITH THE SEED: THE CARDS: each row of YtmkgijiniopalaaDoorRows.lean that lists a variable, with what it lists TIED to the program's text (the seventh form; the later family's looks); each row that meets fmt, with fmt's text TOLD by the authors' own Lean function (tested against real Go, not proved from fmt's source: count such statements apart). THE CARD IS WHAT COUNTS. Prove the row's statement (the work); the ties are given (YtmkgijiniopalaaDoorTie.lean); close each card by the builder's one call (the guide's Derived/Test/ToyasCard.lean, 'card_holds'). Laid BY PROGRAM, IN A SANDBOX (cutbox-door.mjs). By AI agents, Wed Nov 11 2026. No macro, syntax, notation, axiom, sorry.
-/
import Derived.Test.YtmkgijiniopalaaDoorRows
import GoSem.ClaimSeven
namespace Go.Proofs.YtmkgijiniopalaaDoor
namespace Rows

/-- THE TIED CARD OF 'gantlaw3.ClearSplits'. -/
def clearSplitsCard : Claim7 := { stood := { row := clearSplitsRow, standIns := [], harness := (true, "c4d6a00985896e12f7cfa6fe394470cd0cac7955837f75421b89ac4229b72c2b"), looks := false }, kinds := [], alts := [], laidByText := true, laidKinds := [.data], laidTests := true, laidLooks := .later }
def ClearSplitsCardSaid : Prop := Claim7.holds Tryd.pinned (.plain (OpenSpec.ofChange clearSplitsSpec)) clearSplitsCard

/-- THE TIED CARD OF 'gantlaw3.TimingProfiles'. -/
def timingProfilesCard : Claim7 := { stood := { row := timingProfilesRow, standIns := [], harness := (true, "c4d6a00985896e12f7cfa6fe394470cd0cac7955837f75421b89ac4229b72c2b"), looks := false }, kinds := [], alts := [], laidByText := true, laidKinds := [.data], laidTests := true, laidLooks := .later }
def TimingProfilesCardSaid : Prop := Claim7.holds Tryd.pinned (.plain (OpenSpec.ofChange timingProfilesSpec)) timingProfilesCard

/-- THE SECOND FORM's CARD OF 'gantlaw3.ClearSplits'. -/
def clearSplitsUptoCard : Claim7 := { stood := { row := clearSplitsUptoRow, standIns := [], harness := (true, "c4d6a00985896e12f7cfa6fe394470cd0cac7955837f75421b89ac4229b72c2b"), looks := false }, kinds := [], alts := [], laidByText := true, laidKinds := [.data], laidTests := true, laidLooks := .later }
def ClearSplitsUptoCardSaid : Prop := Claim7.holds Tryd.pinned (.plain (OpenSpec.upto clearSplitsSpec)) clearSplitsUptoCard

/-- THE SECOND FORM's CARD OF 'gantlaw3.TimingProfiles'. -/
def timingProfilesUptoCard : Claim7 := { stood := { row := timingProfilesUptoRow, standIns := [], harness := (true, "c4d6a00985896e12f7cfa6fe394470cd0cac7955837f75421b89ac4229b72c2b"), looks := false }, kinds := [], alts := [], laidByText := true, laidKinds := [.data], laidTests := true, laidLooks := .later }
def TimingProfilesUptoCardSaid : Prop := Claim7.holds Tryd.pinned (.plain (OpenSpec.upto timingProfilesSpec)) timingProfilesUptoCard
end Rows
end Go.Proofs.YtmkgijiniopalaaDoor
