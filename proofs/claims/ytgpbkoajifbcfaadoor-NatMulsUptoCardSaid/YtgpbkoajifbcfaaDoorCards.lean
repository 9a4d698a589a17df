/-
  DERIVED. GIVEN WITH THE SEED: THE CARDS: each row of YtgpbkoajifbcfaaDoorRows.lean that lists a variable, with what it lists TIED to the program's text (the seventh form; the later family's looks); each row that meets fmt, with fmt's text TOLD by the authors' own Lean function (tested against real Go, not proved from fmt's source: count such statements apart). THE CARD IS WHAT COUNTS. Prove the row's statement (the work); the ties are given (YtgpbkoajifbcfaaDoorTie.lean); close each card by the builder's one call (the guide's Derived/Test/ToyasCard.lean, 'card_holds'). Laid BY PROGRAM, IN A SANDBOX (cutbox-door.mjs). By AI agents, Wed Nov 11 2026. No macro, syntax, notation, axiom, sorry.
-/
import Derived.Test.YtgpbkoajifbcfaaDoorRows
import GoSem.ClaimSeven
namespace Go.Proofs.YtgpbkoajifbcfaaDoor
namespace Rows

/-- THE TIED CARD OF 'gantlaw1.NatInts'. -/
def natIntsCard : Claim7 := { stood := { row := natIntsRow, standIns := [], harness := (true, "ad4690f2e2488e9f5e8c03c9c61222c6b633668a1008a419e2d5c7ecf40d5afa"), looks := false }, kinds := [], alts := [], laidByText := true, laidKinds := [.data, .pinned], laidTests := true, laidLooks := .later }
def NatIntsCardSaid : Prop := Claim7.holds Tryd.pinned (.plain (OpenSpec.ofChange natIntsSpec)) natIntsCard

/-- THE TIED CARD OF 'gantlaw1.NatAdds'. -/
def natAddsCard : Claim7 := { stood := { row := natAddsRow, standIns := [], harness := (true, "ad4690f2e2488e9f5e8c03c9c61222c6b633668a1008a419e2d5c7ecf40d5afa"), looks := false }, kinds := [], alts := [], laidByText := true, laidKinds := [.data, .pinned], laidTests := true, laidLooks := .later }
def NatAddsCardSaid : Prop := Claim7.holds Tryd.pinned (.plain (OpenSpec.ofChange natAddsSpec)) natAddsCard

/-- THE TIED CARD OF 'gantlaw1.NatTexts'. -/
def natTextsCard : Claim7 := { stood := { row := natTextsRow, standIns := [], harness := (true, "ad4690f2e2488e9f5e8c03c9c61222c6b633668a1008a419e2d5c7ecf40d5afa"), looks := false }, kinds := [], alts := [], laidByText := true, laidKinds := [.data, .pinned], laidTests := true, laidLooks := .later }
def NatTextsCardSaid : Prop := Claim7.holds Tryd.pinned (.plain (OpenSpec.ofChange natTextsSpec)) natTextsCard

/-- THE TIED CARD OF 'gantlaw1.NatMuls'. -/
def natMulsCard : Claim7 := { stood := { row := natMulsRow, standIns := [], harness := (true, "ad4690f2e2488e9f5e8c03c9c61222c6b633668a1008a419e2d5c7ecf40d5afa"), looks := false }, kinds := [], alts := [], laidByText := true, laidKinds := [.data, .pinned], laidTests := true, laidLooks := .later }
def NatMulsCardSaid : Prop := Claim7.holds Tryd.pinned (.plain (OpenSpec.ofChange natMulsSpec)) natMulsCard

/-- THE TIED CARD OF 'gantlaw1.GridBoxes'. -/
def gridBoxesCard : Claim7 := { stood := { row := gridBoxesRow, standIns := [], harness := (true, "ad4690f2e2488e9f5e8c03c9c61222c6b633668a1008a419e2d5c7ecf40d5afa"), looks := false }, kinds := [], alts := [], laidByText := true, laidKinds := [.data], laidTests := true, laidLooks := .later }
def GridBoxesCardSaid : Prop := Claim7.holds Tryd.pinned (.plain (OpenSpec.ofChange gridBoxesSpec)) gridBoxesCard

/-- THE TIED CARD OF 'gantlaw3.TimingProfiles'. -/
def timingProfilesCard : Claim7 := { stood := { row := timingProfilesRow, standIns := [], harness := (true, "ad4690f2e2488e9f5e8c03c9c61222c6b633668a1008a419e2d5c7ecf40d5afa"), looks := false }, kinds := [], alts := [], laidByText := true, laidKinds := [.data], laidTests := true, laidLooks := .later }
def TimingProfilesCardSaid : Prop := Claim7.holds Tryd.pinned (.plain (OpenSpec.ofChange timingProfilesSpec)) timingProfilesCard

/-- THE TIED CARD OF 'gantlaw1.FrameLists'. -/
def frameListsCard : Claim7 := { stood := { row := frameListsRow, standIns := [], harness := (true, "ad4690f2e2488e9f5e8c03c9c61222c6b633668a1008a419e2d5c7ecf40d5afa"), looks := false }, kinds := [], alts := [], laidByText := true, laidKinds := [.data], laidTests := true, laidLooks := .later }
def FrameListsCardSaid : Prop := Claim7.holds Tryd.pinned (.plain (OpenSpec.ofChange frameListsSpec)) frameListsCard

/-- THE TIED CARD OF 'gantlaw3.ClearSplits'. -/
def clearSplitsCard : Claim7 := { stood := { row := clearSplitsRow, standIns := [], harness := (true, "ad4690f2e2488e9f5e8c03c9c61222c6b633668a1008a419e2d5c7ecf40d5afa"), looks := false }, kinds := [], alts := [], laidByText := true, laidKinds := [.data], laidTests := true, laidLooks := .later }
def ClearSplitsCardSaid : Prop := Claim7.holds Tryd.pinned (.plain (OpenSpec.ofChange clearSplitsSpec)) clearSplitsCard

/-- THE TIED CARD OF 'gantlaw1.VecTells'. -/
def vecTellsCard : Claim7 := { stood := { row := vecTellsRow, standIns := [], harness := (true, "ad4690f2e2488e9f5e8c03c9c61222c6b633668a1008a419e2d5c7ecf40d5afa"), looks := false }, kinds := [], alts := [], laidByText := true, laidKinds := [.data], laidTests := true, laidLooks := .later }
def VecTellsCardSaid : Prop := Claim7.holds Tryd.pinned (.plain (OpenSpec.ofChange vecTellsSpec)) vecTellsCard

/-- THE TIED CARD OF 'gantlaw1.SweepBoxes'. -/
def sweepBoxesCard : Claim7 := { stood := { row := sweepBoxesRow, standIns := [], harness := (true, "ad4690f2e2488e9f5e8c03c9c61222c6b633668a1008a419e2d5c7ecf40d5afa"), looks := false }, kinds := [], alts := [], laidByText := true, laidKinds := [.data], laidTests := true, laidLooks := .later }
def SweepBoxesCardSaid : Prop := Claim7.holds Tryd.pinned (.plain (OpenSpec.ofChange sweepBoxesSpec)) sweepBoxesCard

/-- THE SECOND FORM's CARD OF 'gantlaw1.NatInts'. -/
def natIntsUptoCard : Claim7 := { stood := { row := natIntsUptoRow, standIns := [], harness := (true, "ad4690f2e2488e9f5e8c03c9c61222c6b633668a1008a419e2d5c7ecf40d5afa"), looks := false }, kinds := [], alts := [], laidByText := true, laidKinds := [.data, .pinned], laidTests := true, laidLooks := .later }
def NatIntsUptoCardSaid : Prop := Claim7.holds Tryd.pinned (.plain (OpenSpec.upto natIntsSpec)) natIntsUptoCard

/-- THE SECOND FORM's CARD OF 'gantlaw1.NatAdds'. -/
def natAddsUptoCard : Claim7 := { stood := { row := natAddsUptoRow, standIns := [], harness := (true, "ad4690f2e2488e9f5e8c03c9c61222c6b633668a1008a419e2d5c7ecf40d5afa"), looks := false }, kinds := [], alts := [], laidByText := true, laidKinds := [.data, .pinned], laidTests := true, laidLooks := .later }
def NatAddsUptoCardSaid : Prop := Claim7.holds Tryd.pinned (.plain (OpenSpec.upto natAddsSpec)) natAddsUptoCard

/-- THE SECOND FORM's CARD OF 'gantlaw1.NatTexts'. -/
def natTextsUptoCard : Claim7 := { stood := { row := natTextsUptoRow, standIns := [], harness := (true, "ad4690f2e2488e9f5e8c03c9c61222c6b633668a1008a419e2d5c7ecf40d5afa"), looks := false }, kinds := [], alts := [], laidByText := true, laidKinds := [.data, .pinned], laidTests := true, laidLooks := .later }
def NatTextsUptoCardSaid : Prop := Claim7.holds Tryd.pinned (.plain (OpenSpec.upto natTextsSpec)) natTextsUptoCard

/-- THE SECOND FORM's CARD OF 'gantlaw1.NatMuls'. -/
def natMulsUptoCard : Claim7 := { stood := { row := natMulsUptoRow, standIns := [], harness := (true, "ad4690f2e2488e9f5e8c03c9c61222c6b633668a1008a419e2d5c7ecf40d5afa"), looks := false }, kinds := [], alts := [], laidByText := true, laidKinds := [.data, .pinned], laidTests := true, laidLooks := .later }
def NatMulsUptoCardSaid : Prop := Claim7.holds Tryd.pinned (.plain (OpenSpec.upto natMulsSpec)) natMulsUptoCard

/-- THE SECOND FORM's CARD OF 'gantlaw1.GridBoxes'. -/
def gridBoxesUptoCard : Claim7 := { stood := { row := gridBoxesUptoRow, standIns := [], harness := (true, "ad4690f2e2488e9f5e8c03c9c61222c6b633668a1008a419e2d5c7ecf40d5afa"), looks := false }, kinds := [], alts := [], laidByText := true, laidKinds := [.data], laidTests := true, laidLooks := .later }
def GridBoxesUptoCardSaid : Prop := Claim7.holds Tryd.pinned (.plain (OpenSpec.upto gridBoxesSpec)) gridBoxesUptoCard

/-- THE SECOND FORM's CARD OF 'gantlaw3.TimingProfiles'. -/
def timingProfilesUptoCard : Claim7 := { stood := { row := timingProfilesUptoRow, standIns := [], harness := (true, "ad4690f2e2488e9f5e8c03c9c61222c6b633668a1008a419e2d5c7ecf40d5afa"), looks := false }, kinds := [], alts := [], laidByText := true, laidKinds := [.data], laidTests := true, laidLooks := .later }
def TimingProfilesUptoCardSaid : Prop := Claim7.holds Tryd.pinned (.plain (OpenSpec.upto timingProfilesSpec)) timingProfilesUptoCard

/-- THE SECOND FORM's CARD OF 'gantlaw1.FrameLists'. -/
def frameListsUptoCard : Claim7 := { stood := { row := frameListsUptoRow, standIns := [], harness := (true, "ad4690f2e2488e9f5e8c03c9c61222c6b633668a1008a419e2d5c7ecf40d5afa"), looks := false }, kinds := [], alts := [], laidByText := true, laidKinds := [.data], laidTests := true, laidLooks := .later }
def FrameListsUptoCardSaid : Prop := Claim7.holds Tryd.pinned (.plain (OpenSpec.upto frameListsSpec)) frameListsUptoCard

/-- THE SECOND FORM's CARD OF 'gantlaw3.ClearSplits'. -/
def clearSplitsUptoCard : Claim7 := { stood := { row := clearSplitsUptoRow, standIns := [], harness := (true, "ad4690f2e2488e9f5e8c03c9c61222c6b633668a1008a419e2d5c7ecf40d5afa"), looks := false }, kinds := [], alts := [], laidByText := true, laidKinds := [.data], laidTests := true, laidLooks := .later }
def ClearSplitsUptoCardSaid : Prop := Claim7.holds Tryd.pinned (.plain (OpenSpec.upto clearSplitsSpec)) clearSplitsUptoCard

/-- THE SECOND FORM's CARD OF 'gantlaw1.VecTells'. -/
def vecTellsUptoCard : Claim7 := { stood := { row := vecTellsUptoRow, standIns := [], harness := (true, "ad4690f2e2488e9f5e8c03c9c61222c6b633668a1008a419e2d5c7ecf40d5afa"), looks := false }, kinds := [], alts := [], laidByText := true, laidKinds := [.data], laidTests := true, laidLooks := .later }
def VecTellsUptoCardSaid : Prop := Claim7.holds Tryd.pinned (.plain (OpenSpec.upto vecTellsSpec)) vecTellsUptoCard

/-- THE SECOND FORM's CARD OF 'gantlaw1.SweepBoxes'. -/
def sweepBoxesUptoCard : Claim7 := { stood := { row := sweepBoxesUptoRow, standIns := [], harness := (true, "ad4690f2e2488e9f5e8c03c9c61222c6b633668a1008a419e2d5c7ecf40d5afa"), looks := false }, kinds := [], alts := [], laidByText := true, laidKinds := [.data], laidTests := true, laidLooks := .later }
def SweepBoxesUptoCardSaid : Prop := Claim7.holds Tryd.pinned (.plain (OpenSpec.upto sweepBoxesSpec)) sweepBoxesUptoCard
end Rows
end Go.Proofs.YtgpbkoajifbcfaaDoor
