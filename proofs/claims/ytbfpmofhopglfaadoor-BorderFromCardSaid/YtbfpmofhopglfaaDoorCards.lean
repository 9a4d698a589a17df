/-
  DERIVED. GIVEN WITH THE SEED: THE CARDS: each row of YtbfpmofhopglfaaDoorRows.lean that lists a variable, with what it lists TIED to the program's text (the seventh form; the later family's looks); each row that meets fmt, with fmt's text TOLD by the authors' own Lean function (tested against real Go, not proved from fmt's source: count such statements apart). THE CARD IS WHAT COUNTS. Prove the row's statement (the work); the ties are given (YtbfpmofhopglfaaDoorTie.lean); close each card by the builder's one call (the guide's Derived/Test/ToyasCard.lean, 'card_holds'). Laid BY PROGRAM, IN A SANDBOX (cutbox-door.mjs). By AI agents, Wed Nov 11 2026. No macro, syntax, notation, axiom, sorry.
-/
import Derived.Test.YtbfpmofhopglfaaDoorRows
import GoSem.ClaimSeven
namespace Go.Proofs.YtbfpmofhopglfaaDoor
namespace Rows

/-- THE TIED CARD OF 'gantlaw1.BorderFrom'. -/
def borderFromCard : Claim7 := { stood := { row := borderFromRow, standIns := [], harness := (true, "7a86e19dcafdda14123cedb01eddb2c04c3bad766ba76f263de1d422f9b710e6"), looks := false }, kinds := [], alts := [], laidByText := true, laidKinds := [.data, .data, .pinned], laidTests := true, laidLooks := .later }
def BorderFromCardSaid : Prop := Claim7.holds Tryd.pinned (.plain (OpenSpec.ofChange borderFromSpec)) borderFromCard

/-- THE TIED CARD OF 'gantlaw1.TurnSpans'. -/
def turnSpansCard : Claim7 := { stood := { row := turnSpansRow, standIns := [], harness := (true, "7a86e19dcafdda14123cedb01eddb2c04c3bad766ba76f263de1d422f9b710e6"), looks := false }, kinds := [], alts := [], laidByText := true, laidKinds := [.data], laidTests := true, laidLooks := .later }
def TurnSpansCardSaid : Prop := Claim7.holds Tryd.pinned (.plain (OpenSpec.ofChange turnSpansSpec)) turnSpansCard

/-- THE TIED CARD OF 'gantlaw1.SweepBoxes'. -/
def sweepBoxesCard : Claim7 := { stood := { row := sweepBoxesRow, standIns := [], harness := (true, "7a86e19dcafdda14123cedb01eddb2c04c3bad766ba76f263de1d422f9b710e6"), looks := false }, kinds := [], alts := [], laidByText := true, laidKinds := [.data], laidTests := true, laidLooks := .later }
def SweepBoxesCardSaid : Prop := Claim7.holds Tryd.pinned (.plain (OpenSpec.ofChange sweepBoxesSpec)) sweepBoxesCard

/-- THE TIED CARD OF 'gantlaw1.NatTexts'. -/
def natTextsCard : Claim7 := { stood := { row := natTextsRow, standIns := [], harness := (true, "7a86e19dcafdda14123cedb01eddb2c04c3bad766ba76f263de1d422f9b710e6"), looks := false }, kinds := [], alts := [], laidByText := true, laidKinds := [.data, .pinned], laidTests := true, laidLooks := .later }
def NatTextsCardSaid : Prop := Claim7.holds Tryd.pinned (.plain (OpenSpec.ofChange natTextsSpec)) natTextsCard

/-- THE TIED CARD OF 'gantlaw1.RatTexts'. -/
def ratTextsCard : Claim7 := { stood := { row := ratTextsRow, standIns := [], harness := (true, "7a86e19dcafdda14123cedb01eddb2c04c3bad766ba76f263de1d422f9b710e6"), looks := false }, kinds := [], alts := [], laidByText := true, laidKinds := [.data, .data, .pinned], laidTests := true, laidLooks := .later }
def RatTextsCardSaid : Prop := Claim7.holds Tryd.pinned (.plain (OpenSpec.ofChange ratTextsSpec)) ratTextsCard

/-- THE TIED CARD OF 'gantlaw1.GridBoxes'. -/
def gridBoxesCard : Claim7 := { stood := { row := gridBoxesRow, standIns := [], harness := (true, "7a86e19dcafdda14123cedb01eddb2c04c3bad766ba76f263de1d422f9b710e6"), looks := false }, kinds := [], alts := [], laidByText := true, laidKinds := [.data], laidTests := true, laidLooks := .later }
def GridBoxesCardSaid : Prop := Claim7.holds Tryd.pinned (.plain (OpenSpec.ofChange gridBoxesSpec)) gridBoxesCard

/-- THE TIED CARD OF 'gantlaw1.SturmEvals'. -/
def sturmEvalsCard : Claim7 := { stood := { row := sturmEvalsRow, standIns := [], harness := (true, "7a86e19dcafdda14123cedb01eddb2c04c3bad766ba76f263de1d422f9b710e6"), looks := false }, kinds := [], alts := [], laidByText := true, laidKinds := [.data], laidTests := true, laidLooks := .later }
def SturmEvalsCardSaid : Prop := Claim7.holds Tryd.pinned (.plain (OpenSpec.ofChange sturmEvalsSpec)) sturmEvalsCard

/-- THE TIED CARD OF 'gantlaw1.PolyChecks'. -/
def polyChecksCard : Claim7 := { stood := { row := polyChecksRow, standIns := [], harness := (true, "7a86e19dcafdda14123cedb01eddb2c04c3bad766ba76f263de1d422f9b710e6"), looks := false }, kinds := [], alts := [], laidByText := true, laidKinds := [.data], laidTests := true, laidLooks := .later }
def PolyChecksCardSaid : Prop := Claim7.holds Tryd.pinned (.plain (OpenSpec.ofChange polyChecksSpec)) polyChecksCard

/-- THE TIED CARD OF 'gantlaw1.VecTells'. -/
def vecTellsCard : Claim7 := { stood := { row := vecTellsRow, standIns := [], harness := (true, "7a86e19dcafdda14123cedb01eddb2c04c3bad766ba76f263de1d422f9b710e6"), looks := false }, kinds := [], alts := [], laidByText := true, laidKinds := [.data], laidTests := true, laidLooks := .later }
def VecTellsCardSaid : Prop := Claim7.holds Tryd.pinned (.plain (OpenSpec.ofChange vecTellsSpec)) vecTellsCard

/-- THE TIED CARD OF 'gantlaw1.FrameTells'. -/
def frameTellsCard : Claim7 := { stood := { row := frameTellsRow, standIns := [], harness := (true, "7a86e19dcafdda14123cedb01eddb2c04c3bad766ba76f263de1d422f9b710e6"), looks := false }, kinds := [], alts := [], laidByText := true, laidKinds := [.data], laidTests := true, laidLooks := .later }
def FrameTellsCardSaid : Prop := Claim7.holds Tryd.pinned (.plain (OpenSpec.ofChange frameTellsSpec)) frameTellsCard

/-- THE TIED CARD OF 'gantlaw1.SpanMuls'. -/
def spanMulsCard : Claim7 := { stood := { row := spanMulsRow, standIns := [], harness := (true, "7a86e19dcafdda14123cedb01eddb2c04c3bad766ba76f263de1d422f9b710e6"), looks := false }, kinds := [], alts := [], laidByText := true, laidKinds := [.data], laidTests := true, laidLooks := .later }
def SpanMulsCardSaid : Prop := Claim7.holds Tryd.pinned (.plain (OpenSpec.ofChange spanMulsSpec)) spanMulsCard

/-- THE TIED CARD OF 'gantlaw1.SpanAdds'. -/
def spanAddsCard : Claim7 := { stood := { row := spanAddsRow, standIns := [], harness := (true, "7a86e19dcafdda14123cedb01eddb2c04c3bad766ba76f263de1d422f9b710e6"), looks := false }, kinds := [], alts := [], laidByText := true, laidKinds := [.data], laidTests := true, laidLooks := .later }
def SpanAddsCardSaid : Prop := Claim7.holds Tryd.pinned (.plain (OpenSpec.ofChange spanAddsSpec)) spanAddsCard

/-- THE TIED CARD OF 'gantlaw1.RatFloors'. -/
def ratFloorsCard : Claim7 := { stood := { row := ratFloorsRow, standIns := [], harness := (true, "7a86e19dcafdda14123cedb01eddb2c04c3bad766ba76f263de1d422f9b710e6"), looks := false }, kinds := [], alts := [], laidByText := true, laidKinds := [.data, .data, .pinned], laidTests := true, laidLooks := .later }
def RatFloorsCardSaid : Prop := Claim7.holds Tryd.pinned (.plain (OpenSpec.ofChange ratFloorsSpec)) ratFloorsCard

/-- THE TIED CARD OF 'gantlaw1.RatAdds'. -/
def ratAddsCard : Claim7 := { stood := { row := ratAddsRow, standIns := [], harness := (true, "7a86e19dcafdda14123cedb01eddb2c04c3bad766ba76f263de1d422f9b710e6"), looks := false }, kinds := [], alts := [], laidByText := true, laidKinds := [.data, .data, .pinned], laidTests := true, laidLooks := .later }
def RatAddsCardSaid : Prop := Claim7.holds Tryd.pinned (.plain (OpenSpec.ofChange ratAddsSpec)) ratAddsCard

/-- THE TIED CARD OF 'gantlaw1.NatGcds'. -/
def natGcdsCard : Claim7 := { stood := { row := natGcdsRow, standIns := [], harness := (true, "7a86e19dcafdda14123cedb01eddb2c04c3bad766ba76f263de1d422f9b710e6"), looks := false }, kinds := [], alts := [], laidByText := true, laidKinds := [.data, .data, .pinned], laidTests := true, laidLooks := .later }
def NatGcdsCardSaid : Prop := Claim7.holds Tryd.pinned (.plain (OpenSpec.ofChange natGcdsSpec)) natGcdsCard

/-- THE TIED CARD OF 'gantlaw1.ApartBoxes'. -/
def apartBoxesCard : Claim7 := { stood := { row := apartBoxesRow, standIns := [], harness := (true, "7a86e19dcafdda14123cedb01eddb2c04c3bad766ba76f263de1d422f9b710e6"), looks := false }, kinds := [], alts := [], laidByText := true, laidKinds := [.data], laidTests := true, laidLooks := .later }
def ApartBoxesCardSaid : Prop := Claim7.holds Tryd.pinned (.plain (OpenSpec.ofChange apartBoxesSpec)) apartBoxesCard

/-- THE TIED CARD OF 'gantlaw1.FrameLists'. -/
def frameListsCard : Claim7 := { stood := { row := frameListsRow, standIns := [], harness := (true, "7a86e19dcafdda14123cedb01eddb2c04c3bad766ba76f263de1d422f9b710e6"), looks := false }, kinds := [], alts := [], laidByText := true, laidKinds := [.data], laidTests := true, laidLooks := .later }
def FrameListsCardSaid : Prop := Claim7.holds Tryd.pinned (.plain (OpenSpec.ofChange frameListsSpec)) frameListsCard

/-- THE SECOND FORM's CARD OF 'gantlaw1.BorderFrom'. -/
def borderFromUptoCard : Claim7 := { stood := { row := borderFromUptoRow, standIns := [], harness := (true, "7a86e19dcafdda14123cedb01eddb2c04c3bad766ba76f263de1d422f9b710e6"), looks := false }, kinds := [], alts := [], laidByText := true, laidKinds := [.data, .data, .pinned], laidTests := true, laidLooks := .later }
def BorderFromUptoCardSaid : Prop := Claim7.holds Tryd.pinned (.plain (OpenSpec.upto borderFromSpec)) borderFromUptoCard

/-- THE SECOND FORM's CARD OF 'gantlaw1.TurnSpans'. -/
def turnSpansUptoCard : Claim7 := { stood := { row := turnSpansUptoRow, standIns := [], harness := (true, "7a86e19dcafdda14123cedb01eddb2c04c3bad766ba76f263de1d422f9b710e6"), looks := false }, kinds := [], alts := [], laidByText := true, laidKinds := [.data], laidTests := true, laidLooks := .later }
def TurnSpansUptoCardSaid : Prop := Claim7.holds Tryd.pinned (.plain (OpenSpec.upto turnSpansSpec)) turnSpansUptoCard

/-- THE SECOND FORM's CARD OF 'gantlaw1.SweepBoxes'. -/
def sweepBoxesUptoCard : Claim7 := { stood := { row := sweepBoxesUptoRow, standIns := [], harness := (true, "7a86e19dcafdda14123cedb01eddb2c04c3bad766ba76f263de1d422f9b710e6"), looks := false }, kinds := [], alts := [], laidByText := true, laidKinds := [.data], laidTests := true, laidLooks := .later }
def SweepBoxesUptoCardSaid : Prop := Claim7.holds Tryd.pinned (.plain (OpenSpec.upto sweepBoxesSpec)) sweepBoxesUptoCard

/-- THE SECOND FORM's CARD OF 'gantlaw1.NatTexts'. -/
def natTextsUptoCard : Claim7 := { stood := { row := natTextsUptoRow, standIns := [], harness := (true, "7a86e19dcafdda14123cedb01eddb2c04c3bad766ba76f263de1d422f9b710e6"), looks := false }, kinds := [], alts := [], laidByText := true, laidKinds := [.data, .pinned], laidTests := true, laidLooks := .later }
def NatTextsUptoCardSaid : Prop := Claim7.holds Tryd.pinned (.plain (OpenSpec.upto natTextsSpec)) natTextsUptoCard

/-- THE SECOND FORM's CARD OF 'gantlaw1.RatTexts'. -/
def ratTextsUptoCard : Claim7 := { stood := { row := ratTextsUptoRow, standIns := [], harness := (true, "7a86e19dcafdda14123cedb01eddb2c04c3bad766ba76f263de1d422f9b710e6"), looks := false }, kinds := [], alts := [], laidByText := true, laidKinds := [.data, .data, .pinned], laidTests := true, laidLooks := .later }
def RatTextsUptoCardSaid : Prop := Claim7.holds Tryd.pinned (.plain (OpenSpec.upto ratTextsSpec)) ratTextsUptoCard

/-- THE SECOND FORM's CARD OF 'gantlaw1.GridBoxes'. -/
def gridBoxesUptoCard : Claim7 := { stood := { row := gridBoxesUptoRow, standIns := [], harness := (true, "7a86e19dcafdda14123cedb01eddb2c04c3bad766ba76f263de1d422f9b710e6"), looks := false }, kinds := [], alts := [], laidByText := true, laidKinds := [.data], laidTests := true, laidLooks := .later }
def GridBoxesUptoCardSaid : Prop := Claim7.holds Tryd.pinned (.plain (OpenSpec.upto gridBoxesSpec)) gridBoxesUptoCard

/-- THE SECOND FORM's CARD OF 'gantlaw1.SturmEvals'. -/
def sturmEvalsUptoCard : Claim7 := { stood := { row := sturmEvalsUptoRow, standIns := [], harness := (true, "7a86e19dcafdda14123cedb01eddb2c04c3bad766ba76f263de1d422f9b710e6"), looks := false }, kinds := [], alts := [], laidByText := true, laidKinds := [.data], laidTests := true, laidLooks := .later }
def SturmEvalsUptoCardSaid : Prop := Claim7.holds Tryd.pinned (.plain (OpenSpec.upto sturmEvalsSpec)) sturmEvalsUptoCard

/-- THE SECOND FORM's CARD OF 'gantlaw1.PolyChecks'. -/
def polyChecksUptoCard : Claim7 := { stood := { row := polyChecksUptoRow, standIns := [], harness := (true, "7a86e19dcafdda14123cedb01eddb2c04c3bad766ba76f263de1d422f9b710e6"), looks := false }, kinds := [], alts := [], laidByText := true, laidKinds := [.data], laidTests := true, laidLooks := .later }
def PolyChecksUptoCardSaid : Prop := Claim7.holds Tryd.pinned (.plain (OpenSpec.upto polyChecksSpec)) polyChecksUptoCard

/-- THE SECOND FORM's CARD OF 'gantlaw1.VecTells'. -/
def vecTellsUptoCard : Claim7 := { stood := { row := vecTellsUptoRow, standIns := [], harness := (true, "7a86e19dcafdda14123cedb01eddb2c04c3bad766ba76f263de1d422f9b710e6"), looks := false }, kinds := [], alts := [], laidByText := true, laidKinds := [.data], laidTests := true, laidLooks := .later }
def VecTellsUptoCardSaid : Prop := Claim7.holds Tryd.pinned (.plain (OpenSpec.upto vecTellsSpec)) vecTellsUptoCard

/-- THE SECOND FORM's CARD OF 'gantlaw1.FrameTells'. -/
def frameTellsUptoCard : Claim7 := { stood := { row := frameTellsUptoRow, standIns := [], harness := (true, "7a86e19dcafdda14123cedb01eddb2c04c3bad766ba76f263de1d422f9b710e6"), looks := false }, kinds := [], alts := [], laidByText := true, laidKinds := [.data], laidTests := true, laidLooks := .later }
def FrameTellsUptoCardSaid : Prop := Claim7.holds Tryd.pinned (.plain (OpenSpec.upto frameTellsSpec)) frameTellsUptoCard

/-- THE SECOND FORM's CARD OF 'gantlaw1.SpanMuls'. -/
def spanMulsUptoCard : Claim7 := { stood := { row := spanMulsUptoRow, standIns := [], harness := (true, "7a86e19dcafdda14123cedb01eddb2c04c3bad766ba76f263de1d422f9b710e6"), looks := false }, kinds := [], alts := [], laidByText := true, laidKinds := [.data], laidTests := true, laidLooks := .later }
def SpanMulsUptoCardSaid : Prop := Claim7.holds Tryd.pinned (.plain (OpenSpec.upto spanMulsSpec)) spanMulsUptoCard

/-- THE SECOND FORM's CARD OF 'gantlaw1.SpanAdds'. -/
def spanAddsUptoCard : Claim7 := { stood := { row := spanAddsUptoRow, standIns := [], harness := (true, "7a86e19dcafdda14123cedb01eddb2c04c3bad766ba76f263de1d422f9b710e6"), looks := false }, kinds := [], alts := [], laidByText := true, laidKinds := [.data], laidTests := true, laidLooks := .later }
def SpanAddsUptoCardSaid : Prop := Claim7.holds Tryd.pinned (.plain (OpenSpec.upto spanAddsSpec)) spanAddsUptoCard

/-- THE SECOND FORM's CARD OF 'gantlaw1.RatFloors'. -/
def ratFloorsUptoCard : Claim7 := { stood := { row := ratFloorsUptoRow, standIns := [], harness := (true, "7a86e19dcafdda14123cedb01eddb2c04c3bad766ba76f263de1d422f9b710e6"), looks := false }, kinds := [], alts := [], laidByText := true, laidKinds := [.data, .data, .pinned], laidTests := true, laidLooks := .later }
def RatFloorsUptoCardSaid : Prop := Claim7.holds Tryd.pinned (.plain (OpenSpec.upto ratFloorsSpec)) ratFloorsUptoCard

/-- THE SECOND FORM's CARD OF 'gantlaw1.RatAdds'. -/
def ratAddsUptoCard : Claim7 := { stood := { row := ratAddsUptoRow, standIns := [], harness := (true, "7a86e19dcafdda14123cedb01eddb2c04c3bad766ba76f263de1d422f9b710e6"), looks := false }, kinds := [], alts := [], laidByText := true, laidKinds := [.data, .data, .pinned], laidTests := true, laidLooks := .later }
def RatAddsUptoCardSaid : Prop := Claim7.holds Tryd.pinned (.plain (OpenSpec.upto ratAddsSpec)) ratAddsUptoCard

/-- THE SECOND FORM's CARD OF 'gantlaw1.NatGcds'. -/
def natGcdsUptoCard : Claim7 := { stood := { row := natGcdsUptoRow, standIns := [], harness := (true, "7a86e19dcafdda14123cedb01eddb2c04c3bad766ba76f263de1d422f9b710e6"), looks := false }, kinds := [], alts := [], laidByText := true, laidKinds := [.data, .data, .pinned], laidTests := true, laidLooks := .later }
def NatGcdsUptoCardSaid : Prop := Claim7.holds Tryd.pinned (.plain (OpenSpec.upto natGcdsSpec)) natGcdsUptoCard

/-- THE SECOND FORM's CARD OF 'gantlaw1.ApartBoxes'. -/
def apartBoxesUptoCard : Claim7 := { stood := { row := apartBoxesUptoRow, standIns := [], harness := (true, "7a86e19dcafdda14123cedb01eddb2c04c3bad766ba76f263de1d422f9b710e6"), looks := false }, kinds := [], alts := [], laidByText := true, laidKinds := [.data], laidTests := true, laidLooks := .later }
def ApartBoxesUptoCardSaid : Prop := Claim7.holds Tryd.pinned (.plain (OpenSpec.upto apartBoxesSpec)) apartBoxesUptoCard

/-- THE SECOND FORM's CARD OF 'gantlaw1.FrameLists'. -/
def frameListsUptoCard : Claim7 := { stood := { row := frameListsUptoRow, standIns := [], harness := (true, "7a86e19dcafdda14123cedb01eddb2c04c3bad766ba76f263de1d422f9b710e6"), looks := false }, kinds := [], alts := [], laidByText := true, laidKinds := [.data], laidTests := true, laidLooks := .later }
def FrameListsUptoCardSaid : Prop := Claim7.holds Tryd.pinned (.plain (OpenSpec.upto frameListsSpec)) frameListsUptoCard
end Rows
end Go.Proofs.YtbfpmofhopglfaaDoor
