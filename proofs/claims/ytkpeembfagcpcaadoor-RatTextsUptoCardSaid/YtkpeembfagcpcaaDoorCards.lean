/-
  DERIVED. GIVEN WITH THE SEED: THE CARDS: each row of YtkpeembfagcpcaaDoorRows.lean that lists a variable, with what it lists TIED to the program's text (the seventh form; the later family's looks); each row that meets fmt, with fmt's text TOLD by the authors' own Lean function (tested against real Go, not proved from fmt's source: count such statements apart). THE CARD IS WHAT COUNTS. Prove the row's statement (the work); the ties are given (YtkpeembfagcpcaaDoorTie.lean); close each card by the builder's one call (the guide's Derived/Test/ToyasCard.lean, 'card_holds'). Laid BY PROGRAM, IN A SANDBOX (cutbox-door.mjs). By AI agents, Wed Nov 11 2026. No macro, syntax, notation, axiom, sorry.
-/
import Derived.Test.YtkpeembfagcpcaaDoorRows
import GoSem.ClaimSeven
namespace Go.Proofs.YtkpeembfagcpcaaDoor
namespace Rows

/-- THE TIED CARD OF 'gantlaw1.NatTexts'. -/
def natTextsCard : Claim7 := { stood := { row := natTextsRow, standIns := [], harness := (true, "909583daf2f168e6a28d2fe3a7e00a5c314b300b41df48f6b092b66d5d0141da"), looks := false }, kinds := [], alts := [], laidByText := true, laidKinds := [.data, .pinned], laidTests := true, laidLooks := .later }
def NatTextsCardSaid : Prop := Claim7.holds Tryd.pinned (.plain (OpenSpec.ofChange natTextsSpec)) natTextsCard

/-- THE TIED CARD OF 'gantlaw1.GridBoxes'. -/
def gridBoxesCard : Claim7 := { stood := { row := gridBoxesRow, standIns := [], harness := (true, "909583daf2f168e6a28d2fe3a7e00a5c314b300b41df48f6b092b66d5d0141da"), looks := false }, kinds := [], alts := [], laidByText := true, laidKinds := [.data], laidTests := true, laidLooks := .later }
def GridBoxesCardSaid : Prop := Claim7.holds Tryd.pinned (.plain (OpenSpec.ofChange gridBoxesSpec)) gridBoxesCard

/-- THE TIED CARD OF 'gantlaw1.PolyChecks'. -/
def polyChecksCard : Claim7 := { stood := { row := polyChecksRow, standIns := [], harness := (true, "909583daf2f168e6a28d2fe3a7e00a5c314b300b41df48f6b092b66d5d0141da"), looks := false }, kinds := [], alts := [], laidByText := true, laidKinds := [.data], laidTests := true, laidLooks := .later }
def PolyChecksCardSaid : Prop := Claim7.holds Tryd.pinned (.plain (OpenSpec.ofChange polyChecksSpec)) polyChecksCard

/-- THE TIED CARD OF 'gantlaw1.RatTexts'. -/
def ratTextsCard : Claim7 := { stood := { row := ratTextsRow, standIns := [], harness := (true, "909583daf2f168e6a28d2fe3a7e00a5c314b300b41df48f6b092b66d5d0141da"), looks := false }, kinds := [], alts := [], laidByText := true, laidKinds := [.data, .data, .pinned], laidTests := true, laidLooks := .later }
def RatTextsCardSaid : Prop := Claim7.holds Tryd.pinned (.plain (OpenSpec.ofChange ratTextsSpec)) ratTextsCard

/-- THE TIED CARD OF 'gantlaw1.SturmEvals'. -/
def sturmEvalsCard : Claim7 := { stood := { row := sturmEvalsRow, standIns := [], harness := (true, "909583daf2f168e6a28d2fe3a7e00a5c314b300b41df48f6b092b66d5d0141da"), looks := false }, kinds := [], alts := [], laidByText := true, laidKinds := [.data], laidTests := true, laidLooks := .later }
def SturmEvalsCardSaid : Prop := Claim7.holds Tryd.pinned (.plain (OpenSpec.ofChange sturmEvalsSpec)) sturmEvalsCard

/-- THE TIED CARD OF 'gantlaw3.TimingProfiles'. -/
def timingProfilesCard : Claim7 := { stood := { row := timingProfilesRow, standIns := [], harness := (true, "909583daf2f168e6a28d2fe3a7e00a5c314b300b41df48f6b092b66d5d0141da"), looks := false }, kinds := [], alts := [], laidByText := true, laidKinds := [.data], laidTests := true, laidLooks := .later }
def TimingProfilesCardSaid : Prop := Claim7.holds Tryd.pinned (.plain (OpenSpec.ofChange timingProfilesSpec)) timingProfilesCard

/-- THE SECOND FORM's CARD OF 'gantlaw1.NatTexts'. -/
def natTextsUptoCard : Claim7 := { stood := { row := natTextsUptoRow, standIns := [], harness := (true, "909583daf2f168e6a28d2fe3a7e00a5c314b300b41df48f6b092b66d5d0141da"), looks := false }, kinds := [], alts := [], laidByText := true, laidKinds := [.data, .pinned], laidTests := true, laidLooks := .later }
def NatTextsUptoCardSaid : Prop := Claim7.holds Tryd.pinned (.plain (OpenSpec.upto natTextsSpec)) natTextsUptoCard

/-- THE SECOND FORM's CARD OF 'gantlaw1.GridBoxes'. -/
def gridBoxesUptoCard : Claim7 := { stood := { row := gridBoxesUptoRow, standIns := [], harness := (true, "909583daf2f168e6a28d2fe3a7e00a5c314b300b41df48f6b092b66d5d0141da"), looks := false }, kinds := [], alts := [], laidByText := true, laidKinds := [.data], laidTests := true, laidLooks := .later }
def GridBoxesUptoCardSaid : Prop := Claim7.holds Tryd.pinned (.plain (OpenSpec.upto gridBoxesSpec)) gridBoxesUptoCard

/-- THE SECOND FORM's CARD OF 'gantlaw1.PolyChecks'. -/
def polyChecksUptoCard : Claim7 := { stood := { row := polyChecksUptoRow, standIns := [], harness := (true, "909583daf2f168e6a28d2fe3a7e00a5c314b300b41df48f6b092b66d5d0141da"), looks := false }, kinds := [], alts := [], laidByText := true, laidKinds := [.data], laidTests := true, laidLooks := .later }
def PolyChecksUptoCardSaid : Prop := Claim7.holds Tryd.pinned (.plain (OpenSpec.upto polyChecksSpec)) polyChecksUptoCard

/-- THE SECOND FORM's CARD OF 'gantlaw1.RatTexts'. -/
def ratTextsUptoCard : Claim7 := { stood := { row := ratTextsUptoRow, standIns := [], harness := (true, "909583daf2f168e6a28d2fe3a7e00a5c314b300b41df48f6b092b66d5d0141da"), looks := false }, kinds := [], alts := [], laidByText := true, laidKinds := [.data, .data, .pinned], laidTests := true, laidLooks := .later }
def RatTextsUptoCardSaid : Prop := Claim7.holds Tryd.pinned (.plain (OpenSpec.upto ratTextsSpec)) ratTextsUptoCard

/-- THE SECOND FORM's CARD OF 'gantlaw1.SturmEvals'. -/
def sturmEvalsUptoCard : Claim7 := { stood := { row := sturmEvalsUptoRow, standIns := [], harness := (true, "909583daf2f168e6a28d2fe3a7e00a5c314b300b41df48f6b092b66d5d0141da"), looks := false }, kinds := [], alts := [], laidByText := true, laidKinds := [.data], laidTests := true, laidLooks := .later }
def SturmEvalsUptoCardSaid : Prop := Claim7.holds Tryd.pinned (.plain (OpenSpec.upto sturmEvalsSpec)) sturmEvalsUptoCard

/-- THE SECOND FORM's CARD OF 'gantlaw3.TimingProfiles'. -/
def timingProfilesUptoCard : Claim7 := { stood := { row := timingProfilesUptoRow, standIns := [], harness := (true, "909583daf2f168e6a28d2fe3a7e00a5c314b300b41df48f6b092b66d5d0141da"), looks := false }, kinds := [], alts := [], laidByText := true, laidKinds := [.data], laidTests := true, laidLooks := .later }
def TimingProfilesUptoCardSaid : Prop := Claim7.holds Tryd.pinned (.plain (OpenSpec.upto timingProfilesSpec)) timingProfilesUptoCard
end Rows
end Go.Proofs.YtkpeembfagcpcaaDoor
