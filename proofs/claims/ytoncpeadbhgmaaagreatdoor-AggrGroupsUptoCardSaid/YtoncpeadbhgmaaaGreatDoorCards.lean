/-
  DERIVED. GIVEN WITH THE SEED: THE CARDS: each row of YtoncpeadbhgmaaaGreatDoorRows.lean that lists a variable, with what it lists TIED to the program's text (the seventh form; the later family's looks); each row that meets fmt, with fmt's text TOLD by the authors' own Lean function (tested against real Go, not proved from fmt's source: count such statements apart). THE CARD IS WHAT COUNTS. Prove the row's statement (the work); the ties are given (YtoncpeadbhgmaaaGreatDoorTie.lean); close each card by the builder's one call (the guide's Derived/Test/ToyasCard.lean, 'card_holds'). Laid BY PROGRAM, IN A SANDBOX (cutbox-door.mjs). By AI agents, Wed Nov 11 2026. No macro, syntax, notation, axiom, sorry.
-/
import Derived.Test.YtoncpeadbhgmaaaGreatDoorRows
import GoSem.ClaimSeven
namespace Go.Proofs.YtoncpeadbhgmaaaGreatDoor
namespace Rows

/-- THE TIED CARD OF 'tocsinlaw15.VecBinary'. -/
def vecBinaryCard : Claim7 := { stood := { row := vecBinaryRow, standIns := [], harness := (true, "6bfb83eb356a6377dfaf171f1872940448028ad1aaab7254d353637197ce80a9"), looks := true }, kinds := [], alts := [], laidByText := true, laidKinds := [.data, .pinned], laidTests := true, laidLooks := .later }
def VecBinaryCardSaid : Prop := Claim7.holds Tryz.pinned (.plain (OpenSpec.ofChange vecBinarySpec)) vecBinaryCard

/-- THE TIED CARD OF 'tocsinlaw15.VecScalars'. -/
def vecScalarsCard : Claim7 := { stood := { row := vecScalarsRow, standIns := [], harness := (true, "6bfb83eb356a6377dfaf171f1872940448028ad1aaab7254d353637197ce80a9"), looks := true }, kinds := [], alts := [], laidByText := true, laidKinds := [.data, .pinned], laidTests := true, laidLooks := .later }
def VecScalarsCardSaid : Prop := Claim7.holds Tryz.pinned (.plain (OpenSpec.ofChange vecScalarsSpec)) vecScalarsCard

/-- THE TIED CARD OF 'tocsinlaw16.AggrOrder'. -/
def aggrOrderCard : Claim7 := { stood := { row := aggrOrderRow, standIns := [], harness := (true, "6bfb83eb356a6377dfaf171f1872940448028ad1aaab7254d353637197ce80a9"), looks := true }, kinds := [], alts := [], laidByText := true, laidKinds := [.data, .pinned], laidTests := true, laidLooks := .later }
def AggrOrderCardSaid : Prop := Claim7.holds Tryz.pinned (.plain (OpenSpec.ofChange aggrOrderSpec)) aggrOrderCard

/-- THE TIED CARD OF 'tocsinlaw16.AggrBounds'. -/
def aggrBoundsCard : Claim7 := { stood := { row := aggrBoundsRow, standIns := [], harness := (true, "6bfb83eb356a6377dfaf171f1872940448028ad1aaab7254d353637197ce80a9"), looks := true }, kinds := [], alts := [], laidByText := true, laidKinds := [.data, .pinned], laidTests := true, laidLooks := .later }
def AggrBoundsCardSaid : Prop := Claim7.holds Tryz.pinned (.plain (OpenSpec.ofChange aggrBoundsSpec)) aggrBoundsCard

/-- THE TIED CARD OF 'tocsinlaw16.AggrTop'. -/
def aggrTopCard : Claim7 := { stood := { row := aggrTopRow, standIns := [], harness := (true, "6bfb83eb356a6377dfaf171f1872940448028ad1aaab7254d353637197ce80a9"), looks := true }, kinds := [], alts := [], laidByText := true, laidKinds := [.data, .pinned], laidTests := true, laidLooks := .later }
def AggrTopCardSaid : Prop := Claim7.holds Tryz.pinned (.plain (OpenSpec.ofChange aggrTopSpec)) aggrTopCard

/-- THE TIED CARD OF 'tocsinlaw16.AggrNumbers'. -/
def aggrNumbersCard : Claim7 := { stood := { row := aggrNumbersRow, standIns := [], harness := (true, "6bfb83eb356a6377dfaf171f1872940448028ad1aaab7254d353637197ce80a9"), looks := true }, kinds := [], alts := [], laidByText := true, laidKinds := [.data, .pinned], laidTests := true, laidLooks := .later }
def AggrNumbersCardSaid : Prop := Claim7.holds Tryz.pinned (.plain (OpenSpec.ofChange aggrNumbersSpec)) aggrNumbersCard

/-- THE TIED CARD OF 'tocsinlaw16.AggrFolds'. -/
def aggrFoldsCard : Claim7 := { stood := { row := aggrFoldsRow, standIns := [], harness := (true, "6bfb83eb356a6377dfaf171f1872940448028ad1aaab7254d353637197ce80a9"), looks := true }, kinds := [], alts := [], laidByText := true, laidKinds := [.data, .pinned], laidTests := true, laidLooks := .later }
def AggrFoldsCardSaid : Prop := Claim7.holds Tryz.pinned (.plain (OpenSpec.ofChange aggrFoldsSpec)) aggrFoldsCard

/-- THE TIED CARD OF 'tocsinlaw16.AggrGroups'. -/
def aggrGroupsCard : Claim7 := { stood := { row := aggrGroupsRow, standIns := [], harness := (true, "6bfb83eb356a6377dfaf171f1872940448028ad1aaab7254d353637197ce80a9"), looks := true }, kinds := [], alts := [], laidByText := true, laidKinds := [.data, .pinned], laidTests := true, laidLooks := .later }
def AggrGroupsCardSaid : Prop := Claim7.holds Tryz.pinned (.plain (OpenSpec.ofChange aggrGroupsSpec)) aggrGroupsCard

/-- THE TIED CARD OF 'tocsinlaw16.AggrGroup'. -/
def aggrGroupCard : Claim7 := { stood := { row := aggrGroupRow, standIns := [], harness := (true, "6bfb83eb356a6377dfaf171f1872940448028ad1aaab7254d353637197ce80a9"), looks := true }, kinds := [], alts := [], laidByText := true, laidKinds := [.data, .pinned], laidTests := true, laidLooks := .later }
def AggrGroupCardSaid : Prop := Claim7.holds Tryz.pinned (.plain (OpenSpec.ofChange aggrGroupSpec)) aggrGroupCard

/-- THE TIED CARD OF 'tocsinlaw16.AggrValues'. -/
def aggrValuesCard : Claim7 := { stood := { row := aggrValuesRow, standIns := [], harness := (true, "6bfb83eb356a6377dfaf171f1872940448028ad1aaab7254d353637197ce80a9"), looks := true }, kinds := [], alts := [], laidByText := true, laidKinds := [.data, .data, .data, .data, .data, .sentinel, .sentinel, .pinned, .pinned, .pinned], laidTests := true, laidLooks := .later }
def AggrValuesCardSaid : Prop := Claim7.holds Tryz.pinned (.plain (OpenSpec.ofChange aggrValuesSpec)) aggrValuesCard

/-- THE TIED CARD OF 'tocsinlaw16.AggrCounts'. -/
def aggrCountsCard : Claim7 := { stood := { row := aggrCountsRow, standIns := [], harness := (true, "6bfb83eb356a6377dfaf171f1872940448028ad1aaab7254d353637197ce80a9"), looks := true }, kinds := [], alts := [], laidByText := true, laidKinds := [.data, .data, .data, .data, .data, .sentinel, .sentinel, .pinned, .pinned, .pinned], laidTests := true, laidLooks := .later }
def AggrCountsCardSaid : Prop := Claim7.holds Tryz.pinned (.plain (OpenSpec.ofChange aggrCountsSpec)) aggrCountsCard

/-- THE SECOND FORM's CARD OF 'tocsinlaw15.VecBinary'. -/
def vecBinaryUptoCard : Claim7 := { stood := { row := vecBinaryUptoRow, standIns := [], harness := (true, "6bfb83eb356a6377dfaf171f1872940448028ad1aaab7254d353637197ce80a9"), looks := true }, kinds := [], alts := [], laidByText := true, laidKinds := [.data, .pinned], laidTests := true, laidLooks := .later }
def VecBinaryUptoCardSaid : Prop := Claim7.holds Tryz.pinned (.plain (OpenSpec.upto vecBinarySpec)) vecBinaryUptoCard

/-- THE SECOND FORM's CARD OF 'tocsinlaw15.VecScalars'. -/
def vecScalarsUptoCard : Claim7 := { stood := { row := vecScalarsUptoRow, standIns := [], harness := (true, "6bfb83eb356a6377dfaf171f1872940448028ad1aaab7254d353637197ce80a9"), looks := true }, kinds := [], alts := [], laidByText := true, laidKinds := [.data, .pinned], laidTests := true, laidLooks := .later }
def VecScalarsUptoCardSaid : Prop := Claim7.holds Tryz.pinned (.plain (OpenSpec.upto vecScalarsSpec)) vecScalarsUptoCard

/-- THE SECOND FORM's CARD OF 'tocsinlaw16.AggrOrder'. -/
def aggrOrderUptoCard : Claim7 := { stood := { row := aggrOrderUptoRow, standIns := [], harness := (true, "6bfb83eb356a6377dfaf171f1872940448028ad1aaab7254d353637197ce80a9"), looks := true }, kinds := [], alts := [], laidByText := true, laidKinds := [.data, .pinned], laidTests := true, laidLooks := .later }
def AggrOrderUptoCardSaid : Prop := Claim7.holds Tryz.pinned (.plain (OpenSpec.upto aggrOrderSpec)) aggrOrderUptoCard

/-- THE SECOND FORM's CARD OF 'tocsinlaw16.AggrBounds'. -/
def aggrBoundsUptoCard : Claim7 := { stood := { row := aggrBoundsUptoRow, standIns := [], harness := (true, "6bfb83eb356a6377dfaf171f1872940448028ad1aaab7254d353637197ce80a9"), looks := true }, kinds := [], alts := [], laidByText := true, laidKinds := [.data, .pinned], laidTests := true, laidLooks := .later }
def AggrBoundsUptoCardSaid : Prop := Claim7.holds Tryz.pinned (.plain (OpenSpec.upto aggrBoundsSpec)) aggrBoundsUptoCard

/-- THE SECOND FORM's CARD OF 'tocsinlaw16.AggrTop'. -/
def aggrTopUptoCard : Claim7 := { stood := { row := aggrTopUptoRow, standIns := [], harness := (true, "6bfb83eb356a6377dfaf171f1872940448028ad1aaab7254d353637197ce80a9"), looks := true }, kinds := [], alts := [], laidByText := true, laidKinds := [.data, .pinned], laidTests := true, laidLooks := .later }
def AggrTopUptoCardSaid : Prop := Claim7.holds Tryz.pinned (.plain (OpenSpec.upto aggrTopSpec)) aggrTopUptoCard

/-- THE SECOND FORM's CARD OF 'tocsinlaw16.AggrNumbers'. -/
def aggrNumbersUptoCard : Claim7 := { stood := { row := aggrNumbersUptoRow, standIns := [], harness := (true, "6bfb83eb356a6377dfaf171f1872940448028ad1aaab7254d353637197ce80a9"), looks := true }, kinds := [], alts := [], laidByText := true, laidKinds := [.data, .pinned], laidTests := true, laidLooks := .later }
def AggrNumbersUptoCardSaid : Prop := Claim7.holds Tryz.pinned (.plain (OpenSpec.upto aggrNumbersSpec)) aggrNumbersUptoCard

/-- THE SECOND FORM's CARD OF 'tocsinlaw16.AggrFolds'. -/
def aggrFoldsUptoCard : Claim7 := { stood := { row := aggrFoldsUptoRow, standIns := [], harness := (true, "6bfb83eb356a6377dfaf171f1872940448028ad1aaab7254d353637197ce80a9"), looks := true }, kinds := [], alts := [], laidByText := true, laidKinds := [.data, .pinned], laidTests := true, laidLooks := .later }
def AggrFoldsUptoCardSaid : Prop := Claim7.holds Tryz.pinned (.plain (OpenSpec.upto aggrFoldsSpec)) aggrFoldsUptoCard

/-- THE SECOND FORM's CARD OF 'tocsinlaw16.AggrGroups'. -/
def aggrGroupsUptoCard : Claim7 := { stood := { row := aggrGroupsUptoRow, standIns := [], harness := (true, "6bfb83eb356a6377dfaf171f1872940448028ad1aaab7254d353637197ce80a9"), looks := true }, kinds := [], alts := [], laidByText := true, laidKinds := [.data, .pinned], laidTests := true, laidLooks := .later }
def AggrGroupsUptoCardSaid : Prop := Claim7.holds Tryz.pinned (.plain (OpenSpec.upto aggrGroupsSpec)) aggrGroupsUptoCard

/-- THE SECOND FORM's CARD OF 'tocsinlaw16.AggrGroup'. -/
def aggrGroupUptoCard : Claim7 := { stood := { row := aggrGroupUptoRow, standIns := [], harness := (true, "6bfb83eb356a6377dfaf171f1872940448028ad1aaab7254d353637197ce80a9"), looks := true }, kinds := [], alts := [], laidByText := true, laidKinds := [.data, .pinned], laidTests := true, laidLooks := .later }
def AggrGroupUptoCardSaid : Prop := Claim7.holds Tryz.pinned (.plain (OpenSpec.upto aggrGroupSpec)) aggrGroupUptoCard

/-- THE SECOND FORM's CARD OF 'tocsinlaw16.AggrValues'. -/
def aggrValuesUptoCard : Claim7 := { stood := { row := aggrValuesUptoRow, standIns := [], harness := (true, "6bfb83eb356a6377dfaf171f1872940448028ad1aaab7254d353637197ce80a9"), looks := true }, kinds := [], alts := [], laidByText := true, laidKinds := [.data, .data, .data, .data, .data, .sentinel, .sentinel, .pinned, .pinned, .pinned], laidTests := true, laidLooks := .later }
def AggrValuesUptoCardSaid : Prop := Claim7.holds Tryz.pinned (.plain (OpenSpec.upto aggrValuesSpec)) aggrValuesUptoCard

/-- THE SECOND FORM's CARD OF 'tocsinlaw16.AggrCounts'. -/
def aggrCountsUptoCard : Claim7 := { stood := { row := aggrCountsUptoRow, standIns := [], harness := (true, "6bfb83eb356a6377dfaf171f1872940448028ad1aaab7254d353637197ce80a9"), looks := true }, kinds := [], alts := [], laidByText := true, laidKinds := [.data, .data, .data, .data, .data, .sentinel, .sentinel, .pinned, .pinned, .pinned], laidTests := true, laidLooks := .later }
def AggrCountsUptoCardSaid : Prop := Claim7.holds Tryz.pinned (.plain (OpenSpec.upto aggrCountsSpec)) aggrCountsUptoCard
end Rows
end Go.Proofs.YtoncpeadbhgmaaaGreatDoor
