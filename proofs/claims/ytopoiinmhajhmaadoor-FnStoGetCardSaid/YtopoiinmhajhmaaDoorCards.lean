/-
  DERIVED. GIVEN WITH THE SEED: THE CARDS: each row of YtopoiinmhajhmaaDoorRows.lean that lists a variable, with what it lists TIED to the program's text (the seventh form; the later family's looks); each row that meets fmt, with fmt's text TOLD by the authors' own Lean function (tested against real Go, not proved from fmt's source: count such statements apart). THE CARD IS WHAT COUNTS. Prove the row's statement (the work); the ties are given (YtopoiinmhajhmaaDoorTie.lean); close each card by the builder's one call (the guide's Derived/Test/ToyasCard.lean, 'card_holds'). Laid BY PROGRAM, IN A SANDBOX (cutbox-door.mjs). By AI agents, Wed Nov 11 2026. No macro, syntax, notation, axiom, sorry.
-/
import Derived.Test.YtopoiinmhajhmaaDoorRows
import GoSem.ClaimSeven
namespace Go.Proofs.YtopoiinmhajhmaaDoor
namespace Rows

/-- THE TIED CARD OF 'laws.FnSecSum'. -/
def fnSecSumCard : Claim7 := { stood := { row := fnSecSumRow, standIns := [], harness := (true, "c4bbdaa1fb7d2f29b52b7629f63af42f11bf202e4c12575eb11c2f8b87ad6da3"), looks := false }, kinds := [], alts := [], laidByText := true, laidKinds := [.data, .pinned], laidTests := true, laidLooks := .later }
def FnSecSumCardSaid : Prop := Claim7.holds Tryd.pinned (.plain (OpenSpec.ofChange fnSecSumSpec)) fnSecSumCard

/-- THE TIED CARD OF 'laws.FnExactWrtOk'. -/
def fnExactWrtOkCard : Claim7 := { stood := { row := fnExactWrtOkRow, standIns := [], harness := (true, "c4bbdaa1fb7d2f29b52b7629f63af42f11bf202e4c12575eb11c2f8b87ad6da3"), looks := false }, kinds := [], alts := [], laidByText := true, laidKinds := [.data, .pinned], laidTests := true, laidLooks := .later }
def FnExactWrtOkCardSaid : Prop := Claim7.holds Tryd.pinned (.plain (OpenSpec.ofChange fnExactWrtOkSpec)) fnExactWrtOkCard

/-- THE TIED CARD OF 'laws.FnOpOk'. -/
def fnOpOkCard : Claim7 := { stood := { row := fnOpOkRow, standIns := [], harness := (true, "c4bbdaa1fb7d2f29b52b7629f63af42f11bf202e4c12575eb11c2f8b87ad6da3"), looks := false }, kinds := [], alts := [], laidByText := true, laidKinds := [.data, .pinned], laidTests := true, laidLooks := .later }
def FnOpOkCardSaid : Prop := Claim7.holds Tryd.pinned (.plain (OpenSpec.ofChange fnOpOkSpec)) fnOpOkCard

/-- THE TIED CARD OF 'laws.FnWrtOk'. -/
def fnWrtOkCard : Claim7 := { stood := { row := fnWrtOkRow, standIns := [], harness := (true, "c4bbdaa1fb7d2f29b52b7629f63af42f11bf202e4c12575eb11c2f8b87ad6da3"), looks := false }, kinds := [], alts := [], laidByText := true, laidKinds := [.data, .pinned], laidTests := true, laidLooks := .later }
def FnWrtOkCardSaid : Prop := Claim7.holds Tryd.pinned (.plain (OpenSpec.ofChange fnWrtOkSpec)) fnWrtOkCard

/-- THE TIED CARD OF 'laws.FnOpPlaces'. -/
def fnOpPlacesCard : Claim7 := { stood := { row := fnOpPlacesRow, standIns := [], harness := (true, "c4bbdaa1fb7d2f29b52b7629f63af42f11bf202e4c12575eb11c2f8b87ad6da3"), looks := false }, kinds := [], alts := [], laidByText := true, laidKinds := [.data, .pinned], laidTests := true, laidLooks := .later }
def FnOpPlacesCardSaid : Prop := Claim7.holds Tryd.pinned (.plain (OpenSpec.ofChange fnOpPlacesSpec)) fnOpPlacesCard

/-- THE TIED CARD OF 'laws.FnExactStoOk'. -/
def fnExactStoOkCard : Claim7 := { stood := { row := fnExactStoOkRow, standIns := [], harness := (true, "c4bbdaa1fb7d2f29b52b7629f63af42f11bf202e4c12575eb11c2f8b87ad6da3"), looks := false }, kinds := [], alts := [], laidByText := true, laidKinds := [.data, .pinned], laidTests := true, laidLooks := .later }
def FnExactStoOkCardSaid : Prop := Claim7.holds Tryd.pinned (.plain (OpenSpec.ofChange fnExactStoOkSpec)) fnExactStoOkCard

/-- THE TIED CARD OF 'laws.FnMsgOk'. -/
def fnMsgOkCard : Claim7 := { stood := { row := fnMsgOkRow, standIns := [], harness := (true, "c4bbdaa1fb7d2f29b52b7629f63af42f11bf202e4c12575eb11c2f8b87ad6da3"), looks := false }, kinds := [], alts := [], laidByText := true, laidKinds := [.data, .pinned], laidTests := true, laidLooks := .later }
def FnMsgOkCardSaid : Prop := Claim7.holds Tryd.pinned (.plain (OpenSpec.ofChange fnMsgOkSpec)) fnMsgOkCard

/-- THE TIED CARD OF 'laws.FnExactPlcOk'. -/
def fnExactPlcOkCard : Claim7 := { stood := { row := fnExactPlcOkRow, standIns := [], harness := (true, "c4bbdaa1fb7d2f29b52b7629f63af42f11bf202e4c12575eb11c2f8b87ad6da3"), looks := false }, kinds := [], alts := [], laidByText := true, laidKinds := [.data, .pinned], laidTests := true, laidLooks := .later }
def FnExactPlcOkCardSaid : Prop := Claim7.holds Tryd.pinned (.plain (OpenSpec.ofChange fnExactPlcOkSpec)) fnExactPlcOkCard

/-- THE TIED CARD OF 'laws.FnNoteOk'. -/
def fnNoteOkCard : Claim7 := { stood := { row := fnNoteOkRow, standIns := [], harness := (true, "c4bbdaa1fb7d2f29b52b7629f63af42f11bf202e4c12575eb11c2f8b87ad6da3"), looks := false }, kinds := [], alts := [], laidByText := true, laidKinds := [.data, .pinned], laidTests := true, laidLooks := .later }
def FnNoteOkCardSaid : Prop := Claim7.holds Tryd.pinned (.plain (OpenSpec.ofChange fnNoteOkSpec)) fnNoteOkCard

/-- THE TIED CARD OF 'laws.FnExactGloOk'. -/
def fnExactGloOkCard : Claim7 := { stood := { row := fnExactGloOkRow, standIns := [], harness := (true, "c4bbdaa1fb7d2f29b52b7629f63af42f11bf202e4c12575eb11c2f8b87ad6da3"), looks := false }, kinds := [], alts := [], laidByText := true, laidKinds := [.data, .pinned], laidTests := true, laidLooks := .later }
def FnExactGloOkCardSaid : Prop := Claim7.holds Tryd.pinned (.plain (OpenSpec.ofChange fnExactGloOkSpec)) fnExactGloOkCard

/-- THE TIED CARD OF 'laws.FnExactNoteOk'. -/
def fnExactNoteOkCard : Claim7 := { stood := { row := fnExactNoteOkRow, standIns := [], harness := (true, "c4bbdaa1fb7d2f29b52b7629f63af42f11bf202e4c12575eb11c2f8b87ad6da3"), looks := false }, kinds := [], alts := [], laidByText := true, laidKinds := [.data, .pinned], laidTests := true, laidLooks := .later }
def FnExactNoteOkCardSaid : Prop := Claim7.holds Tryd.pinned (.plain (OpenSpec.ofChange fnExactNoteOkSpec)) fnExactNoteOkCard

/-- THE TIED CARD OF 'laws.FnStoGet'. -/
def fnStoGetCard : Claim7 := { stood := { row := fnStoGetRow, standIns := [], harness := (true, "c4bbdaa1fb7d2f29b52b7629f63af42f11bf202e4c12575eb11c2f8b87ad6da3"), looks := false }, kinds := [], alts := [], laidByText := true, laidKinds := [.data, .pinned], laidTests := true, laidLooks := .later }
def FnStoGetCardSaid : Prop := Claim7.holds Tryd.pinned (.plain (OpenSpec.ofChange fnStoGetSpec)) fnStoGetCard

/-- THE SECOND FORM's CARD OF 'laws.FnSecSum'. -/
def fnSecSumUptoCard : Claim7 := { stood := { row := fnSecSumUptoRow, standIns := [], harness := (true, "c4bbdaa1fb7d2f29b52b7629f63af42f11bf202e4c12575eb11c2f8b87ad6da3"), looks := false }, kinds := [], alts := [], laidByText := true, laidKinds := [.data, .pinned], laidTests := true, laidLooks := .later }
def FnSecSumUptoCardSaid : Prop := Claim7.holds Tryd.pinned (.plain (OpenSpec.upto fnSecSumSpec)) fnSecSumUptoCard

/-- THE SECOND FORM's CARD OF 'laws.FnExactWrtOk'. -/
def fnExactWrtOkUptoCard : Claim7 := { stood := { row := fnExactWrtOkUptoRow, standIns := [], harness := (true, "c4bbdaa1fb7d2f29b52b7629f63af42f11bf202e4c12575eb11c2f8b87ad6da3"), looks := false }, kinds := [], alts := [], laidByText := true, laidKinds := [.data, .pinned], laidTests := true, laidLooks := .later }
def FnExactWrtOkUptoCardSaid : Prop := Claim7.holds Tryd.pinned (.plain (OpenSpec.upto fnExactWrtOkSpec)) fnExactWrtOkUptoCard

/-- THE SECOND FORM's CARD OF 'laws.FnOpOk'. -/
def fnOpOkUptoCard : Claim7 := { stood := { row := fnOpOkUptoRow, standIns := [], harness := (true, "c4bbdaa1fb7d2f29b52b7629f63af42f11bf202e4c12575eb11c2f8b87ad6da3"), looks := false }, kinds := [], alts := [], laidByText := true, laidKinds := [.data, .pinned], laidTests := true, laidLooks := .later }
def FnOpOkUptoCardSaid : Prop := Claim7.holds Tryd.pinned (.plain (OpenSpec.upto fnOpOkSpec)) fnOpOkUptoCard

/-- THE SECOND FORM's CARD OF 'laws.FnWrtOk'. -/
def fnWrtOkUptoCard : Claim7 := { stood := { row := fnWrtOkUptoRow, standIns := [], harness := (true, "c4bbdaa1fb7d2f29b52b7629f63af42f11bf202e4c12575eb11c2f8b87ad6da3"), looks := false }, kinds := [], alts := [], laidByText := true, laidKinds := [.data, .pinned], laidTests := true, laidLooks := .later }
def FnWrtOkUptoCardSaid : Prop := Claim7.holds Tryd.pinned (.plain (OpenSpec.upto fnWrtOkSpec)) fnWrtOkUptoCard

/-- THE SECOND FORM's CARD OF 'laws.FnOpPlaces'. -/
def fnOpPlacesUptoCard : Claim7 := { stood := { row := fnOpPlacesUptoRow, standIns := [], harness := (true, "c4bbdaa1fb7d2f29b52b7629f63af42f11bf202e4c12575eb11c2f8b87ad6da3"), looks := false }, kinds := [], alts := [], laidByText := true, laidKinds := [.data, .pinned], laidTests := true, laidLooks := .later }
def FnOpPlacesUptoCardSaid : Prop := Claim7.holds Tryd.pinned (.plain (OpenSpec.upto fnOpPlacesSpec)) fnOpPlacesUptoCard

/-- THE SECOND FORM's CARD OF 'laws.FnExactStoOk'. -/
def fnExactStoOkUptoCard : Claim7 := { stood := { row := fnExactStoOkUptoRow, standIns := [], harness := (true, "c4bbdaa1fb7d2f29b52b7629f63af42f11bf202e4c12575eb11c2f8b87ad6da3"), looks := false }, kinds := [], alts := [], laidByText := true, laidKinds := [.data, .pinned], laidTests := true, laidLooks := .later }
def FnExactStoOkUptoCardSaid : Prop := Claim7.holds Tryd.pinned (.plain (OpenSpec.upto fnExactStoOkSpec)) fnExactStoOkUptoCard

/-- THE SECOND FORM's CARD OF 'laws.FnMsgOk'. -/
def fnMsgOkUptoCard : Claim7 := { stood := { row := fnMsgOkUptoRow, standIns := [], harness := (true, "c4bbdaa1fb7d2f29b52b7629f63af42f11bf202e4c12575eb11c2f8b87ad6da3"), looks := false }, kinds := [], alts := [], laidByText := true, laidKinds := [.data, .pinned], laidTests := true, laidLooks := .later }
def FnMsgOkUptoCardSaid : Prop := Claim7.holds Tryd.pinned (.plain (OpenSpec.upto fnMsgOkSpec)) fnMsgOkUptoCard

/-- THE SECOND FORM's CARD OF 'laws.FnExactPlcOk'. -/
def fnExactPlcOkUptoCard : Claim7 := { stood := { row := fnExactPlcOkUptoRow, standIns := [], harness := (true, "c4bbdaa1fb7d2f29b52b7629f63af42f11bf202e4c12575eb11c2f8b87ad6da3"), looks := false }, kinds := [], alts := [], laidByText := true, laidKinds := [.data, .pinned], laidTests := true, laidLooks := .later }
def FnExactPlcOkUptoCardSaid : Prop := Claim7.holds Tryd.pinned (.plain (OpenSpec.upto fnExactPlcOkSpec)) fnExactPlcOkUptoCard

/-- THE SECOND FORM's CARD OF 'laws.FnNoteOk'. -/
def fnNoteOkUptoCard : Claim7 := { stood := { row := fnNoteOkUptoRow, standIns := [], harness := (true, "c4bbdaa1fb7d2f29b52b7629f63af42f11bf202e4c12575eb11c2f8b87ad6da3"), looks := false }, kinds := [], alts := [], laidByText := true, laidKinds := [.data, .pinned], laidTests := true, laidLooks := .later }
def FnNoteOkUptoCardSaid : Prop := Claim7.holds Tryd.pinned (.plain (OpenSpec.upto fnNoteOkSpec)) fnNoteOkUptoCard

/-- THE SECOND FORM's CARD OF 'laws.FnExactGloOk'. -/
def fnExactGloOkUptoCard : Claim7 := { stood := { row := fnExactGloOkUptoRow, standIns := [], harness := (true, "c4bbdaa1fb7d2f29b52b7629f63af42f11bf202e4c12575eb11c2f8b87ad6da3"), looks := false }, kinds := [], alts := [], laidByText := true, laidKinds := [.data, .pinned], laidTests := true, laidLooks := .later }
def FnExactGloOkUptoCardSaid : Prop := Claim7.holds Tryd.pinned (.plain (OpenSpec.upto fnExactGloOkSpec)) fnExactGloOkUptoCard

/-- THE SECOND FORM's CARD OF 'laws.FnExactNoteOk'. -/
def fnExactNoteOkUptoCard : Claim7 := { stood := { row := fnExactNoteOkUptoRow, standIns := [], harness := (true, "c4bbdaa1fb7d2f29b52b7629f63af42f11bf202e4c12575eb11c2f8b87ad6da3"), looks := false }, kinds := [], alts := [], laidByText := true, laidKinds := [.data, .pinned], laidTests := true, laidLooks := .later }
def FnExactNoteOkUptoCardSaid : Prop := Claim7.holds Tryd.pinned (.plain (OpenSpec.upto fnExactNoteOkSpec)) fnExactNoteOkUptoCard

/-- THE SECOND FORM's CARD OF 'laws.FnStoGet'. -/
def fnStoGetUptoCard : Claim7 := { stood := { row := fnStoGetUptoRow, standIns := [], harness := (true, "c4bbdaa1fb7d2f29b52b7629f63af42f11bf202e4c12575eb11c2f8b87ad6da3"), looks := false }, kinds := [], alts := [], laidByText := true, laidKinds := [.data, .pinned], laidTests := true, laidLooks := .later }
def FnStoGetUptoCardSaid : Prop := Claim7.holds Tryd.pinned (.plain (OpenSpec.upto fnStoGetSpec)) fnStoGetUptoCard
end Rows
end Go.Proofs.YtopoiinmhajhmaaDoor
