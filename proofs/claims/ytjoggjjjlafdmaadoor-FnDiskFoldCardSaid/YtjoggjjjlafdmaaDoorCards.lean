/-
  DERIVED. GIVEN WITH THE SEED: THE CARDS: each row of YtjoggjjjlafdmaaDoorRows.lean that lists a variable, with what it lists TIED to the program's text (the seventh form; the later family's looks); each row that meets fmt, with fmt's text TOLD by the authors' own Lean function (tested against real Go, not proved from fmt's source: count such statements apart). THE CARD IS WHAT COUNTS. Prove the row's statement (the work); the ties are given (YtjoggjjjlafdmaaDoorTie.lean); close each card by the builder's one call (the guide's Derived/Test/ToyasCard.lean, 'card_holds'). Laid BY PROGRAM, IN A SANDBOX (cutbox-door.mjs). By AI agents, Wed Nov 11 2026. No macro, syntax, notation, axiom, sorry.
-/
import Derived.Test.YtjoggjjjlafdmaaDoorRows
import GoSem.ClaimSeven
namespace Go.Proofs.YtjoggjjjlafdmaaDoor
namespace Rows

/-- THE TIED CARD OF 'laws.FnStoDo'. -/
def fnStoDoCard : Claim7 := { stood := { row := fnStoDoRow, standIns := [], harness := (true, "c86c12766f8949ae747be0f754859112e03a242daa64bf0b1eaf8ddbc812ff18"), looks := false }, kinds := [], alts := [], laidByText := true, laidKinds := [.data, .pinned], laidTests := true, laidLooks := .later }
def FnStoDoCardSaid : Prop := Claim7.holds Tryd.pinned (.plain (OpenSpec.ofChange fnStoDoSpec)) fnStoDoCard

/-- THE TIED CARD OF 'laws.FnExactStoDo'. -/
def fnExactStoDoCard : Claim7 := { stood := { row := fnExactStoDoRow, standIns := [], harness := (true, "c86c12766f8949ae747be0f754859112e03a242daa64bf0b1eaf8ddbc812ff18"), looks := false }, kinds := [], alts := [], laidByText := true, laidKinds := [.data, .pinned], laidTests := true, laidLooks := .later }
def FnExactStoDoCardSaid : Prop := Claim7.holds Tryd.pinned (.plain (OpenSpec.ofChange fnExactStoDoSpec)) fnExactStoDoCard

/-- THE TIED CARD OF 'laws.FnStoTwo'. -/
def fnStoTwoCard : Claim7 := { stood := { row := fnStoTwoRow, standIns := [], harness := (true, "c86c12766f8949ae747be0f754859112e03a242daa64bf0b1eaf8ddbc812ff18"), looks := false }, kinds := [], alts := [], laidByText := true, laidKinds := [.data, .pinned], laidTests := true, laidLooks := .later }
def FnStoTwoCardSaid : Prop := Claim7.holds Tryd.pinned (.plain (OpenSpec.ofChange fnStoTwoSpec)) fnStoTwoCard

/-- THE TIED CARD OF 'laws.FnStoAgain'. -/
def fnStoAgainCard : Claim7 := { stood := { row := fnStoAgainRow, standIns := [], harness := (true, "c86c12766f8949ae747be0f754859112e03a242daa64bf0b1eaf8ddbc812ff18"), looks := false }, kinds := [], alts := [], laidByText := true, laidKinds := [.data, .pinned], laidTests := true, laidLooks := .later }
def FnStoAgainCardSaid : Prop := Claim7.holds Tryd.pinned (.plain (OpenSpec.ofChange fnStoAgainSpec)) fnStoAgainCard

/-- THE TIED CARD OF 'laws.FnDiskFold'. -/
def fnDiskFoldCard : Claim7 := { stood := { row := fnDiskFoldRow, standIns := [], harness := (true, "c86c12766f8949ae747be0f754859112e03a242daa64bf0b1eaf8ddbc812ff18"), looks := false }, kinds := [], alts := [], laidByText := true, laidKinds := [.data, .pinned], laidTests := true, laidLooks := .later }
def FnDiskFoldCardSaid : Prop := Claim7.holds Tryd.pinned (.plain (OpenSpec.ofChange fnDiskFoldSpec)) fnDiskFoldCard

/-- THE SECOND FORM's CARD OF 'laws.FnStoDo'. -/
def fnStoDoUptoCard : Claim7 := { stood := { row := fnStoDoUptoRow, standIns := [], harness := (true, "c86c12766f8949ae747be0f754859112e03a242daa64bf0b1eaf8ddbc812ff18"), looks := false }, kinds := [], alts := [], laidByText := true, laidKinds := [.data, .pinned], laidTests := true, laidLooks := .later }
def FnStoDoUptoCardSaid : Prop := Claim7.holds Tryd.pinned (.plain (OpenSpec.upto fnStoDoSpec)) fnStoDoUptoCard

/-- THE SECOND FORM's CARD OF 'laws.FnExactStoDo'. -/
def fnExactStoDoUptoCard : Claim7 := { stood := { row := fnExactStoDoUptoRow, standIns := [], harness := (true, "c86c12766f8949ae747be0f754859112e03a242daa64bf0b1eaf8ddbc812ff18"), looks := false }, kinds := [], alts := [], laidByText := true, laidKinds := [.data, .pinned], laidTests := true, laidLooks := .later }
def FnExactStoDoUptoCardSaid : Prop := Claim7.holds Tryd.pinned (.plain (OpenSpec.upto fnExactStoDoSpec)) fnExactStoDoUptoCard

/-- THE SECOND FORM's CARD OF 'laws.FnStoTwo'. -/
def fnStoTwoUptoCard : Claim7 := { stood := { row := fnStoTwoUptoRow, standIns := [], harness := (true, "c86c12766f8949ae747be0f754859112e03a242daa64bf0b1eaf8ddbc812ff18"), looks := false }, kinds := [], alts := [], laidByText := true, laidKinds := [.data, .pinned], laidTests := true, laidLooks := .later }
def FnStoTwoUptoCardSaid : Prop := Claim7.holds Tryd.pinned (.plain (OpenSpec.upto fnStoTwoSpec)) fnStoTwoUptoCard

/-- THE SECOND FORM's CARD OF 'laws.FnStoAgain'. -/
def fnStoAgainUptoCard : Claim7 := { stood := { row := fnStoAgainUptoRow, standIns := [], harness := (true, "c86c12766f8949ae747be0f754859112e03a242daa64bf0b1eaf8ddbc812ff18"), looks := false }, kinds := [], alts := [], laidByText := true, laidKinds := [.data, .pinned], laidTests := true, laidLooks := .later }
def FnStoAgainUptoCardSaid : Prop := Claim7.holds Tryd.pinned (.plain (OpenSpec.upto fnStoAgainSpec)) fnStoAgainUptoCard

/-- THE SECOND FORM's CARD OF 'laws.FnDiskFold'. -/
def fnDiskFoldUptoCard : Claim7 := { stood := { row := fnDiskFoldUptoRow, standIns := [], harness := (true, "c86c12766f8949ae747be0f754859112e03a242daa64bf0b1eaf8ddbc812ff18"), looks := false }, kinds := [], alts := [], laidByText := true, laidKinds := [.data, .pinned], laidTests := true, laidLooks := .later }
def FnDiskFoldUptoCardSaid : Prop := Claim7.holds Tryd.pinned (.plain (OpenSpec.upto fnDiskFoldSpec)) fnDiskFoldUptoCard
end Rows
end Go.Proofs.YtjoggjjjlafdmaaDoor
