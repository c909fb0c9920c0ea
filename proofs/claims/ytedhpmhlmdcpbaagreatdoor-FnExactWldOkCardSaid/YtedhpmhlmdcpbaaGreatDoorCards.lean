/-
  DERIVED. GIVEN WITH THE SEED: THE CARDS: each row of YtedhpmhlmdcpbaaGreatDoorRows.lean that lists a variable, with what it lists TIED to the program's text (the seventh form; the later family's looks); each row that meets fmt, with fmt's text TOLD by the authors' own Lean function (tested against real Go, not proved from fmt's source: count such statements apart). THE CARD IS WHAT COUNTS. Prove the row's statement (the work); the ties are given (YtedhpmhlmdcpbaaGreatDoorTie.lean); close each card by the builder's one call (the guide's Derived/Test/ToyasCard.lean, 'card_holds'). Laid BY PROGRAM, IN A SANDBOX (cutbox-door.mjs). By AI agents, Wed Nov 11 2026. No macro, syntax, notation, axiom, sorry.
-/
import Derived.Test.YtedhpmhlmdcpbaaGreatDoorRows
import GoSem.ClaimSeven
namespace Go.Proofs.YtedhpmhlmdcpbaaGreatDoor
namespace Rows

/-- THE TIED CARD OF 'laws.FnExactFroTick'. -/
def fnExactFroTickCard : Claim7 := { stood := { row := fnExactFroTickRow, standIns := [], harness := (true, "032b2be93e5013bfa2e3727358c6e85667c682fcc4ec44afc5ee5d50ad0db2ff"), looks := false }, kinds := [], alts := [], laidByText := true, laidKinds := [.data, .pinned], laidTests := true, laidLooks := .later }
def FnExactFroTickCardSaid : Prop := Claim7.holds Tryz.pinned (.plain (OpenSpec.ofChange fnExactFroTickSpec)) fnExactFroTickCard

/-- THE TIED CARD OF 'laws.FnExactFroFall'. -/
def fnExactFroFallCard : Claim7 := { stood := { row := fnExactFroFallRow, standIns := [], harness := (true, "032b2be93e5013bfa2e3727358c6e85667c682fcc4ec44afc5ee5d50ad0db2ff"), looks := false }, kinds := [], alts := [], laidByText := true, laidKinds := [.data, .pinned], laidTests := true, laidLooks := .later }
def FnExactFroFallCardSaid : Prop := Claim7.holds Tryz.pinned (.plain (OpenSpec.ofChange fnExactFroFallSpec)) fnExactFroFallCard

/-- THE TIED CARD OF 'laws.FnExactFroBegin'. -/
def fnExactFroBeginCard : Claim7 := { stood := { row := fnExactFroBeginRow, standIns := [], harness := (true, "032b2be93e5013bfa2e3727358c6e85667c682fcc4ec44afc5ee5d50ad0db2ff"), looks := false }, kinds := [], alts := [], laidByText := true, laidKinds := [.data, .pinned], laidTests := true, laidLooks := .later }
def FnExactFroBeginCardSaid : Prop := Claim7.holds Tryz.pinned (.plain (OpenSpec.ofChange fnExactFroBeginSpec)) fnExactFroBeginCard

/-- THE TIED CARD OF 'laws.FnExactWldOk'. -/
def fnExactWldOkCard : Claim7 := { stood := { row := fnExactWldOkRow, standIns := [], harness := (true, "032b2be93e5013bfa2e3727358c6e85667c682fcc4ec44afc5ee5d50ad0db2ff"), looks := false }, kinds := [], alts := [], laidByText := true, laidKinds := [.data, .pinned], laidTests := true, laidLooks := .later }
def FnExactWldOkCardSaid : Prop := Claim7.holds Tryz.pinned (.plain (OpenSpec.ofChange fnExactWldOkSpec)) fnExactWldOkCard

/-- THE SECOND FORM's CARD OF 'laws.FnExactFroTick'. -/
def fnExactFroTickUptoCard : Claim7 := { stood := { row := fnExactFroTickUptoRow, standIns := [], harness := (true, "032b2be93e5013bfa2e3727358c6e85667c682fcc4ec44afc5ee5d50ad0db2ff"), looks := false }, kinds := [], alts := [], laidByText := true, laidKinds := [.data, .pinned], laidTests := true, laidLooks := .later }
def FnExactFroTickUptoCardSaid : Prop := Claim7.holds Tryz.pinned (.plain (OpenSpec.upto fnExactFroTickSpec)) fnExactFroTickUptoCard

/-- THE SECOND FORM's CARD OF 'laws.FnExactFroFall'. -/
def fnExactFroFallUptoCard : Claim7 := { stood := { row := fnExactFroFallUptoRow, standIns := [], harness := (true, "032b2be93e5013bfa2e3727358c6e85667c682fcc4ec44afc5ee5d50ad0db2ff"), looks := false }, kinds := [], alts := [], laidByText := true, laidKinds := [.data, .pinned], laidTests := true, laidLooks := .later }
def FnExactFroFallUptoCardSaid : Prop := Claim7.holds Tryz.pinned (.plain (OpenSpec.upto fnExactFroFallSpec)) fnExactFroFallUptoCard

/-- THE SECOND FORM's CARD OF 'laws.FnExactFroBegin'. -/
def fnExactFroBeginUptoCard : Claim7 := { stood := { row := fnExactFroBeginUptoRow, standIns := [], harness := (true, "032b2be93e5013bfa2e3727358c6e85667c682fcc4ec44afc5ee5d50ad0db2ff"), looks := false }, kinds := [], alts := [], laidByText := true, laidKinds := [.data, .pinned], laidTests := true, laidLooks := .later }
def FnExactFroBeginUptoCardSaid : Prop := Claim7.holds Tryz.pinned (.plain (OpenSpec.upto fnExactFroBeginSpec)) fnExactFroBeginUptoCard

/-- THE SECOND FORM's CARD OF 'laws.FnExactWldOk'. -/
def fnExactWldOkUptoCard : Claim7 := { stood := { row := fnExactWldOkUptoRow, standIns := [], harness := (true, "032b2be93e5013bfa2e3727358c6e85667c682fcc4ec44afc5ee5d50ad0db2ff"), looks := false }, kinds := [], alts := [], laidByText := true, laidKinds := [.data, .pinned], laidTests := true, laidLooks := .later }
def FnExactWldOkUptoCardSaid : Prop := Claim7.holds Tryz.pinned (.plain (OpenSpec.upto fnExactWldOkSpec)) fnExactWldOkUptoCard
end Rows
end Go.Proofs.YtedhpmhlmdcpbaaGreatDoor
