/-
  DERIVED. GIVEN WITH THE SEED: THE CARDS: each row of YtjoggjjjlafdmaaGreatDoorRows.lean that lists a variable, with what it lists TIED to the program's text (the seventh form; the later family's looks); each row that meets fmt, with fmt's text TOLD by the authors' own Lean function (tested against real Go, not proved from fmt's source: count such statements apart). THE CARD IS WHAT COUNTS. Prove the row's statement (the work); the ties are given (YtjoggjjjlafdmaaGreatDoorTie.lean); close each card by the builder's one call (the guide's Derived/Test/ToyasCard.lean, 'card_holds'). Laid BY PROGRAM, IN A SANDBOX (cutbox-door.mjs). By AI agents, Wed Nov 11 2026. No macro, syntax, notation, axiom, sorry.
-/
import Derived.Test.YtjoggjjjlafdmaaGreatDoorRows
import GoSem.ClaimSeven
namespace Go.Proofs.YtjoggjjjlafdmaaGreatDoor
namespace Rows

/-- THE TIED CARD OF 'laws.FnPlanTx'. -/
def fnPlanTxCard : Claim7 := { stood := { row := fnPlanTxRow, standIns := [], harness := (true, "4e2fe8b4a3c567212110238683f42a3b7b497141b9c89e2b44c86fc62dbafe19"), looks := false }, kinds := [], alts := [], laidByText := true, laidKinds := [.data, .data, .data, .data, .pinned], laidTests := true, laidLooks := .later }
def FnPlanTxCardSaid : Prop := Claim7.holds Tryz.pinned (.plain (OpenSpec.ofChange fnPlanTxSpec)) fnPlanTxCard

/-- THE TIED CARD OF 'laws.FnPlanLet'. -/
def fnPlanLetCard : Claim7 := { stood := { row := fnPlanLetRow, standIns := [], harness := (true, "4e2fe8b4a3c567212110238683f42a3b7b497141b9c89e2b44c86fc62dbafe19"), looks := false }, kinds := [], alts := [], laidByText := true, laidKinds := [.data, .data, .data, .data, .pinned], laidTests := true, laidLooks := .later }
def FnPlanLetCardSaid : Prop := Claim7.holds Tryz.pinned (.plain (OpenSpec.ofChange fnPlanLetSpec)) fnPlanLetCard

/-- THE TIED CARD OF 'laws.FnPlanOut'. -/
def fnPlanOutCard : Claim7 := { stood := { row := fnPlanOutRow, standIns := [], harness := (true, "4e2fe8b4a3c567212110238683f42a3b7b497141b9c89e2b44c86fc62dbafe19"), looks := false }, kinds := [], alts := [], laidByText := true, laidKinds := [.data, .data, .data, .data, .pinned], laidTests := true, laidLooks := .later }
def FnPlanOutCardSaid : Prop := Claim7.holds Tryz.pinned (.plain (OpenSpec.ofChange fnPlanOutSpec)) fnPlanOutCard

/-- THE TIED CARD OF 'laws.FnPlanSec'. -/
def fnPlanSecCard : Claim7 := { stood := { row := fnPlanSecRow, standIns := [], harness := (true, "4e2fe8b4a3c567212110238683f42a3b7b497141b9c89e2b44c86fc62dbafe19"), looks := false }, kinds := [], alts := [], laidByText := true, laidKinds := [.data, .data, .data, .data, .pinned], laidTests := true, laidLooks := .later }
def FnPlanSecCardSaid : Prop := Claim7.holds Tryz.pinned (.plain (OpenSpec.ofChange fnPlanSecSpec)) fnPlanSecCard

/-- THE TIED CARD OF 'laws.FnExactDiskFold'. -/
def fnExactDiskFoldCard : Claim7 := { stood := { row := fnExactDiskFoldRow, standIns := [], harness := (true, "4e2fe8b4a3c567212110238683f42a3b7b497141b9c89e2b44c86fc62dbafe19"), looks := false }, kinds := [], alts := [], laidByText := true, laidKinds := [.data, .pinned], laidTests := true, laidLooks := .later }
def FnExactDiskFoldCardSaid : Prop := Claim7.holds Tryz.pinned (.plain (OpenSpec.ofChange fnExactDiskFoldSpec)) fnExactDiskFoldCard

/-- THE TIED CARD OF 'laws.FnDiskLess'. -/
def fnDiskLessCard : Claim7 := { stood := { row := fnDiskLessRow, standIns := [], harness := (true, "4e2fe8b4a3c567212110238683f42a3b7b497141b9c89e2b44c86fc62dbafe19"), looks := false }, kinds := [], alts := [], laidByText := true, laidKinds := [.data, .pinned], laidTests := true, laidLooks := .later }
def FnDiskLessCardSaid : Prop := Claim7.holds Tryz.pinned (.plain (OpenSpec.ofChange fnDiskLessSpec)) fnDiskLessCard

/-- THE TIED CARD OF 'laws.FnPlanMine'. -/
def fnPlanMineCard : Claim7 := { stood := { row := fnPlanMineRow, standIns := [], harness := (true, "4e2fe8b4a3c567212110238683f42a3b7b497141b9c89e2b44c86fc62dbafe19"), looks := false }, kinds := [], alts := [], laidByText := true, laidKinds := [.data, .data, .data, .data, .pinned], laidTests := true, laidLooks := .later }
def FnPlanMineCardSaid : Prop := Claim7.holds Tryz.pinned (.plain (OpenSpec.ofChange fnPlanMineSpec)) fnPlanMineCard

/-- THE SECOND FORM's CARD OF 'laws.FnPlanTx'. -/
def fnPlanTxUptoCard : Claim7 := { stood := { row := fnPlanTxUptoRow, standIns := [], harness := (true, "4e2fe8b4a3c567212110238683f42a3b7b497141b9c89e2b44c86fc62dbafe19"), looks := false }, kinds := [], alts := [], laidByText := true, laidKinds := [.data, .data, .data, .data, .pinned], laidTests := true, laidLooks := .later }
def FnPlanTxUptoCardSaid : Prop := Claim7.holds Tryz.pinned (.plain (OpenSpec.upto fnPlanTxSpec)) fnPlanTxUptoCard

/-- THE SECOND FORM's CARD OF 'laws.FnPlanLet'. -/
def fnPlanLetUptoCard : Claim7 := { stood := { row := fnPlanLetUptoRow, standIns := [], harness := (true, "4e2fe8b4a3c567212110238683f42a3b7b497141b9c89e2b44c86fc62dbafe19"), looks := false }, kinds := [], alts := [], laidByText := true, laidKinds := [.data, .data, .data, .data, .pinned], laidTests := true, laidLooks := .later }
def FnPlanLetUptoCardSaid : Prop := Claim7.holds Tryz.pinned (.plain (OpenSpec.upto fnPlanLetSpec)) fnPlanLetUptoCard

/-- THE SECOND FORM's CARD OF 'laws.FnPlanOut'. -/
def fnPlanOutUptoCard : Claim7 := { stood := { row := fnPlanOutUptoRow, standIns := [], harness := (true, "4e2fe8b4a3c567212110238683f42a3b7b497141b9c89e2b44c86fc62dbafe19"), looks := false }, kinds := [], alts := [], laidByText := true, laidKinds := [.data, .data, .data, .data, .pinned], laidTests := true, laidLooks := .later }
def FnPlanOutUptoCardSaid : Prop := Claim7.holds Tryz.pinned (.plain (OpenSpec.upto fnPlanOutSpec)) fnPlanOutUptoCard

/-- THE SECOND FORM's CARD OF 'laws.FnPlanSec'. -/
def fnPlanSecUptoCard : Claim7 := { stood := { row := fnPlanSecUptoRow, standIns := [], harness := (true, "4e2fe8b4a3c567212110238683f42a3b7b497141b9c89e2b44c86fc62dbafe19"), looks := false }, kinds := [], alts := [], laidByText := true, laidKinds := [.data, .data, .data, .data, .pinned], laidTests := true, laidLooks := .later }
def FnPlanSecUptoCardSaid : Prop := Claim7.holds Tryz.pinned (.plain (OpenSpec.upto fnPlanSecSpec)) fnPlanSecUptoCard

/-- THE SECOND FORM's CARD OF 'laws.FnExactDiskFold'. -/
def fnExactDiskFoldUptoCard : Claim7 := { stood := { row := fnExactDiskFoldUptoRow, standIns := [], harness := (true, "4e2fe8b4a3c567212110238683f42a3b7b497141b9c89e2b44c86fc62dbafe19"), looks := false }, kinds := [], alts := [], laidByText := true, laidKinds := [.data, .pinned], laidTests := true, laidLooks := .later }
def FnExactDiskFoldUptoCardSaid : Prop := Claim7.holds Tryz.pinned (.plain (OpenSpec.upto fnExactDiskFoldSpec)) fnExactDiskFoldUptoCard

/-- THE SECOND FORM's CARD OF 'laws.FnDiskLess'. -/
def fnDiskLessUptoCard : Claim7 := { stood := { row := fnDiskLessUptoRow, standIns := [], harness := (true, "4e2fe8b4a3c567212110238683f42a3b7b497141b9c89e2b44c86fc62dbafe19"), looks := false }, kinds := [], alts := [], laidByText := true, laidKinds := [.data, .pinned], laidTests := true, laidLooks := .later }
def FnDiskLessUptoCardSaid : Prop := Claim7.holds Tryz.pinned (.plain (OpenSpec.upto fnDiskLessSpec)) fnDiskLessUptoCard

/-- THE SECOND FORM's CARD OF 'laws.FnPlanMine'. -/
def fnPlanMineUptoCard : Claim7 := { stood := { row := fnPlanMineUptoRow, standIns := [], harness := (true, "4e2fe8b4a3c567212110238683f42a3b7b497141b9c89e2b44c86fc62dbafe19"), looks := false }, kinds := [], alts := [], laidByText := true, laidKinds := [.data, .data, .data, .data, .pinned], laidTests := true, laidLooks := .later }
def FnPlanMineUptoCardSaid : Prop := Claim7.holds Tryz.pinned (.plain (OpenSpec.upto fnPlanMineSpec)) fnPlanMineUptoCard
end Rows
end Go.Proofs.YtjoggjjjlafdmaaGreatDoor
