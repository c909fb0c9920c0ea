/-
  DERIVED. GIVEN WITH THE SEED: THE CARDS: each row of YtnbcdkbjmpadmaaGreatDoorRows.lean that lists a variable, with what it lists TIED to the program's text (the seventh form; the later family's looks); each row that meets fmt, with fmt's text TOLD by the authors' own Lean function (tested against real Go, not proved from fmt's source: count such statements apart). THE CARD IS WHAT COUNTS. Prove the row's statement (the work); the ties are given (YtnbcdkbjmpadmaaGreatDoorTie.lean); close each card by the builder's one call (the guide's Derived/Test/ToyasCard.lean, 'card_holds'). Laid BY PROGRAM, IN A SANDBOX (cutbox-door.mjs). By AI agents, Wed Nov 11 2026. No macro, syntax, notation, axiom, sorry.
-/
import Derived.Test.YtnbcdkbjmpadmaaGreatDoorRows
import GoSem.ClaimSeven
namespace Go.Proofs.YtnbcdkbjmpadmaaGreatDoor
namespace Rows

/-- THE TIED CARD OF 'laws.FnExactPlcPlan'. -/
def fnExactPlcPlanCard : Claim7 := { stood := { row := fnExactPlcPlanRow, standIns := [], harness := (true, "741c14a0da908728bd9313d4ac79d25d35c5d5ede4c2fba730b827b4bbcee448"), looks := false }, kinds := [], alts := [], laidByText := true, laidKinds := [.data, .data, .data, .data, .pinned], laidTests := true, laidLooks := .later }
def FnExactPlcPlanCardSaid : Prop := Claim7.holds Tryz.pinned (.plain (OpenSpec.ofChange fnExactPlcPlanSpec)) fnExactPlcPlanCard

/-- THE TIED CARD OF 'laws.FnPlanTx'. -/
def fnPlanTxCard : Claim7 := { stood := { row := fnPlanTxRow, standIns := [], harness := (true, "741c14a0da908728bd9313d4ac79d25d35c5d5ede4c2fba730b827b4bbcee448"), looks := false }, kinds := [], alts := [], laidByText := true, laidKinds := [.data, .data, .data, .data, .pinned], laidTests := true, laidLooks := .later }
def FnPlanTxCardSaid : Prop := Claim7.holds Tryz.pinned (.plain (OpenSpec.ofChange fnPlanTxSpec)) fnPlanTxCard

/-- THE TIED CARD OF 'laws.FnPlanLet'. -/
def fnPlanLetCard : Claim7 := { stood := { row := fnPlanLetRow, standIns := [], harness := (true, "741c14a0da908728bd9313d4ac79d25d35c5d5ede4c2fba730b827b4bbcee448"), looks := false }, kinds := [], alts := [], laidByText := true, laidKinds := [.data, .data, .data, .data, .pinned], laidTests := true, laidLooks := .later }
def FnPlanLetCardSaid : Prop := Claim7.holds Tryz.pinned (.plain (OpenSpec.ofChange fnPlanLetSpec)) fnPlanLetCard

/-- THE TIED CARD OF 'laws.FnPlanOut'. -/
def fnPlanOutCard : Claim7 := { stood := { row := fnPlanOutRow, standIns := [], harness := (true, "741c14a0da908728bd9313d4ac79d25d35c5d5ede4c2fba730b827b4bbcee448"), looks := false }, kinds := [], alts := [], laidByText := true, laidKinds := [.data, .data, .data, .data, .pinned], laidTests := true, laidLooks := .later }
def FnPlanOutCardSaid : Prop := Claim7.holds Tryz.pinned (.plain (OpenSpec.ofChange fnPlanOutSpec)) fnPlanOutCard

/-- THE TIED CARD OF 'laws.FnPlanSec'. -/
def fnPlanSecCard : Claim7 := { stood := { row := fnPlanSecRow, standIns := [], harness := (true, "741c14a0da908728bd9313d4ac79d25d35c5d5ede4c2fba730b827b4bbcee448"), looks := false }, kinds := [], alts := [], laidByText := true, laidKinds := [.data, .data, .data, .data, .pinned], laidTests := true, laidLooks := .later }
def FnPlanSecCardSaid : Prop := Claim7.holds Tryz.pinned (.plain (OpenSpec.ofChange fnPlanSecSpec)) fnPlanSecCard

/-- THE SECOND FORM's CARD OF 'laws.FnExactPlcPlan'. -/
def fnExactPlcPlanUptoCard : Claim7 := { stood := { row := fnExactPlcPlanUptoRow, standIns := [], harness := (true, "741c14a0da908728bd9313d4ac79d25d35c5d5ede4c2fba730b827b4bbcee448"), looks := false }, kinds := [], alts := [], laidByText := true, laidKinds := [.data, .data, .data, .data, .pinned], laidTests := true, laidLooks := .later }
def FnExactPlcPlanUptoCardSaid : Prop := Claim7.holds Tryz.pinned (.plain (OpenSpec.upto fnExactPlcPlanSpec)) fnExactPlcPlanUptoCard

/-- THE SECOND FORM's CARD OF 'laws.FnPlanTx'. -/
def fnPlanTxUptoCard : Claim7 := { stood := { row := fnPlanTxUptoRow, standIns := [], harness := (true, "741c14a0da908728bd9313d4ac79d25d35c5d5ede4c2fba730b827b4bbcee448"), looks := false }, kinds := [], alts := [], laidByText := true, laidKinds := [.data, .data, .data, .data, .pinned], laidTests := true, laidLooks := .later }
def FnPlanTxUptoCardSaid : Prop := Claim7.holds Tryz.pinned (.plain (OpenSpec.upto fnPlanTxSpec)) fnPlanTxUptoCard

/-- THE SECOND FORM's CARD OF 'laws.FnPlanLet'. -/
def fnPlanLetUptoCard : Claim7 := { stood := { row := fnPlanLetUptoRow, standIns := [], harness := (true, "741c14a0da908728bd9313d4ac79d25d35c5d5ede4c2fba730b827b4bbcee448"), looks := false }, kinds := [], alts := [], laidByText := true, laidKinds := [.data, .data, .data, .data, .pinned], laidTests := true, laidLooks := .later }
def FnPlanLetUptoCardSaid : Prop := Claim7.holds Tryz.pinned (.plain (OpenSpec.upto fnPlanLetSpec)) fnPlanLetUptoCard

/-- THE SECOND FORM's CARD OF 'laws.FnPlanOut'. -/
def fnPlanOutUptoCard : Claim7 := { stood := { row := fnPlanOutUptoRow, standIns := [], harness := (true, "741c14a0da908728bd9313d4ac79d25d35c5d5ede4c2fba730b827b4bbcee448"), looks := false }, kinds := [], alts := [], laidByText := true, laidKinds := [.data, .data, .data, .data, .pinned], laidTests := true, laidLooks := .later }
def FnPlanOutUptoCardSaid : Prop := Claim7.holds Tryz.pinned (.plain (OpenSpec.upto fnPlanOutSpec)) fnPlanOutUptoCard

/-- THE SECOND FORM's CARD OF 'laws.FnPlanSec'. -/
def fnPlanSecUptoCard : Claim7 := { stood := { row := fnPlanSecUptoRow, standIns := [], harness := (true, "741c14a0da908728bd9313d4ac79d25d35c5d5ede4c2fba730b827b4bbcee448"), looks := false }, kinds := [], alts := [], laidByText := true, laidKinds := [.data, .data, .data, .data, .pinned], laidTests := true, laidLooks := .later }
def FnPlanSecUptoCardSaid : Prop := Claim7.holds Tryz.pinned (.plain (OpenSpec.upto fnPlanSecSpec)) fnPlanSecUptoCard
end Rows
end Go.Proofs.YtnbcdkbjmpadmaaGreatDoor
