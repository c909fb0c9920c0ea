/-
  DERIVED. GIVEN WITH THE SEED: THE CARDS: each row of YtkjeicijcecmlaaDoorRows.lean that lists a variable, with what it lists TIED to the program's text (the seventh form; the later family's looks); each row that meets fmt, with fmt's text TOLD by the authors' own Lean function (tested against real Go, not proved from fmt's source: count such statements apart). THE CARD IS WHAT COUNTS. Prove the row's statement (the work); the ties are given (YtkjeicijcecmlaaDoorTie.lean); close each card by the builder's one call (the guide's Derived/Test/ToyasCard.lean, 'card_holds'). Laid BY PROGRAM, IN A SANDBOX (cutbox-door.mjs). By AI agents, Wed Nov 11 2026. No macro, syntax, notation, axiom, sorry.
-/
import Derived.Test.YtkjeicijcecmlaaDoorRows
import GoSem.ClaimSeven
namespace Go.Proofs.YtkjeicijcecmlaaDoor
namespace Rows

/-- THE TIED CARD OF 'laws.FnStoOk'. -/
def fnStoOkCard : Claim7 := { stood := { row := fnStoOkRow, standIns := [], harness := (true, "67a9a478635bb00ed956a7c28da5fd4bbee1d7347175a653290e6b678e7562d9"), looks := false }, kinds := [], alts := [], laidByText := true, laidKinds := [.data, .pinned], laidTests := true, laidLooks := .later }
def FnStoOkCardSaid : Prop := Claim7.holds Tryd.pinned (.plain (OpenSpec.ofChange fnStoOkSpec)) fnStoOkCard

/-- THE TIED CARD OF 'laws.FnStoDo'. -/
def fnStoDoCard : Claim7 := { stood := { row := fnStoDoRow, standIns := [], harness := (true, "67a9a478635bb00ed956a7c28da5fd4bbee1d7347175a653290e6b678e7562d9"), looks := false }, kinds := [], alts := [], laidByText := true, laidKinds := [.data, .pinned], laidTests := true, laidLooks := .later }
def FnStoDoCardSaid : Prop := Claim7.holds Tryd.pinned (.plain (OpenSpec.ofChange fnStoDoSpec)) fnStoDoCard

/-- THE TIED CARD OF 'laws.FnExactStoDo'. -/
def fnExactStoDoCard : Claim7 := { stood := { row := fnExactStoDoRow, standIns := [], harness := (true, "67a9a478635bb00ed956a7c28da5fd4bbee1d7347175a653290e6b678e7562d9"), looks := false }, kinds := [], alts := [], laidByText := true, laidKinds := [.data, .pinned], laidTests := true, laidLooks := .later }
def FnExactStoDoCardSaid : Prop := Claim7.holds Tryd.pinned (.plain (OpenSpec.ofChange fnExactStoDoSpec)) fnExactStoDoCard

/-- THE TIED CARD OF 'laws.FnExactDiskOpen'. -/
def fnExactDiskOpenCard : Claim7 := { stood := { row := fnExactDiskOpenRow, standIns := [], harness := (true, "67a9a478635bb00ed956a7c28da5fd4bbee1d7347175a653290e6b678e7562d9"), looks := false }, kinds := [], alts := [], laidByText := true, laidKinds := [.data, .pinned], laidTests := true, laidLooks := .later }
def FnExactDiskOpenCardSaid : Prop := Claim7.holds Tryd.pinned (.plain (OpenSpec.ofChange fnExactDiskOpenSpec)) fnExactDiskOpenCard

/-- THE TIED CARD OF 'laws.FnExactDiskLocks'. -/
def fnExactDiskLocksCard : Claim7 := { stood := { row := fnExactDiskLocksRow, standIns := [], harness := (true, "67a9a478635bb00ed956a7c28da5fd4bbee1d7347175a653290e6b678e7562d9"), looks := false }, kinds := [], alts := [], laidByText := true, laidKinds := [.data, .pinned], laidTests := true, laidLooks := .later }
def FnExactDiskLocksCardSaid : Prop := Claim7.holds Tryd.pinned (.plain (OpenSpec.ofChange fnExactDiskLocksSpec)) fnExactDiskLocksCard

/-- THE TIED CARD OF 'laws.FnExactDiskAdd'. -/
def fnExactDiskAddCard : Claim7 := { stood := { row := fnExactDiskAddRow, standIns := [], harness := (true, "67a9a478635bb00ed956a7c28da5fd4bbee1d7347175a653290e6b678e7562d9"), looks := false }, kinds := [], alts := [], laidByText := true, laidKinds := [.data, .pinned], laidTests := true, laidLooks := .later }
def FnExactDiskAddCardSaid : Prop := Claim7.holds Tryd.pinned (.plain (OpenSpec.ofChange fnExactDiskAddSpec)) fnExactDiskAddCard

/-- THE TIED CARD OF 'laws.FnExactDiskFall'. -/
def fnExactDiskFallCard : Claim7 := { stood := { row := fnExactDiskFallRow, standIns := [], harness := (true, "67a9a478635bb00ed956a7c28da5fd4bbee1d7347175a653290e6b678e7562d9"), looks := false }, kinds := [], alts := [], laidByText := true, laidKinds := [.data, .pinned], laidTests := true, laidLooks := .later }
def FnExactDiskFallCardSaid : Prop := Claim7.holds Tryd.pinned (.plain (OpenSpec.ofChange fnExactDiskFallSpec)) fnExactDiskFallCard

/-- THE TIED CARD OF 'laws.FnDiskOpen'. -/
def fnDiskOpenCard : Claim7 := { stood := { row := fnDiskOpenRow, standIns := [], harness := (true, "67a9a478635bb00ed956a7c28da5fd4bbee1d7347175a653290e6b678e7562d9"), looks := false }, kinds := [], alts := [], laidByText := true, laidKinds := [.data, .pinned], laidTests := true, laidLooks := .later }
def FnDiskOpenCardSaid : Prop := Claim7.holds Tryd.pinned (.plain (OpenSpec.ofChange fnDiskOpenSpec)) fnDiskOpenCard

/-- THE TIED CARD OF 'laws.FnExactPlcTick'. -/
def fnExactPlcTickCard : Claim7 := { stood := { row := fnExactPlcTickRow, standIns := [], harness := (true, "67a9a478635bb00ed956a7c28da5fd4bbee1d7347175a653290e6b678e7562d9"), looks := false }, kinds := [], alts := [], laidByText := true, laidKinds := [.data, .pinned], laidTests := true, laidLooks := .later }
def FnExactPlcTickCardSaid : Prop := Claim7.holds Tryd.pinned (.plain (OpenSpec.ofChange fnExactPlcTickSpec)) fnExactPlcTickCard

/-- THE TIED CARD OF 'laws.FnDiskFold'. -/
def fnDiskFoldCard : Claim7 := { stood := { row := fnDiskFoldRow, standIns := [], harness := (true, "67a9a478635bb00ed956a7c28da5fd4bbee1d7347175a653290e6b678e7562d9"), looks := false }, kinds := [], alts := [], laidByText := true, laidKinds := [.data, .pinned], laidTests := true, laidLooks := .later }
def FnDiskFoldCardSaid : Prop := Claim7.holds Tryd.pinned (.plain (OpenSpec.ofChange fnDiskFoldSpec)) fnDiskFoldCard

/-- THE SECOND FORM's CARD OF 'laws.FnStoOk'. -/
def fnStoOkUptoCard : Claim7 := { stood := { row := fnStoOkUptoRow, standIns := [], harness := (true, "67a9a478635bb00ed956a7c28da5fd4bbee1d7347175a653290e6b678e7562d9"), looks := false }, kinds := [], alts := [], laidByText := true, laidKinds := [.data, .pinned], laidTests := true, laidLooks := .later }
def FnStoOkUptoCardSaid : Prop := Claim7.holds Tryd.pinned (.plain (OpenSpec.upto fnStoOkSpec)) fnStoOkUptoCard

/-- THE SECOND FORM's CARD OF 'laws.FnStoDo'. -/
def fnStoDoUptoCard : Claim7 := { stood := { row := fnStoDoUptoRow, standIns := [], harness := (true, "67a9a478635bb00ed956a7c28da5fd4bbee1d7347175a653290e6b678e7562d9"), looks := false }, kinds := [], alts := [], laidByText := true, laidKinds := [.data, .pinned], laidTests := true, laidLooks := .later }
def FnStoDoUptoCardSaid : Prop := Claim7.holds Tryd.pinned (.plain (OpenSpec.upto fnStoDoSpec)) fnStoDoUptoCard

/-- THE SECOND FORM's CARD OF 'laws.FnExactStoDo'. -/
def fnExactStoDoUptoCard : Claim7 := { stood := { row := fnExactStoDoUptoRow, standIns := [], harness := (true, "67a9a478635bb00ed956a7c28da5fd4bbee1d7347175a653290e6b678e7562d9"), looks := false }, kinds := [], alts := [], laidByText := true, laidKinds := [.data, .pinned], laidTests := true, laidLooks := .later }
def FnExactStoDoUptoCardSaid : Prop := Claim7.holds Tryd.pinned (.plain (OpenSpec.upto fnExactStoDoSpec)) fnExactStoDoUptoCard

/-- THE SECOND FORM's CARD OF 'laws.FnExactDiskOpen'. -/
def fnExactDiskOpenUptoCard : Claim7 := { stood := { row := fnExactDiskOpenUptoRow, standIns := [], harness := (true, "67a9a478635bb00ed956a7c28da5fd4bbee1d7347175a653290e6b678e7562d9"), looks := false }, kinds := [], alts := [], laidByText := true, laidKinds := [.data, .pinned], laidTests := true, laidLooks := .later }
def FnExactDiskOpenUptoCardSaid : Prop := Claim7.holds Tryd.pinned (.plain (OpenSpec.upto fnExactDiskOpenSpec)) fnExactDiskOpenUptoCard

/-- THE SECOND FORM's CARD OF 'laws.FnExactDiskLocks'. -/
def fnExactDiskLocksUptoCard : Claim7 := { stood := { row := fnExactDiskLocksUptoRow, standIns := [], harness := (true, "67a9a478635bb00ed956a7c28da5fd4bbee1d7347175a653290e6b678e7562d9"), looks := false }, kinds := [], alts := [], laidByText := true, laidKinds := [.data, .pinned], laidTests := true, laidLooks := .later }
def FnExactDiskLocksUptoCardSaid : Prop := Claim7.holds Tryd.pinned (.plain (OpenSpec.upto fnExactDiskLocksSpec)) fnExactDiskLocksUptoCard

/-- THE SECOND FORM's CARD OF 'laws.FnExactDiskAdd'. -/
def fnExactDiskAddUptoCard : Claim7 := { stood := { row := fnExactDiskAddUptoRow, standIns := [], harness := (true, "67a9a478635bb00ed956a7c28da5fd4bbee1d7347175a653290e6b678e7562d9"), looks := false }, kinds := [], alts := [], laidByText := true, laidKinds := [.data, .pinned], laidTests := true, laidLooks := .later }
def FnExactDiskAddUptoCardSaid : Prop := Claim7.holds Tryd.pinned (.plain (OpenSpec.upto fnExactDiskAddSpec)) fnExactDiskAddUptoCard

/-- THE SECOND FORM's CARD OF 'laws.FnExactDiskFall'. -/
def fnExactDiskFallUptoCard : Claim7 := { stood := { row := fnExactDiskFallUptoRow, standIns := [], harness := (true, "67a9a478635bb00ed956a7c28da5fd4bbee1d7347175a653290e6b678e7562d9"), looks := false }, kinds := [], alts := [], laidByText := true, laidKinds := [.data, .pinned], laidTests := true, laidLooks := .later }
def FnExactDiskFallUptoCardSaid : Prop := Claim7.holds Tryd.pinned (.plain (OpenSpec.upto fnExactDiskFallSpec)) fnExactDiskFallUptoCard

/-- THE SECOND FORM's CARD OF 'laws.FnDiskOpen'. -/
def fnDiskOpenUptoCard : Claim7 := { stood := { row := fnDiskOpenUptoRow, standIns := [], harness := (true, "67a9a478635bb00ed956a7c28da5fd4bbee1d7347175a653290e6b678e7562d9"), looks := false }, kinds := [], alts := [], laidByText := true, laidKinds := [.data, .pinned], laidTests := true, laidLooks := .later }
def FnDiskOpenUptoCardSaid : Prop := Claim7.holds Tryd.pinned (.plain (OpenSpec.upto fnDiskOpenSpec)) fnDiskOpenUptoCard

/-- THE SECOND FORM's CARD OF 'laws.FnExactPlcTick'. -/
def fnExactPlcTickUptoCard : Claim7 := { stood := { row := fnExactPlcTickUptoRow, standIns := [], harness := (true, "67a9a478635bb00ed956a7c28da5fd4bbee1d7347175a653290e6b678e7562d9"), looks := false }, kinds := [], alts := [], laidByText := true, laidKinds := [.data, .pinned], laidTests := true, laidLooks := .later }
def FnExactPlcTickUptoCardSaid : Prop := Claim7.holds Tryd.pinned (.plain (OpenSpec.upto fnExactPlcTickSpec)) fnExactPlcTickUptoCard

/-- THE SECOND FORM's CARD OF 'laws.FnDiskFold'. -/
def fnDiskFoldUptoCard : Claim7 := { stood := { row := fnDiskFoldUptoRow, standIns := [], harness := (true, "67a9a478635bb00ed956a7c28da5fd4bbee1d7347175a653290e6b678e7562d9"), looks := false }, kinds := [], alts := [], laidByText := true, laidKinds := [.data, .pinned], laidTests := true, laidLooks := .later }
def FnDiskFoldUptoCardSaid : Prop := Claim7.holds Tryd.pinned (.plain (OpenSpec.upto fnDiskFoldSpec)) fnDiskFoldUptoCard
end Rows
end Go.Proofs.YtkjeicijcecmlaaDoor
