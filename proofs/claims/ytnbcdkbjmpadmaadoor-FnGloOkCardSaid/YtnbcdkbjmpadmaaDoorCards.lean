/-
  DERIVED. GIVEN WITH THE SEED: THE CARDS: each row of YtnbcdkbjmpadmaaDoorRows.lean that lists a variable, with what it lists TIED to the program's text (the seventh form; the later family's looks); each row that meets fmt, with fmt's text TOLD by the authors' own Lean function (tested against real Go, not proved from fmt's source: count such statements apart). THE CARD IS WHAT COUNTS. Prove the row's statement (the work); the ties are given (YtnbcdkbjmpadmaaDoorTie.lean); close each card by the builder's one call (the guide's Derived/Test/ToyasCard.lean, 'card_holds'). Laid BY PROGRAM, IN A SANDBOX (cutbox-door.mjs). By AI agents, Wed Nov 11 2026. No macro, syntax, notation, axiom, sorry.
-/
import Derived.Test.YtnbcdkbjmpadmaaDoorRows
import GoSem.ClaimSeven
namespace Go.Proofs.YtnbcdkbjmpadmaaDoor
namespace Rows

/-- THE TIED CARD OF 'laws.FnGloOk'. -/
def fnGloOkCard : Claim7 := { stood := { row := fnGloOkRow, standIns := [], harness := (true, "52c3916d8b2c9f1b950407bdbba717020a1a2dcfa9dce368e6342f4dc9296225"), looks := false }, kinds := [], alts := [], laidByText := true, laidKinds := [.data, .pinned], laidTests := true, laidLooks := .later }
def FnGloOkCardSaid : Prop := Claim7.holds Tryd.pinned (.plain (OpenSpec.ofChange fnGloOkSpec)) fnGloOkCard

/-- THE SECOND FORM's CARD OF 'laws.FnGloOk'. -/
def fnGloOkUptoCard : Claim7 := { stood := { row := fnGloOkUptoRow, standIns := [], harness := (true, "52c3916d8b2c9f1b950407bdbba717020a1a2dcfa9dce368e6342f4dc9296225"), looks := false }, kinds := [], alts := [], laidByText := true, laidKinds := [.data, .pinned], laidTests := true, laidLooks := .later }
def FnGloOkUptoCardSaid : Prop := Claim7.holds Tryd.pinned (.plain (OpenSpec.upto fnGloOkSpec)) fnGloOkUptoCard
end Rows
end Go.Proofs.YtnbcdkbjmpadmaaDoor
