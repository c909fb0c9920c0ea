/-
  DERIVED. GIVEN WITH THE SEED: THE CARDS: each row of YtedhpmhlmdcpbaaDoorRows.lean that lists a variable, with what it lists TIED to the program's text (the seventh form; the later family's looks); each row that meets fmt, with fmt's text TOLD by the authors' own Lean function (tested against real Go, not proved from fmt's source: count such statements apart). THE CARD IS WHAT COUNTS. Prove the row's statement (the work); the ties are given (YtedhpmhlmdcpbaaDoorTie.lean); close each card by the builder's one call (the guide's Derived/Test/ToyasCard.lean, 'card_holds'). Laid BY PROGRAM, IN A SANDBOX (cutbox-door.mjs). By AI agents, Wed Nov 11 2026. No macro, syntax, notation, axiom, sorry.
-/
import Derived.Test.YtedhpmhlmdcpbaaDoorRows
import GoSem.ClaimSeven
namespace Go.Proofs.YtedhpmhlmdcpbaaDoor
namespace Rows

/-- THE TIED CARD OF 'laws.FnExactFroOk'. -/
def fnExactFroOkCard : Claim7 := { stood := { row := fnExactFroOkRow, standIns := [], harness := (true, "0270f0844047bad03b4a06138aa13279903773ce6a5fb8417cf016ddb28aacdb"), looks := false }, kinds := [], alts := [], laidByText := true, laidKinds := [.data, .pinned], laidTests := true, laidLooks := .later }
def FnExactFroOkCardSaid : Prop := Claim7.holds Tryd.pinned (.plain (OpenSpec.ofChange fnExactFroOkSpec)) fnExactFroOkCard

/-- THE SECOND FORM's CARD OF 'laws.FnExactFroOk'. -/
def fnExactFroOkUptoCard : Claim7 := { stood := { row := fnExactFroOkUptoRow, standIns := [], harness := (true, "0270f0844047bad03b4a06138aa13279903773ce6a5fb8417cf016ddb28aacdb"), looks := false }, kinds := [], alts := [], laidByText := true, laidKinds := [.data, .pinned], laidTests := true, laidLooks := .later }
def FnExactFroOkUptoCardSaid : Prop := Claim7.holds Tryd.pinned (.plain (OpenSpec.upto fnExactFroOkSpec)) fnExactFroOkUptoCard
end Rows
end Go.Proofs.YtedhpmhlmdcpbaaDoor
