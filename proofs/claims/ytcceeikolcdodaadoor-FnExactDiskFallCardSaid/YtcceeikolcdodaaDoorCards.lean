/-
  DERIVED. GIVEN WITH THE SEED: THE CARDS: each row of YtcceeikolcdodaaDoorRows.lean that lists a variable, with what it lists TIED to the program's text (the seventh form; the later family's looks); each row that meets fmt, with fmt's text TOLD by the authors' own Lean function (tested against real Go, not proved from fmt's source: count such statements apart). THE CARD IS WHAT COUNTS. Prove the row's statement (the work); the ties are given (YtcceeikolcdodaaDoorTie.lean); close each card by the builder's one call (the guide's Derived/Test/ToyasCard.lean, 'card_holds'). Laid BY PROGRAM, IN A SANDBOX (cutbox-door.mjs). By AI agents, Wed Nov 11 2026. No macro, syntax, notation, axiom, sorry.
-/
import Derived.Test.YtcceeikolcdodaaDoorRows
import GoSem.ClaimSeven
namespace Go.Proofs.YtcceeikolcdodaaDoor
namespace Rows

/-- THE TIED CARD OF 'laws.FnExactDiskFall'. -/
def fnExactDiskFallCard : Claim7 := { stood := { row := fnExactDiskFallRow, standIns := [], harness := (true, "6cb249a63109cd72a75e1426f906a13ea30b72ba83f78f1defc608ede83d2d9f"), looks := false }, kinds := [], alts := [], laidByText := true, laidKinds := [.data, .pinned], laidTests := true, laidLooks := .later }
def FnExactDiskFallCardSaid : Prop := Claim7.holds Tryd.pinned (.plain (OpenSpec.ofChange fnExactDiskFallSpec)) fnExactDiskFallCard

/-- THE SECOND FORM's CARD OF 'laws.FnExactDiskFall'. -/
def fnExactDiskFallUptoCard : Claim7 := { stood := { row := fnExactDiskFallUptoRow, standIns := [], harness := (true, "6cb249a63109cd72a75e1426f906a13ea30b72ba83f78f1defc608ede83d2d9f"), looks := false }, kinds := [], alts := [], laidByText := true, laidKinds := [.data, .pinned], laidTests := true, laidLooks := .later }
def FnExactDiskFallUptoCardSaid : Prop := Claim7.holds Tryd.pinned (.plain (OpenSpec.upto fnExactDiskFallSpec)) fnExactDiskFallUptoCard
end Rows
end Go.Proofs.YtcceeikolcdodaaDoor
