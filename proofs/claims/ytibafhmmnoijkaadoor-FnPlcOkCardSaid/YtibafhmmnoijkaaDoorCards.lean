/-
  DERIVED. GIVEN WITH THE SEED: THE CARDS: each row of YtibafhmmnoijkaaDoorRows.lean that lists a variable, with what it lists TIED to the program's text (the seventh form; the later family's looks); each row that meets fmt, with fmt's text TOLD by the authors' own Lean function (tested against real Go, not proved from fmt's source: count such statements apart). THE CARD IS WHAT COUNTS. Prove the row's statement (the work); the ties are given (YtibafhmmnoijkaaDoorTie.lean); close each card by the builder's one call (the guide's Derived/Test/ToyasCard.lean, 'card_holds'). Laid BY PROGRAM, IN A SANDBOX (cutbox-door.mjs). By AI agents, Wed Nov 11 2026. No macro, syntax, notation, axiom, sorry.
-/
import Derived.Test.YtibafhmmnoijkaaDoorRows
import GoSem.ClaimSeven
namespace Go.Proofs.YtibafhmmnoijkaaDoor
namespace Rows

/-- THE TIED CARD OF 'laws.FnExactStoGet'. -/
def fnExactStoGetCard : Claim7 := { stood := { row := fnExactStoGetRow, standIns := [], harness := (true, "573a7d7dc614fb0806f2275695f85b8bb5af0686df7d9b639c08af2b5a94937d"), looks := false }, kinds := [], alts := [], laidByText := true, laidKinds := [.data, .pinned], laidTests := true, laidLooks := .later }
def FnExactStoGetCardSaid : Prop := Claim7.holds Tryd.pinned (.plain (OpenSpec.ofChange fnExactStoGetSpec)) fnExactStoGetCard

/-- THE TIED CARD OF 'laws.FnExactDiskOk'. -/
def fnExactDiskOkCard : Claim7 := { stood := { row := fnExactDiskOkRow, standIns := [], harness := (true, "573a7d7dc614fb0806f2275695f85b8bb5af0686df7d9b639c08af2b5a94937d"), looks := false }, kinds := [], alts := [], laidByText := true, laidKinds := [.data, .pinned], laidTests := true, laidLooks := .later }
def FnExactDiskOkCardSaid : Prop := Claim7.holds Tryd.pinned (.plain (OpenSpec.ofChange fnExactDiskOkSpec)) fnExactDiskOkCard

/-- THE TIED CARD OF 'laws.FnDiskOf'. -/
def fnDiskOfCard : Claim7 := { stood := { row := fnDiskOfRow, standIns := [], harness := (true, "573a7d7dc614fb0806f2275695f85b8bb5af0686df7d9b639c08af2b5a94937d"), looks := false }, kinds := [], alts := [], laidByText := true, laidKinds := [.data, .pinned], laidTests := true, laidLooks := .later }
def FnDiskOfCardSaid : Prop := Claim7.holds Tryd.pinned (.plain (OpenSpec.ofChange fnDiskOfSpec)) fnDiskOfCard

/-- THE TIED CARD OF 'laws.FnExactDiskOf'. -/
def fnExactDiskOfCard : Claim7 := { stood := { row := fnExactDiskOfRow, standIns := [], harness := (true, "573a7d7dc614fb0806f2275695f85b8bb5af0686df7d9b639c08af2b5a94937d"), looks := false }, kinds := [], alts := [], laidByText := true, laidKinds := [.data, .pinned], laidTests := true, laidLooks := .later }
def FnExactDiskOfCardSaid : Prop := Claim7.holds Tryd.pinned (.plain (OpenSpec.ofChange fnExactDiskOfSpec)) fnExactDiskOfCard

/-- THE TIED CARD OF 'laws.FnDiskFall'. -/
def fnDiskFallCard : Claim7 := { stood := { row := fnDiskFallRow, standIns := [], harness := (true, "573a7d7dc614fb0806f2275695f85b8bb5af0686df7d9b639c08af2b5a94937d"), looks := false }, kinds := [], alts := [], laidByText := true, laidKinds := [.data, .pinned], laidTests := true, laidLooks := .later }
def FnDiskFallCardSaid : Prop := Claim7.holds Tryd.pinned (.plain (OpenSpec.ofChange fnDiskFallSpec)) fnDiskFallCard

/-- THE TIED CARD OF 'laws.FnDiskAdd'. -/
def fnDiskAddCard : Claim7 := { stood := { row := fnDiskAddRow, standIns := [], harness := (true, "573a7d7dc614fb0806f2275695f85b8bb5af0686df7d9b639c08af2b5a94937d"), looks := false }, kinds := [], alts := [], laidByText := true, laidKinds := [.data, .pinned], laidTests := true, laidLooks := .later }
def FnDiskAddCardSaid : Prop := Claim7.holds Tryd.pinned (.plain (OpenSpec.ofChange fnDiskAddSpec)) fnDiskAddCard

/-- THE TIED CARD OF 'laws.FnPlcTick'. -/
def fnPlcTickCard : Claim7 := { stood := { row := fnPlcTickRow, standIns := [], harness := (true, "573a7d7dc614fb0806f2275695f85b8bb5af0686df7d9b639c08af2b5a94937d"), looks := false }, kinds := [], alts := [], laidByText := true, laidKinds := [.data, .pinned], laidTests := true, laidLooks := .later }
def FnPlcTickCardSaid : Prop := Claim7.holds Tryd.pinned (.plain (OpenSpec.ofChange fnPlcTickSpec)) fnPlcTickCard

/-- THE TIED CARD OF 'laws.FnDiskSafe'. -/
def fnDiskSafeCard : Claim7 := { stood := { row := fnDiskSafeRow, standIns := [], harness := (true, "573a7d7dc614fb0806f2275695f85b8bb5af0686df7d9b639c08af2b5a94937d"), looks := false }, kinds := [], alts := [], laidByText := true, laidKinds := [.data, .pinned], laidTests := true, laidLooks := .later }
def FnDiskSafeCardSaid : Prop := Claim7.holds Tryd.pinned (.plain (OpenSpec.ofChange fnDiskSafeSpec)) fnDiskSafeCard

/-- THE TIED CARD OF 'laws.FnStoAgain'. -/
def fnStoAgainCard : Claim7 := { stood := { row := fnStoAgainRow, standIns := [], harness := (true, "573a7d7dc614fb0806f2275695f85b8bb5af0686df7d9b639c08af2b5a94937d"), looks := false }, kinds := [], alts := [], laidByText := true, laidKinds := [.data, .pinned], laidTests := true, laidLooks := .later }
def FnStoAgainCardSaid : Prop := Claim7.holds Tryd.pinned (.plain (OpenSpec.ofChange fnStoAgainSpec)) fnStoAgainCard

/-- THE TIED CARD OF 'laws.FnStoTwo'. -/
def fnStoTwoCard : Claim7 := { stood := { row := fnStoTwoRow, standIns := [], harness := (true, "573a7d7dc614fb0806f2275695f85b8bb5af0686df7d9b639c08af2b5a94937d"), looks := false }, kinds := [], alts := [], laidByText := true, laidKinds := [.data, .pinned], laidTests := true, laidLooks := .later }
def FnStoTwoCardSaid : Prop := Claim7.holds Tryd.pinned (.plain (OpenSpec.ofChange fnStoTwoSpec)) fnStoTwoCard

/-- THE TIED CARD OF 'laws.FnPlcOk'. -/
def fnPlcOkCard : Claim7 := { stood := { row := fnPlcOkRow, standIns := [], harness := (true, "573a7d7dc614fb0806f2275695f85b8bb5af0686df7d9b639c08af2b5a94937d"), looks := false }, kinds := [], alts := [], laidByText := true, laidKinds := [.data, .pinned], laidTests := true, laidLooks := .later }
def FnPlcOkCardSaid : Prop := Claim7.holds Tryd.pinned (.plain (OpenSpec.ofChange fnPlcOkSpec)) fnPlcOkCard

/-- THE SECOND FORM's CARD OF 'laws.FnExactStoGet'. -/
def fnExactStoGetUptoCard : Claim7 := { stood := { row := fnExactStoGetUptoRow, standIns := [], harness := (true, "573a7d7dc614fb0806f2275695f85b8bb5af0686df7d9b639c08af2b5a94937d"), looks := false }, kinds := [], alts := [], laidByText := true, laidKinds := [.data, .pinned], laidTests := true, laidLooks := .later }
def FnExactStoGetUptoCardSaid : Prop := Claim7.holds Tryd.pinned (.plain (OpenSpec.upto fnExactStoGetSpec)) fnExactStoGetUptoCard

/-- THE SECOND FORM's CARD OF 'laws.FnExactDiskOk'. -/
def fnExactDiskOkUptoCard : Claim7 := { stood := { row := fnExactDiskOkUptoRow, standIns := [], harness := (true, "573a7d7dc614fb0806f2275695f85b8bb5af0686df7d9b639c08af2b5a94937d"), looks := false }, kinds := [], alts := [], laidByText := true, laidKinds := [.data, .pinned], laidTests := true, laidLooks := .later }
def FnExactDiskOkUptoCardSaid : Prop := Claim7.holds Tryd.pinned (.plain (OpenSpec.upto fnExactDiskOkSpec)) fnExactDiskOkUptoCard

/-- THE SECOND FORM's CARD OF 'laws.FnDiskOf'. -/
def fnDiskOfUptoCard : Claim7 := { stood := { row := fnDiskOfUptoRow, standIns := [], harness := (true, "573a7d7dc614fb0806f2275695f85b8bb5af0686df7d9b639c08af2b5a94937d"), looks := false }, kinds := [], alts := [], laidByText := true, laidKinds := [.data, .pinned], laidTests := true, laidLooks := .later }
def FnDiskOfUptoCardSaid : Prop := Claim7.holds Tryd.pinned (.plain (OpenSpec.upto fnDiskOfSpec)) fnDiskOfUptoCard

/-- THE SECOND FORM's CARD OF 'laws.FnExactDiskOf'. -/
def fnExactDiskOfUptoCard : Claim7 := { stood := { row := fnExactDiskOfUptoRow, standIns := [], harness := (true, "573a7d7dc614fb0806f2275695f85b8bb5af0686df7d9b639c08af2b5a94937d"), looks := false }, kinds := [], alts := [], laidByText := true, laidKinds := [.data, .pinned], laidTests := true, laidLooks := .later }
def FnExactDiskOfUptoCardSaid : Prop := Claim7.holds Tryd.pinned (.plain (OpenSpec.upto fnExactDiskOfSpec)) fnExactDiskOfUptoCard

/-- THE SECOND FORM's CARD OF 'laws.FnDiskFall'. -/
def fnDiskFallUptoCard : Claim7 := { stood := { row := fnDiskFallUptoRow, standIns := [], harness := (true, "573a7d7dc614fb0806f2275695f85b8bb5af0686df7d9b639c08af2b5a94937d"), looks := false }, kinds := [], alts := [], laidByText := true, laidKinds := [.data, .pinned], laidTests := true, laidLooks := .later }
def FnDiskFallUptoCardSaid : Prop := Claim7.holds Tryd.pinned (.plain (OpenSpec.upto fnDiskFallSpec)) fnDiskFallUptoCard

/-- THE SECOND FORM's CARD OF 'laws.FnDiskAdd'. -/
def fnDiskAddUptoCard : Claim7 := { stood := { row := fnDiskAddUptoRow, standIns := [], harness := (true, "573a7d7dc614fb0806f2275695f85b8bb5af0686df7d9b639c08af2b5a94937d"), looks := false }, kinds := [], alts := [], laidByText := true, laidKinds := [.data, .pinned], laidTests := true, laidLooks := .later }
def FnDiskAddUptoCardSaid : Prop := Claim7.holds Tryd.pinned (.plain (OpenSpec.upto fnDiskAddSpec)) fnDiskAddUptoCard

/-- THE SECOND FORM's CARD OF 'laws.FnPlcTick'. -/
def fnPlcTickUptoCard : Claim7 := { stood := { row := fnPlcTickUptoRow, standIns := [], harness := (true, "573a7d7dc614fb0806f2275695f85b8bb5af0686df7d9b639c08af2b5a94937d"), looks := false }, kinds := [], alts := [], laidByText := true, laidKinds := [.data, .pinned], laidTests := true, laidLooks := .later }
def FnPlcTickUptoCardSaid : Prop := Claim7.holds Tryd.pinned (.plain (OpenSpec.upto fnPlcTickSpec)) fnPlcTickUptoCard

/-- THE SECOND FORM's CARD OF 'laws.FnDiskSafe'. -/
def fnDiskSafeUptoCard : Claim7 := { stood := { row := fnDiskSafeUptoRow, standIns := [], harness := (true, "573a7d7dc614fb0806f2275695f85b8bb5af0686df7d9b639c08af2b5a94937d"), looks := false }, kinds := [], alts := [], laidByText := true, laidKinds := [.data, .pinned], laidTests := true, laidLooks := .later }
def FnDiskSafeUptoCardSaid : Prop := Claim7.holds Tryd.pinned (.plain (OpenSpec.upto fnDiskSafeSpec)) fnDiskSafeUptoCard

/-- THE SECOND FORM's CARD OF 'laws.FnStoAgain'. -/
def fnStoAgainUptoCard : Claim7 := { stood := { row := fnStoAgainUptoRow, standIns := [], harness := (true, "573a7d7dc614fb0806f2275695f85b8bb5af0686df7d9b639c08af2b5a94937d"), looks := false }, kinds := [], alts := [], laidByText := true, laidKinds := [.data, .pinned], laidTests := true, laidLooks := .later }
def FnStoAgainUptoCardSaid : Prop := Claim7.holds Tryd.pinned (.plain (OpenSpec.upto fnStoAgainSpec)) fnStoAgainUptoCard

/-- THE SECOND FORM's CARD OF 'laws.FnStoTwo'. -/
def fnStoTwoUptoCard : Claim7 := { stood := { row := fnStoTwoUptoRow, standIns := [], harness := (true, "573a7d7dc614fb0806f2275695f85b8bb5af0686df7d9b639c08af2b5a94937d"), looks := false }, kinds := [], alts := [], laidByText := true, laidKinds := [.data, .pinned], laidTests := true, laidLooks := .later }
def FnStoTwoUptoCardSaid : Prop := Claim7.holds Tryd.pinned (.plain (OpenSpec.upto fnStoTwoSpec)) fnStoTwoUptoCard

/-- THE SECOND FORM's CARD OF 'laws.FnPlcOk'. -/
def fnPlcOkUptoCard : Claim7 := { stood := { row := fnPlcOkUptoRow, standIns := [], harness := (true, "573a7d7dc614fb0806f2275695f85b8bb5af0686df7d9b639c08af2b5a94937d"), looks := false }, kinds := [], alts := [], laidByText := true, laidKinds := [.data, .pinned], laidTests := true, laidLooks := .later }
def FnPlcOkUptoCardSaid : Prop := Claim7.holds Tryd.pinned (.plain (OpenSpec.upto fnPlcOkSpec)) fnPlcOkUptoCard
end Rows
end Go.Proofs.YtibafhmmnoijkaaDoor
