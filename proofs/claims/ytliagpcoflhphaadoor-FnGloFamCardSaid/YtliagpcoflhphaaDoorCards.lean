/-
  DERIVED. GIVEN WITH THE SEED: THE CARDS: each row of YtliagpcoflhphaaDoorRows.lean that lists a variable, with what it lists TIED to the program's text (the seventh form; the later family's looks); each row that meets fmt, with fmt's text TOLD by the authors' own Lean function (tested against real Go, not proved from fmt's source: count such statements apart). THE CARD IS WHAT COUNTS. Prove the row's statement (the work); the ties are given (YtliagpcoflhphaaDoorTie.lean); close each card by the builder's one call (the guide's Derived/Test/ToyasCard.lean, 'card_holds'). Laid BY PROGRAM, IN A SANDBOX (cutbox-door.mjs). By AI agents, Wed Nov 11 2026. No macro, syntax, notation, axiom, sorry.
-/
import Derived.Test.YtliagpcoflhphaaDoorRows
import GoSem.ClaimSeven
namespace Go.Proofs.YtliagpcoflhphaaDoor
namespace Rows

/-- THE TIED CARD OF 'laws.FnGloTheft'. -/
def fnGloTheftCard : Claim7 := { stood := { row := fnGloTheftRow, standIns := [], harness := (true, "96193e1b4c2ef6d938d5b82f9b84142b94947fb60ff21cba7c589a14f6f6ebab"), looks := false }, kinds := [], alts := [], laidByText := true, laidKinds := [.data, .data, .data, .data, .pinned], laidTests := true, laidLooks := .later }
def FnGloTheftCardSaid : Prop := Claim7.holds Tryd.pinned (.plain (OpenSpec.ofChange fnGloTheftSpec)) fnGloTheftCard

/-- THE TIED CARD OF 'laws.FnGloWay'. -/
def fnGloWayCard : Claim7 := { stood := { row := fnGloWayRow, standIns := [], harness := (true, "96193e1b4c2ef6d938d5b82f9b84142b94947fb60ff21cba7c589a14f6f6ebab"), looks := false }, kinds := [], alts := [], laidByText := true, laidKinds := [.data, .data, .data, .data, .pinned], laidTests := true, laidLooks := .later }
def FnGloWayCardSaid : Prop := Claim7.holds Tryd.pinned (.plain (OpenSpec.ofChange fnGloWaySpec)) fnGloWayCard

/-- THE TIED CARD OF 'laws.FnGloCode'. -/
def fnGloCodeCard : Claim7 := { stood := { row := fnGloCodeRow, standIns := [], harness := (true, "96193e1b4c2ef6d938d5b82f9b84142b94947fb60ff21cba7c589a14f6f6ebab"), looks := false }, kinds := [], alts := [], laidByText := true, laidKinds := [.data, .data, .data, .data, .pinned], laidTests := true, laidLooks := .later }
def FnGloCodeCardSaid : Prop := Claim7.holds Tryd.pinned (.plain (OpenSpec.ofChange fnGloCodeSpec)) fnGloCodeCard

/-- THE TIED CARD OF 'laws.FnGloDead'. -/
def fnGloDeadCard : Claim7 := { stood := { row := fnGloDeadRow, standIns := [], harness := (true, "96193e1b4c2ef6d938d5b82f9b84142b94947fb60ff21cba7c589a14f6f6ebab"), looks := false }, kinds := [], alts := [], laidByText := true, laidKinds := [.data, .data, .data, .data, .pinned], laidTests := true, laidLooks := .later }
def FnGloDeadCardSaid : Prop := Claim7.holds Tryd.pinned (.plain (OpenSpec.ofChange fnGloDeadSpec)) fnGloDeadCard

/-- THE TIED CARD OF 'laws.FnGloFam'. -/
def fnGloFamCard : Claim7 := { stood := { row := fnGloFamRow, standIns := [], harness := (true, "96193e1b4c2ef6d938d5b82f9b84142b94947fb60ff21cba7c589a14f6f6ebab"), looks := false }, kinds := [], alts := [], laidByText := true, laidKinds := [.data, .data, .data, .data, .pinned], laidTests := true, laidLooks := .later }
def FnGloFamCardSaid : Prop := Claim7.holds Tryd.pinned (.plain (OpenSpec.ofChange fnGloFamSpec)) fnGloFamCard

/-- THE TIED CARD OF 'laws.FnGloOut'. -/
def fnGloOutCard : Claim7 := { stood := { row := fnGloOutRow, standIns := [], harness := (true, "96193e1b4c2ef6d938d5b82f9b84142b94947fb60ff21cba7c589a14f6f6ebab"), looks := false }, kinds := [], alts := [], laidByText := true, laidKinds := [.data, .data, .data, .data, .pinned], laidTests := true, laidLooks := .later }
def FnGloOutCardSaid : Prop := Claim7.holds Tryd.pinned (.plain (OpenSpec.ofChange fnGloOutSpec)) fnGloOutCard

/-- THE TIED CARD OF 'laws.FnGloIn'. -/
def fnGloInCard : Claim7 := { stood := { row := fnGloInRow, standIns := [], harness := (true, "96193e1b4c2ef6d938d5b82f9b84142b94947fb60ff21cba7c589a14f6f6ebab"), looks := false }, kinds := [], alts := [], laidByText := true, laidKinds := [.data, .data, .data, .data, .pinned], laidTests := true, laidLooks := .later }
def FnGloInCardSaid : Prop := Claim7.holds Tryd.pinned (.plain (OpenSpec.ofChange fnGloInSpec)) fnGloInCard

/-- THE TIED CARD OF 'laws.FnGloNoted'. -/
def fnGloNotedCard : Claim7 := { stood := { row := fnGloNotedRow, standIns := [], harness := (true, "96193e1b4c2ef6d938d5b82f9b84142b94947fb60ff21cba7c589a14f6f6ebab"), looks := false }, kinds := [], alts := [], laidByText := true, laidKinds := [.data, .data, .data, .data, .pinned], laidTests := true, laidLooks := .later }
def FnGloNotedCardSaid : Prop := Claim7.holds Tryd.pinned (.plain (OpenSpec.ofChange fnGloNotedSpec)) fnGloNotedCard

/-- THE TIED CARD OF 'laws.FnGloNone'. -/
def fnGloNoneCard : Claim7 := { stood := { row := fnGloNoneRow, standIns := [], harness := (true, "96193e1b4c2ef6d938d5b82f9b84142b94947fb60ff21cba7c589a14f6f6ebab"), looks := false }, kinds := [], alts := [], laidByText := true, laidKinds := [.data, .data, .data, .data, .pinned], laidTests := true, laidLooks := .later }
def FnGloNoneCardSaid : Prop := Claim7.holds Tryd.pinned (.plain (OpenSpec.ofChange fnGloNoneSpec)) fnGloNoneCard

/-- THE TIED CARD OF 'laws.FnDiskSafe'. -/
def fnDiskSafeCard : Claim7 := { stood := { row := fnDiskSafeRow, standIns := [], harness := (true, "96193e1b4c2ef6d938d5b82f9b84142b94947fb60ff21cba7c589a14f6f6ebab"), looks := false }, kinds := [], alts := [], laidByText := true, laidKinds := [.data, .pinned], laidTests := true, laidLooks := .later }
def FnDiskSafeCardSaid : Prop := Claim7.holds Tryd.pinned (.plain (OpenSpec.ofChange fnDiskSafeSpec)) fnDiskSafeCard

/-- THE SECOND FORM's CARD OF 'laws.FnGloTheft'. -/
def fnGloTheftUptoCard : Claim7 := { stood := { row := fnGloTheftUptoRow, standIns := [], harness := (true, "96193e1b4c2ef6d938d5b82f9b84142b94947fb60ff21cba7c589a14f6f6ebab"), looks := false }, kinds := [], alts := [], laidByText := true, laidKinds := [.data, .data, .data, .data, .pinned], laidTests := true, laidLooks := .later }
def FnGloTheftUptoCardSaid : Prop := Claim7.holds Tryd.pinned (.plain (OpenSpec.upto fnGloTheftSpec)) fnGloTheftUptoCard

/-- THE SECOND FORM's CARD OF 'laws.FnGloWay'. -/
def fnGloWayUptoCard : Claim7 := { stood := { row := fnGloWayUptoRow, standIns := [], harness := (true, "96193e1b4c2ef6d938d5b82f9b84142b94947fb60ff21cba7c589a14f6f6ebab"), looks := false }, kinds := [], alts := [], laidByText := true, laidKinds := [.data, .data, .data, .data, .pinned], laidTests := true, laidLooks := .later }
def FnGloWayUptoCardSaid : Prop := Claim7.holds Tryd.pinned (.plain (OpenSpec.upto fnGloWaySpec)) fnGloWayUptoCard

/-- THE SECOND FORM's CARD OF 'laws.FnGloCode'. -/
def fnGloCodeUptoCard : Claim7 := { stood := { row := fnGloCodeUptoRow, standIns := [], harness := (true, "96193e1b4c2ef6d938d5b82f9b84142b94947fb60ff21cba7c589a14f6f6ebab"), looks := false }, kinds := [], alts := [], laidByText := true, laidKinds := [.data, .data, .data, .data, .pinned], laidTests := true, laidLooks := .later }
def FnGloCodeUptoCardSaid : Prop := Claim7.holds Tryd.pinned (.plain (OpenSpec.upto fnGloCodeSpec)) fnGloCodeUptoCard

/-- THE SECOND FORM's CARD OF 'laws.FnGloDead'. -/
def fnGloDeadUptoCard : Claim7 := { stood := { row := fnGloDeadUptoRow, standIns := [], harness := (true, "96193e1b4c2ef6d938d5b82f9b84142b94947fb60ff21cba7c589a14f6f6ebab"), looks := false }, kinds := [], alts := [], laidByText := true, laidKinds := [.data, .data, .data, .data, .pinned], laidTests := true, laidLooks := .later }
def FnGloDeadUptoCardSaid : Prop := Claim7.holds Tryd.pinned (.plain (OpenSpec.upto fnGloDeadSpec)) fnGloDeadUptoCard

/-- THE SECOND FORM's CARD OF 'laws.FnGloFam'. -/
def fnGloFamUptoCard : Claim7 := { stood := { row := fnGloFamUptoRow, standIns := [], harness := (true, "96193e1b4c2ef6d938d5b82f9b84142b94947fb60ff21cba7c589a14f6f6ebab"), looks := false }, kinds := [], alts := [], laidByText := true, laidKinds := [.data, .data, .data, .data, .pinned], laidTests := true, laidLooks := .later }
def FnGloFamUptoCardSaid : Prop := Claim7.holds Tryd.pinned (.plain (OpenSpec.upto fnGloFamSpec)) fnGloFamUptoCard

/-- THE SECOND FORM's CARD OF 'laws.FnGloOut'. -/
def fnGloOutUptoCard : Claim7 := { stood := { row := fnGloOutUptoRow, standIns := [], harness := (true, "96193e1b4c2ef6d938d5b82f9b84142b94947fb60ff21cba7c589a14f6f6ebab"), looks := false }, kinds := [], alts := [], laidByText := true, laidKinds := [.data, .data, .data, .data, .pinned], laidTests := true, laidLooks := .later }
def FnGloOutUptoCardSaid : Prop := Claim7.holds Tryd.pinned (.plain (OpenSpec.upto fnGloOutSpec)) fnGloOutUptoCard

/-- THE SECOND FORM's CARD OF 'laws.FnGloIn'. -/
def fnGloInUptoCard : Claim7 := { stood := { row := fnGloInUptoRow, standIns := [], harness := (true, "96193e1b4c2ef6d938d5b82f9b84142b94947fb60ff21cba7c589a14f6f6ebab"), looks := false }, kinds := [], alts := [], laidByText := true, laidKinds := [.data, .data, .data, .data, .pinned], laidTests := true, laidLooks := .later }
def FnGloInUptoCardSaid : Prop := Claim7.holds Tryd.pinned (.plain (OpenSpec.upto fnGloInSpec)) fnGloInUptoCard

/-- THE SECOND FORM's CARD OF 'laws.FnGloNoted'. -/
def fnGloNotedUptoCard : Claim7 := { stood := { row := fnGloNotedUptoRow, standIns := [], harness := (true, "96193e1b4c2ef6d938d5b82f9b84142b94947fb60ff21cba7c589a14f6f6ebab"), looks := false }, kinds := [], alts := [], laidByText := true, laidKinds := [.data, .data, .data, .data, .pinned], laidTests := true, laidLooks := .later }
def FnGloNotedUptoCardSaid : Prop := Claim7.holds Tryd.pinned (.plain (OpenSpec.upto fnGloNotedSpec)) fnGloNotedUptoCard

/-- THE SECOND FORM's CARD OF 'laws.FnGloNone'. -/
def fnGloNoneUptoCard : Claim7 := { stood := { row := fnGloNoneUptoRow, standIns := [], harness := (true, "96193e1b4c2ef6d938d5b82f9b84142b94947fb60ff21cba7c589a14f6f6ebab"), looks := false }, kinds := [], alts := [], laidByText := true, laidKinds := [.data, .data, .data, .data, .pinned], laidTests := true, laidLooks := .later }
def FnGloNoneUptoCardSaid : Prop := Claim7.holds Tryd.pinned (.plain (OpenSpec.upto fnGloNoneSpec)) fnGloNoneUptoCard

/-- THE SECOND FORM's CARD OF 'laws.FnDiskSafe'. -/
def fnDiskSafeUptoCard : Claim7 := { stood := { row := fnDiskSafeUptoRow, standIns := [], harness := (true, "96193e1b4c2ef6d938d5b82f9b84142b94947fb60ff21cba7c589a14f6f6ebab"), looks := false }, kinds := [], alts := [], laidByText := true, laidKinds := [.data, .pinned], laidTests := true, laidLooks := .later }
def FnDiskSafeUptoCardSaid : Prop := Claim7.holds Tryd.pinned (.plain (OpenSpec.upto fnDiskSafeSpec)) fnDiskSafeUptoCard
end Rows
end Go.Proofs.YtliagpcoflhphaaDoor
