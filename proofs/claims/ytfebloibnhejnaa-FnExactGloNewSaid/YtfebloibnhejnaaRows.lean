/-
  No cell of these rows narrows 'for every input' (looked for: loops, veiled, ifaces, maps, wideKeys, modest, calm, conditions, laid).
  DERIVED. THE GIVEN ROWS OF THIS SEAT. 6 by the template 'for every input the law returns true; each argument reads behind the call as it read before'; 0 by the template 'total and deterministic' (their statements: YtfebloibnhejnaaTotals.lean).
  GIVEN WITH THE SEED: the statements are not yours to turn. If you find one false, say at which input.
  Laid BY PROGRAM, IN A SANDBOX (cutbox-rows.mjs): the forced cells as the released guide's own fill.sh prints them over the translation 0030ec679c663d82… (all of the seat's roots in one cut). By AI agents, Wed Nov 11 2026. No macro, syntax, notation, axiom, sorry.
-/
import Derived.Test.YtfebloibnhejnaaChecked
import GoSem.Claim
import GoSem.ClaimJoined
import GoSem.ClaimMapViews
import Derived.JoinedTies
import Derived.KernelRfl
namespace Go.Proofs.Ytfebloibnhejnaa
/- THE CELL 'sum', in the pinned program and in every row, IS THE sha256 OF THE DUMP (.gsa) THAT YtfebloibnhejnaaProg.lean LOADS. Nothing in Lean hashes anything: it is a label: what it is worth is what the hold of that sum in a sandbox is worth. -/
noncomputable def Try.pinned : Pinned := { name := "ytfebloibnhejnaa", sum := "0030ec679c663d826147b8f1704eae283d728466a961e828ac0504bc3e1613d7", checked := Try.checked }
namespace Rows
def none {H : Type} : Left H := { results := [], args := [] }

/-- 'laws.FnExactConstants': WHATEVER THE INPUT: true; the input reads as it did. -/
def fnExactConstantsSpec : ChangeSpec := { name := "fnExactConstants", fn := fun _ => fun
  | [] => { results := [.lit (.bool true)], args := [] }
  | _ => none }
def fnExactConstantsRow : OpenClaim := { program := "ytfebloibnhejnaa", sum := "0030ec679c663d826147b8f1704eae283d728466a961e828ac0504bc3e1613d7", func := "loop.example/janitor/laws.FnExactConstants", spec := "fnExactConstants", apart := false }
def FnExactConstantsSaid : Prop := fnExactConstantsRow.holds Try.pinned (OpenSpec.ofChange fnExactConstantsSpec)

/-- ITS FALSE NEIGHBOUR: 'it returns false'. Refute it at one input. -/
def fnExactConstantsWrong : ChangeSpec := { name := "fnExactConstants", fn := fun _ => fun
  | [] => { results := [.lit (.bool false)], args := [] }
  | _ => none }
def FnExactConstantsWrongFalsely : Prop := fnExactConstantsRow.holds Try.pinned (OpenSpec.ofChange fnExactConstantsWrong)

/-- 'laws.FnExactSecSum': WHATEVER THE INPUT: true; the input reads as it did. -/
def fnExactSecSumSpec : ChangeSpec := { name := "fnExactSecSum", fn := fun _ => fun
  | [d] => { results := [.lit (.bool true)], args := [d] }
  | _ => none }
def fnExactSecSumRow : OpenClaim := { program := "ytfebloibnhejnaa", sum := "0030ec679c663d826147b8f1704eae283d728466a961e828ac0504bc3e1613d7", func := "loop.example/janitor/laws.FnExactSecSum", spec := "fnExactSecSum", apart := false }
def FnExactSecSumSaid : Prop := fnExactSecSumRow.holds Try.pinned (OpenSpec.ofChange fnExactSecSumSpec)

/-- ITS FALSE NEIGHBOUR: 'it returns false'. Refute it at one input. -/
def fnExactSecSumWrong : ChangeSpec := { name := "fnExactSecSum", fn := fun _ => fun
  | [d] => { results := [.lit (.bool false)], args := [d] }
  | _ => none }
def FnExactSecSumWrongFalsely : Prop := fnExactSecSumRow.holds Try.pinned (OpenSpec.ofChange fnExactSecSumWrong)

/-- 'laws.FnExactOpOk': WHATEVER THE INPUT: true; the input reads as it did. -/
def fnExactOpOkSpec : ChangeSpec := { name := "fnExactOpOk", fn := fun _ => fun
  | [d] => { results := [.lit (.bool true)], args := [d] }
  | _ => none }
def fnExactOpOkRow : OpenClaim := { program := "ytfebloibnhejnaa", sum := "0030ec679c663d826147b8f1704eae283d728466a961e828ac0504bc3e1613d7", func := "loop.example/janitor/laws.FnExactOpOk", spec := "fnExactOpOk", unfollowed := true, recurses := true, apart := false }
def FnExactOpOkSaid : Prop := fnExactOpOkRow.holds Try.pinned (OpenSpec.ofChange fnExactOpOkSpec)

/-- ITS FALSE NEIGHBOUR: 'it returns false'. Refute it at one input. -/
def fnExactOpOkWrong : ChangeSpec := { name := "fnExactOpOk", fn := fun _ => fun
  | [d] => { results := [.lit (.bool false)], args := [d] }
  | _ => none }
def FnExactOpOkWrongFalsely : Prop := fnExactOpOkRow.holds Try.pinned (OpenSpec.ofChange fnExactOpOkWrong)

/-- 'laws.FnExactMsgOk': WHATEVER THE INPUT: true; the input reads as it did. -/
def fnExactMsgOkSpec : ChangeSpec := { name := "fnExactMsgOk", fn := fun _ => fun
  | [d] => { results := [.lit (.bool true)], args := [d] }
  | _ => none }
def fnExactMsgOkRow : OpenClaim := { program := "ytfebloibnhejnaa", sum := "0030ec679c663d826147b8f1704eae283d728466a961e828ac0504bc3e1613d7", func := "loop.example/janitor/laws.FnExactMsgOk", spec := "fnExactMsgOk", unfollowed := true, recurses := true, apart := false }
def FnExactMsgOkSaid : Prop := fnExactMsgOkRow.holds Try.pinned (OpenSpec.ofChange fnExactMsgOkSpec)

/-- ITS FALSE NEIGHBOUR: 'it returns false'. Refute it at one input. -/
def fnExactMsgOkWrong : ChangeSpec := { name := "fnExactMsgOk", fn := fun _ => fun
  | [d] => { results := [.lit (.bool false)], args := [d] }
  | _ => none }
def FnExactMsgOkWrongFalsely : Prop := fnExactMsgOkRow.holds Try.pinned (OpenSpec.ofChange fnExactMsgOkWrong)

/-- 'laws.FnExactOpPlaces': WHATEVER THE INPUT: true; the input reads as it did. -/
def fnExactOpPlacesSpec : ChangeSpec := { name := "fnExactOpPlaces", fn := fun _ => fun
  | [d] => { results := [.lit (.bool true)], args := [d] }
  | _ => none }
def fnExactOpPlacesRow : OpenClaim := { program := "ytfebloibnhejnaa", sum := "0030ec679c663d826147b8f1704eae283d728466a961e828ac0504bc3e1613d7", func := "loop.example/janitor/laws.FnExactOpPlaces", spec := "fnExactOpPlaces", unfollowed := true, recurses := true, apart := false }
def FnExactOpPlacesSaid : Prop := fnExactOpPlacesRow.holds Try.pinned (OpenSpec.ofChange fnExactOpPlacesSpec)

/-- ITS FALSE NEIGHBOUR: 'it returns false'. Refute it at one input. -/
def fnExactOpPlacesWrong : ChangeSpec := { name := "fnExactOpPlaces", fn := fun _ => fun
  | [d] => { results := [.lit (.bool false)], args := [d] }
  | _ => none }
def FnExactOpPlacesWrongFalsely : Prop := fnExactOpPlacesRow.holds Try.pinned (OpenSpec.ofChange fnExactOpPlacesWrong)

/-- 'laws.FnExactGloNew': WHATEVER THE INPUT: true; the input reads as it did. -/
def fnExactGloNewSpec : ChangeSpec := { name := "fnExactGloNew", fn := fun _ => fun
  | [] => { results := [.lit (.bool true)], args := [] }
  | _ => none }
def fnExactGloNewRow : OpenClaim := { program := "ytfebloibnhejnaa", sum := "0030ec679c663d826147b8f1704eae283d728466a961e828ac0504bc3e1613d7", func := "loop.example/janitor/laws.FnExactGloNew", spec := "fnExactGloNew", apart := false }
def FnExactGloNewSaid : Prop := fnExactGloNewRow.holds Try.pinned (OpenSpec.ofChange fnExactGloNewSpec)

/-- ITS FALSE NEIGHBOUR: 'it returns false'. Refute it at one input. -/
def fnExactGloNewWrong : ChangeSpec := { name := "fnExactGloNew", fn := fun _ => fun
  | [] => { results := [.lit (.bool false)], args := [] }
  | _ => none }
def FnExactGloNewWrongFalsely : Prop := fnExactGloNewRow.holds Try.pinned (OpenSpec.ofChange fnExactGloNewWrong)

/- THE SECOND FORM. 'bulk': how many values and letters a reading holds, each counted each time it is reached (what is shared counts as often as it is met; a slice's spare places count too). A statement '..UptoSaid' is the law's where the arguments, and the package variables that the reading takes, are together of bulk at most 1048576: NARROWER than '..Said'. Prove '..Said' where nothing that the law and all that it calls make is longer than what came in: it says more and counts as full. Else prove '..UptoSaid'. A law counts once. -/
mutual
def uptoBulk {H : Type} : DataW H → Nat
  | .lit (.string bytes) => bytes.length + 1
  | .lit _ => 1
  | .nil => 1
  | .ptr d => uptoBulk d + 1
  | .slice elems spare => uptoBulkAll elems + uptoBulkAll spare + 1
  | .agg parts => uptoBulkAll parts + 1
  | .iface _ d => uptoBulk d + 1
  | .map entries => uptoBulkEntries entries + 1
  | .held _ => 1
def uptoBulkAll {H : Type} : List (DataW H) → Nat
  | [] => 0
  | d :: r => uptoBulk d + uptoBulkAll r
def uptoBulkEntries {H : Type} : List (Lit × DataW H) → Nat
  | [] => 0
  | x :: r => uptoBulkEntry x + uptoBulkEntries r
def uptoBulkEntry {H : Type} : Lit × DataW H → Nat
  | (.string bytes, d) => bytes.length + uptoBulk d + 1
  | (_, d) => uptoBulk d + 1
 end
def uptoSmall : (H : Type) → List (DataW H) → Bool := fun _ ds => decide (uptoBulkAll ds ≤ 1048576)
def OpenSpec.upto (s : _root_.Go.ChangeSpec) : _root_.Go.OpenSpec := { _root_.Go.OpenSpec.ofChange s with cond := some uptoSmall }

/-- 'laws.FnExactConstants', WHERE WHAT IT READS IS OF BULK AT MOST 1048576: true; the input reads as it did. -/
def fnExactConstantsUptoRow : OpenClaim := { program := "ytfebloibnhejnaa", sum := "0030ec679c663d826147b8f1704eae283d728466a961e828ac0504bc3e1613d7", func := "loop.example/janitor/laws.FnExactConstants", spec := "fnExactConstants", apart := false, narrowed := true }
def FnExactConstantsUptoSaid : Prop := fnExactConstantsUptoRow.holds Try.pinned (OpenSpec.upto fnExactConstantsSpec)

/-- 'laws.FnExactSecSum', WHERE WHAT IT READS IS OF BULK AT MOST 1048576: true; the input reads as it did. -/
def fnExactSecSumUptoRow : OpenClaim := { program := "ytfebloibnhejnaa", sum := "0030ec679c663d826147b8f1704eae283d728466a961e828ac0504bc3e1613d7", func := "loop.example/janitor/laws.FnExactSecSum", spec := "fnExactSecSum", apart := false, narrowed := true }
def FnExactSecSumUptoSaid : Prop := fnExactSecSumUptoRow.holds Try.pinned (OpenSpec.upto fnExactSecSumSpec)

/-- 'laws.FnExactOpOk', WHERE WHAT IT READS IS OF BULK AT MOST 1048576: true; the input reads as it did. -/
def fnExactOpOkUptoRow : OpenClaim := { program := "ytfebloibnhejnaa", sum := "0030ec679c663d826147b8f1704eae283d728466a961e828ac0504bc3e1613d7", func := "loop.example/janitor/laws.FnExactOpOk", spec := "fnExactOpOk", unfollowed := true, recurses := true, apart := false, narrowed := true }
def FnExactOpOkUptoSaid : Prop := fnExactOpOkUptoRow.holds Try.pinned (OpenSpec.upto fnExactOpOkSpec)

/-- 'laws.FnExactMsgOk', WHERE WHAT IT READS IS OF BULK AT MOST 1048576: true; the input reads as it did. -/
def fnExactMsgOkUptoRow : OpenClaim := { program := "ytfebloibnhejnaa", sum := "0030ec679c663d826147b8f1704eae283d728466a961e828ac0504bc3e1613d7", func := "loop.example/janitor/laws.FnExactMsgOk", spec := "fnExactMsgOk", unfollowed := true, recurses := true, apart := false, narrowed := true }
def FnExactMsgOkUptoSaid : Prop := fnExactMsgOkUptoRow.holds Try.pinned (OpenSpec.upto fnExactMsgOkSpec)

/-- 'laws.FnExactOpPlaces', WHERE WHAT IT READS IS OF BULK AT MOST 1048576: true; the input reads as it did. -/
def fnExactOpPlacesUptoRow : OpenClaim := { program := "ytfebloibnhejnaa", sum := "0030ec679c663d826147b8f1704eae283d728466a961e828ac0504bc3e1613d7", func := "loop.example/janitor/laws.FnExactOpPlaces", spec := "fnExactOpPlaces", unfollowed := true, recurses := true, apart := false, narrowed := true }
def FnExactOpPlacesUptoSaid : Prop := fnExactOpPlacesUptoRow.holds Try.pinned (OpenSpec.upto fnExactOpPlacesSpec)

/-- 'laws.FnExactGloNew', WHERE WHAT IT READS IS OF BULK AT MOST 1048576: true; the input reads as it did. -/
def fnExactGloNewUptoRow : OpenClaim := { program := "ytfebloibnhejnaa", sum := "0030ec679c663d826147b8f1704eae283d728466a961e828ac0504bc3e1613d7", func := "loop.example/janitor/laws.FnExactGloNew", spec := "fnExactGloNew", apart := false, narrowed := true }
def FnExactGloNewUptoSaid : Prop := fnExactGloNewUptoRow.holds Try.pinned (OpenSpec.upto fnExactGloNewSpec)

end Rows
end Go.Proofs.Ytfebloibnhejnaa
