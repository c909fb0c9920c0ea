/-
  NARROWER THAN 'FOR EVERY INPUT', by the rows' own cells (each row's printed sentence says how): FnSecSum: laid · FnExactWrtOk: laid · FnOpOk: laid · FnWrtOk: laid · FnOpPlaces: laid · FnExactStoOk: laid · FnMsgOk: laid · FnExactPlcOk: laid · FnNoteOk: laid · FnExactGloOk: laid · FnExactNoteOk: laid · FnStoGet: laid.
  DERIVED. THE GIVEN ROWS OF THIS SEAT. 12 by the template 'for every input the law returns true; each argument reads behind the call as it read before'; 0 by the template 'total and deterministic' (their statements: YtopoiinmhajhmaaDoorTotals.lean).
  GIVEN WITH THE SEED: the statements are not yours to turn. If you find one false, say at which input.
  Laid BY PROGRAM, IN A SANDBOX (cutbox-rows.mjs): the forced cells as the released guide's own fill.sh prints them over the translation c570c2a7712f8da9… (all of the seat's roots in one cut). By AI agents, Wed Nov 11 2026. No macro, syntax, notation, axiom, sorry.
-/
import Derived.Test.YtopoiinmhajhmaaDoorChecked
import GoSem.PinnedTables
import GoSem.Claim
import GoSem.ClaimJoined
import GoSem.ClaimMapViews
import Derived.JoinedTies
import Derived.KernelRfl
namespace Go.Proofs.YtopoiinmhajhmaaDoor
/- THE CELL 'sum', in the pinned program and in every row, IS THE sha256 OF THE DUMP (.gsa) THAT YtopoiinmhajhmaaDoorProg.lean LOADS. Nothing in Lean hashes anything: it is a label: what it is worth is what the hold of that sum in a sandbox is worth. -/
noncomputable def Tryd.pinned : Pinned := { name := "ytopoiinmhajhmaadoor", sum := "c570c2a7712f8da96f28fb452b50ddfba8e825691995bc55c57174898cf198bd", checked := Tryd.checked }
namespace Rows
def none {H : Type} : Left H := { results := [], args := [] }

/- WHAT THE LISTED PACKAGE-LEVEL VARIABLES READ AS WHEN THE CALL BEGINS. Each datum BY PROGRAM (the guide's laid-datum.mjs) off the statement by which the dump's own 'gosem.cut.vars' lays the variable. In a bare row this is a premise. The card (YtopoiinmhajhmaaDoorCards.lean) ties it to the program's text. -/
def laid_unicode_utf8_acceptRanges {H : Type} : DataW H := .agg [.agg [.lit (.int .u8 128), .lit (.int .u8 191)], .agg [.lit (.int .u8 160), .lit (.int .u8 191)], .agg [.lit (.int .u8 128), .lit (.int .u8 159)], .agg [.lit (.int .u8 144), .lit (.int .u8 191)], .agg [.lit (.int .u8 128), .lit (.int .u8 143)], .agg [.lit (.int .u8 0), .lit (.int .u8 0)], .agg [.lit (.int .u8 0), .lit (.int .u8 0)], .agg [.lit (.int .u8 0), .lit (.int .u8 0)], .agg [.lit (.int .u8 0), .lit (.int .u8 0)], .agg [.lit (.int .u8 0), .lit (.int .u8 0)], .agg [.lit (.int .u8 0), .lit (.int .u8 0)], .agg [.lit (.int .u8 0), .lit (.int .u8 0)], .agg [.lit (.int .u8 0), .lit (.int .u8 0)], .agg [.lit (.int .u8 0), .lit (.int .u8 0)], .agg [.lit (.int .u8 0), .lit (.int .u8 0)], .agg [.lit (.int .u8 0), .lit (.int .u8 0)]]
/-- One of Go's own tables, pinned by name: the form's constant. -/
def laid_unicode_utf8_first : DataW Unit := Go.Pinned.utf8First

/-- 'laws.FnSecSum': WHATEVER THE INPUT: true; the input reads as it did. -/
def fnSecSumSpec : ChangeSpec := { name := "fnSecSum", fn := fun _ => fun
  | [d1, d2] => { results := [.lit (.bool true)], args := [d1, d2] }
  | _ => none }
def fnSecSumRow : OpenClaim := { program := "ytopoiinmhajhmaadoor", sum := "c570c2a7712f8da96f28fb452b50ddfba8e825691995bc55c57174898cf198bd", func := "loop.example/janitor/laws.FnSecSum", spec := "fnSecSum", inPlace := ["internal/bytealg.IndexByteString", "internal/bytealg.IndexString"], unfollowed := true, recurses := true, named := ["unicode/utf8.first", "unicode/utf8.acceptRanges", "internal/bytealg.MaxLen"], apart := false, laid := [("unicode/utf8.acceptRanges", laid_unicode_utf8_acceptRanges), ("unicode/utf8.first", laid_unicode_utf8_first)] }
def FnSecSumSaid : Prop := fnSecSumRow.holds Tryd.pinned (OpenSpec.ofChange fnSecSumSpec)

/-- ITS FALSE NEIGHBOUR: 'it returns false'. Refute it at one input. -/
def fnSecSumWrong : ChangeSpec := { name := "fnSecSum", fn := fun _ => fun
  | [d1, d2] => { results := [.lit (.bool false)], args := [d1, d2] }
  | _ => none }
def FnSecSumWrongFalsely : Prop := fnSecSumRow.holds Tryd.pinned (OpenSpec.ofChange fnSecSumWrong)

/-- 'laws.FnExactWrtOk': WHATEVER THE INPUT: true; the input reads as it did. -/
def fnExactWrtOkSpec : ChangeSpec := { name := "fnExactWrtOk", fn := fun _ => fun
  | [d] => { results := [.lit (.bool true)], args := [d] }
  | _ => none }
def fnExactWrtOkRow : OpenClaim := { program := "ytopoiinmhajhmaadoor", sum := "c570c2a7712f8da96f28fb452b50ddfba8e825691995bc55c57174898cf198bd", func := "loop.example/janitor/laws.FnExactWrtOk", spec := "fnExactWrtOk", inPlace := ["internal/bytealg.IndexByteString", "internal/bytealg.IndexString"], unfollowed := true, recurses := true, named := ["unicode/utf8.first", "unicode/utf8.acceptRanges", "internal/bytealg.MaxLen"], apart := false, laid := [("unicode/utf8.acceptRanges", laid_unicode_utf8_acceptRanges), ("unicode/utf8.first", laid_unicode_utf8_first)] }
def FnExactWrtOkSaid : Prop := fnExactWrtOkRow.holds Tryd.pinned (OpenSpec.ofChange fnExactWrtOkSpec)

/-- ITS FALSE NEIGHBOUR: 'it returns false'. Refute it at one input. -/
def fnExactWrtOkWrong : ChangeSpec := { name := "fnExactWrtOk", fn := fun _ => fun
  | [d] => { results := [.lit (.bool false)], args := [d] }
  | _ => none }
def FnExactWrtOkWrongFalsely : Prop := fnExactWrtOkRow.holds Tryd.pinned (OpenSpec.ofChange fnExactWrtOkWrong)

/-- 'laws.FnOpOk': WHATEVER THE INPUT: true; the input reads as it did. -/
def fnOpOkSpec : ChangeSpec := { name := "fnOpOk", fn := fun _ => fun
  | [d] => { results := [.lit (.bool true)], args := [d] }
  | _ => none }
def fnOpOkRow : OpenClaim := { program := "ytopoiinmhajhmaadoor", sum := "c570c2a7712f8da96f28fb452b50ddfba8e825691995bc55c57174898cf198bd", func := "loop.example/janitor/laws.FnOpOk", spec := "fnOpOk", inPlace := ["internal/bytealg.IndexByteString", "internal/bytealg.IndexString"], unfollowed := true, recurses := true, named := ["unicode/utf8.first", "unicode/utf8.acceptRanges", "internal/bytealg.MaxLen"], apart := false, laid := [("unicode/utf8.acceptRanges", laid_unicode_utf8_acceptRanges), ("unicode/utf8.first", laid_unicode_utf8_first)] }
def FnOpOkSaid : Prop := fnOpOkRow.holds Tryd.pinned (OpenSpec.ofChange fnOpOkSpec)

/-- ITS FALSE NEIGHBOUR: 'it returns false'. Refute it at one input. -/
def fnOpOkWrong : ChangeSpec := { name := "fnOpOk", fn := fun _ => fun
  | [d] => { results := [.lit (.bool false)], args := [d] }
  | _ => none }
def FnOpOkWrongFalsely : Prop := fnOpOkRow.holds Tryd.pinned (OpenSpec.ofChange fnOpOkWrong)

/-- 'laws.FnWrtOk': WHATEVER THE INPUT: true; the input reads as it did. -/
def fnWrtOkSpec : ChangeSpec := { name := "fnWrtOk", fn := fun _ => fun
  | [d] => { results := [.lit (.bool true)], args := [d] }
  | _ => none }
def fnWrtOkRow : OpenClaim := { program := "ytopoiinmhajhmaadoor", sum := "c570c2a7712f8da96f28fb452b50ddfba8e825691995bc55c57174898cf198bd", func := "loop.example/janitor/laws.FnWrtOk", spec := "fnWrtOk", inPlace := ["internal/bytealg.IndexByteString", "internal/bytealg.IndexString"], unfollowed := true, recurses := true, named := ["unicode/utf8.first", "unicode/utf8.acceptRanges", "internal/bytealg.MaxLen"], apart := false, laid := [("unicode/utf8.acceptRanges", laid_unicode_utf8_acceptRanges), ("unicode/utf8.first", laid_unicode_utf8_first)] }
def FnWrtOkSaid : Prop := fnWrtOkRow.holds Tryd.pinned (OpenSpec.ofChange fnWrtOkSpec)

/-- ITS FALSE NEIGHBOUR: 'it returns false'. Refute it at one input. -/
def fnWrtOkWrong : ChangeSpec := { name := "fnWrtOk", fn := fun _ => fun
  | [d] => { results := [.lit (.bool false)], args := [d] }
  | _ => none }
def FnWrtOkWrongFalsely : Prop := fnWrtOkRow.holds Tryd.pinned (OpenSpec.ofChange fnWrtOkWrong)

/-- 'laws.FnOpPlaces': WHATEVER THE INPUT: true; the input reads as it did. -/
def fnOpPlacesSpec : ChangeSpec := { name := "fnOpPlaces", fn := fun _ => fun
  | [d] => { results := [.lit (.bool true)], args := [d] }
  | _ => none }
def fnOpPlacesRow : OpenClaim := { program := "ytopoiinmhajhmaadoor", sum := "c570c2a7712f8da96f28fb452b50ddfba8e825691995bc55c57174898cf198bd", func := "loop.example/janitor/laws.FnOpPlaces", spec := "fnOpPlaces", inPlace := ["internal/bytealg.IndexByteString", "internal/bytealg.IndexString"], unfollowed := true, recurses := true, named := ["unicode/utf8.first", "unicode/utf8.acceptRanges", "internal/bytealg.MaxLen"], apart := false, laid := [("unicode/utf8.acceptRanges", laid_unicode_utf8_acceptRanges), ("unicode/utf8.first", laid_unicode_utf8_first)] }
def FnOpPlacesSaid : Prop := fnOpPlacesRow.holds Tryd.pinned (OpenSpec.ofChange fnOpPlacesSpec)

/-- ITS FALSE NEIGHBOUR: 'it returns false'. Refute it at one input. -/
def fnOpPlacesWrong : ChangeSpec := { name := "fnOpPlaces", fn := fun _ => fun
  | [d] => { results := [.lit (.bool false)], args := [d] }
  | _ => none }
def FnOpPlacesWrongFalsely : Prop := fnOpPlacesRow.holds Tryd.pinned (OpenSpec.ofChange fnOpPlacesWrong)

/-- 'laws.FnExactStoOk': WHATEVER THE INPUT: true; the input reads as it did. -/
def fnExactStoOkSpec : ChangeSpec := { name := "fnExactStoOk", fn := fun _ => fun
  | [d] => { results := [.lit (.bool true)], args := [d] }
  | _ => none }
def fnExactStoOkRow : OpenClaim := { program := "ytopoiinmhajhmaadoor", sum := "c570c2a7712f8da96f28fb452b50ddfba8e825691995bc55c57174898cf198bd", func := "loop.example/janitor/laws.FnExactStoOk", spec := "fnExactStoOk", inPlace := ["internal/bytealg.IndexByteString", "internal/bytealg.IndexString"], unfollowed := true, recurses := true, named := ["unicode/utf8.first", "unicode/utf8.acceptRanges", "internal/bytealg.MaxLen"], apart := false, laid := [("unicode/utf8.acceptRanges", laid_unicode_utf8_acceptRanges), ("unicode/utf8.first", laid_unicode_utf8_first)] }
def FnExactStoOkSaid : Prop := fnExactStoOkRow.holds Tryd.pinned (OpenSpec.ofChange fnExactStoOkSpec)

/-- ITS FALSE NEIGHBOUR: 'it returns false'. Refute it at one input. -/
def fnExactStoOkWrong : ChangeSpec := { name := "fnExactStoOk", fn := fun _ => fun
  | [d] => { results := [.lit (.bool false)], args := [d] }
  | _ => none }
def FnExactStoOkWrongFalsely : Prop := fnExactStoOkRow.holds Tryd.pinned (OpenSpec.ofChange fnExactStoOkWrong)

/-- 'laws.FnMsgOk': WHATEVER THE INPUT: true; the input reads as it did. -/
def fnMsgOkSpec : ChangeSpec := { name := "fnMsgOk", fn := fun _ => fun
  | [d] => { results := [.lit (.bool true)], args := [d] }
  | _ => none }
def fnMsgOkRow : OpenClaim := { program := "ytopoiinmhajhmaadoor", sum := "c570c2a7712f8da96f28fb452b50ddfba8e825691995bc55c57174898cf198bd", func := "loop.example/janitor/laws.FnMsgOk", spec := "fnMsgOk", inPlace := ["internal/bytealg.IndexByteString", "internal/bytealg.IndexString"], unfollowed := true, recurses := true, named := ["unicode/utf8.first", "unicode/utf8.acceptRanges", "internal/bytealg.MaxLen"], apart := false, laid := [("unicode/utf8.acceptRanges", laid_unicode_utf8_acceptRanges), ("unicode/utf8.first", laid_unicode_utf8_first)] }
def FnMsgOkSaid : Prop := fnMsgOkRow.holds Tryd.pinned (OpenSpec.ofChange fnMsgOkSpec)

/-- ITS FALSE NEIGHBOUR: 'it returns false'. Refute it at one input. -/
def fnMsgOkWrong : ChangeSpec := { name := "fnMsgOk", fn := fun _ => fun
  | [d] => { results := [.lit (.bool false)], args := [d] }
  | _ => none }
def FnMsgOkWrongFalsely : Prop := fnMsgOkRow.holds Tryd.pinned (OpenSpec.ofChange fnMsgOkWrong)

/-- 'laws.FnExactPlcOk': WHATEVER THE INPUT: true; the input reads as it did. -/
def fnExactPlcOkSpec : ChangeSpec := { name := "fnExactPlcOk", fn := fun _ => fun
  | [d1, d2] => { results := [.lit (.bool true)], args := [d1, d2] }
  | _ => none }
def fnExactPlcOkRow : OpenClaim := { program := "ytopoiinmhajhmaadoor", sum := "c570c2a7712f8da96f28fb452b50ddfba8e825691995bc55c57174898cf198bd", func := "loop.example/janitor/laws.FnExactPlcOk", spec := "fnExactPlcOk", inPlace := ["internal/bytealg.IndexByteString", "internal/bytealg.IndexString"], unfollowed := true, recurses := true, named := ["unicode/utf8.first", "unicode/utf8.acceptRanges", "internal/bytealg.MaxLen"], apart := false, laid := [("unicode/utf8.acceptRanges", laid_unicode_utf8_acceptRanges), ("unicode/utf8.first", laid_unicode_utf8_first)] }
def FnExactPlcOkSaid : Prop := fnExactPlcOkRow.holds Tryd.pinned (OpenSpec.ofChange fnExactPlcOkSpec)

/-- ITS FALSE NEIGHBOUR: 'it returns false'. Refute it at one input. -/
def fnExactPlcOkWrong : ChangeSpec := { name := "fnExactPlcOk", fn := fun _ => fun
  | [d1, d2] => { results := [.lit (.bool false)], args := [d1, d2] }
  | _ => none }
def FnExactPlcOkWrongFalsely : Prop := fnExactPlcOkRow.holds Tryd.pinned (OpenSpec.ofChange fnExactPlcOkWrong)

/-- 'laws.FnNoteOk': WHATEVER THE INPUT: true; the input reads as it did. -/
def fnNoteOkSpec : ChangeSpec := { name := "fnNoteOk", fn := fun _ => fun
  | [d] => { results := [.lit (.bool true)], args := [d] }
  | _ => none }
def fnNoteOkRow : OpenClaim := { program := "ytopoiinmhajhmaadoor", sum := "c570c2a7712f8da96f28fb452b50ddfba8e825691995bc55c57174898cf198bd", func := "loop.example/janitor/laws.FnNoteOk", spec := "fnNoteOk", inPlace := ["internal/bytealg.IndexByteString", "internal/bytealg.IndexString"], unfollowed := true, recurses := true, named := ["unicode/utf8.first", "unicode/utf8.acceptRanges", "internal/bytealg.MaxLen"], apart := false, laid := [("unicode/utf8.acceptRanges", laid_unicode_utf8_acceptRanges), ("unicode/utf8.first", laid_unicode_utf8_first)] }
def FnNoteOkSaid : Prop := fnNoteOkRow.holds Tryd.pinned (OpenSpec.ofChange fnNoteOkSpec)

/-- ITS FALSE NEIGHBOUR: 'it returns false'. Refute it at one input. -/
def fnNoteOkWrong : ChangeSpec := { name := "fnNoteOk", fn := fun _ => fun
  | [d] => { results := [.lit (.bool false)], args := [d] }
  | _ => none }
def FnNoteOkWrongFalsely : Prop := fnNoteOkRow.holds Tryd.pinned (OpenSpec.ofChange fnNoteOkWrong)

/-- 'laws.FnExactGloOk': WHATEVER THE INPUT: true; the input reads as it did. -/
def fnExactGloOkSpec : ChangeSpec := { name := "fnExactGloOk", fn := fun _ => fun
  | [d] => { results := [.lit (.bool true)], args := [d] }
  | _ => none }
def fnExactGloOkRow : OpenClaim := { program := "ytopoiinmhajhmaadoor", sum := "c570c2a7712f8da96f28fb452b50ddfba8e825691995bc55c57174898cf198bd", func := "loop.example/janitor/laws.FnExactGloOk", spec := "fnExactGloOk", inPlace := ["internal/bytealg.IndexByteString", "internal/bytealg.IndexString"], unfollowed := true, recurses := true, named := ["unicode/utf8.first", "unicode/utf8.acceptRanges", "internal/bytealg.MaxLen"], apart := false, laid := [("unicode/utf8.acceptRanges", laid_unicode_utf8_acceptRanges), ("unicode/utf8.first", laid_unicode_utf8_first)] }
def FnExactGloOkSaid : Prop := fnExactGloOkRow.holds Tryd.pinned (OpenSpec.ofChange fnExactGloOkSpec)

/-- ITS FALSE NEIGHBOUR: 'it returns false'. Refute it at one input. -/
def fnExactGloOkWrong : ChangeSpec := { name := "fnExactGloOk", fn := fun _ => fun
  | [d] => { results := [.lit (.bool false)], args := [d] }
  | _ => none }
def FnExactGloOkWrongFalsely : Prop := fnExactGloOkRow.holds Tryd.pinned (OpenSpec.ofChange fnExactGloOkWrong)

/-- 'laws.FnExactNoteOk': WHATEVER THE INPUT: true; the input reads as it did. -/
def fnExactNoteOkSpec : ChangeSpec := { name := "fnExactNoteOk", fn := fun _ => fun
  | [d] => { results := [.lit (.bool true)], args := [d] }
  | _ => none }
def fnExactNoteOkRow : OpenClaim := { program := "ytopoiinmhajhmaadoor", sum := "c570c2a7712f8da96f28fb452b50ddfba8e825691995bc55c57174898cf198bd", func := "loop.example/janitor/laws.FnExactNoteOk", spec := "fnExactNoteOk", inPlace := ["internal/bytealg.IndexByteString", "internal/bytealg.IndexString"], unfollowed := true, recurses := true, named := ["unicode/utf8.first", "unicode/utf8.acceptRanges", "internal/bytealg.MaxLen"], apart := false, laid := [("unicode/utf8.acceptRanges", laid_unicode_utf8_acceptRanges), ("unicode/utf8.first", laid_unicode_utf8_first)] }
def FnExactNoteOkSaid : Prop := fnExactNoteOkRow.holds Tryd.pinned (OpenSpec.ofChange fnExactNoteOkSpec)

/-- ITS FALSE NEIGHBOUR: 'it returns false'. Refute it at one input. -/
def fnExactNoteOkWrong : ChangeSpec := { name := "fnExactNoteOk", fn := fun _ => fun
  | [d] => { results := [.lit (.bool false)], args := [d] }
  | _ => none }
def FnExactNoteOkWrongFalsely : Prop := fnExactNoteOkRow.holds Tryd.pinned (OpenSpec.ofChange fnExactNoteOkWrong)

/-- 'laws.FnStoGet': WHATEVER THE INPUT: true; the input reads as it did. -/
def fnStoGetSpec : ChangeSpec := { name := "fnStoGet", fn := fun _ => fun
  | [d] => { results := [.lit (.bool true)], args := [d] }
  | _ => none }
def fnStoGetRow : OpenClaim := { program := "ytopoiinmhajhmaadoor", sum := "c570c2a7712f8da96f28fb452b50ddfba8e825691995bc55c57174898cf198bd", func := "loop.example/janitor/laws.FnStoGet", spec := "fnStoGet", inPlace := ["internal/bytealg.IndexByteString", "internal/bytealg.IndexString", "internal/bytealg.abigen_runtime_cmpstring"], unfollowed := true, recurses := true, named := ["unicode/utf8.first", "unicode/utf8.acceptRanges", "internal/bytealg.MaxLen"], apart := false, laid := [("unicode/utf8.acceptRanges", laid_unicode_utf8_acceptRanges), ("unicode/utf8.first", laid_unicode_utf8_first)] }
def FnStoGetSaid : Prop := fnStoGetRow.holds Tryd.pinned (OpenSpec.ofChange fnStoGetSpec)

/-- ITS FALSE NEIGHBOUR: 'it returns false'. Refute it at one input. -/
def fnStoGetWrong : ChangeSpec := { name := "fnStoGet", fn := fun _ => fun
  | [d] => { results := [.lit (.bool false)], args := [d] }
  | _ => none }
def FnStoGetWrongFalsely : Prop := fnStoGetRow.holds Tryd.pinned (OpenSpec.ofChange fnStoGetWrong)

/- THE SECOND FORM. 'bulk': how many values and letters a reading holds, each counted each time it is reached (what is shared counts as often as it is met; a slice's spare places count too). A statement '..UptoSaid' is the law's where the arguments, and the package variables that the reading takes, are together of bulk at most 1048576: NARROWER than '..Said'. Prove '..Said' where nothing that the law and all that it calls make is longer than what came in: it says more and counts as full. Else prove '..UptoSaid'. A law counts once. -/
mutual
def uptoBulk {H : Type} : DataW H → Nat
  | .lit (.string bytes) => bytes.length + 1
  | .lit _ => 1
  | .nil => 1
  | .ptr d => uptoBulk d + 1
  | .slice elems spare => uptoBulkAll elems + uptoBulkAll spare + 1
  | .agg parts => uptoBulkAll parts + 1
  | .iface _ d => uptoBulk d + 1
  | .map entries => uptoBulkEntries entries + 1
  | .held _ => 1
def uptoBulkAll {H : Type} : List (DataW H) → Nat
  | [] => 0
  | d :: r => uptoBulk d + uptoBulkAll r
def uptoBulkEntries {H : Type} : List (Lit × DataW H) → Nat
  | [] => 0
  | x :: r => uptoBulkEntry x + uptoBulkEntries r
def uptoBulkEntry {H : Type} : Lit × DataW H → Nat
  | (.string bytes, d) => bytes.length + uptoBulk d + 1
  | (_, d) => uptoBulk d + 1
 end
def uptoSmall : (H : Type) → List (DataW H) → Bool := fun _ ds => decide (uptoBulkAll ds ≤ 1048576)
def OpenSpec.upto (s : _root_.Go.ChangeSpec) : _root_.Go.OpenSpec := { _root_.Go.OpenSpec.ofChange s with cond := some uptoSmall }

/-- 'laws.FnSecSum', WHERE WHAT IT READS IS OF BULK AT MOST 1048576: true; the input reads as it did. -/
def fnSecSumUptoRow : OpenClaim := { program := "ytopoiinmhajhmaadoor", sum := "c570c2a7712f8da96f28fb452b50ddfba8e825691995bc55c57174898cf198bd", func := "loop.example/janitor/laws.FnSecSum", spec := "fnSecSum", inPlace := ["internal/bytealg.IndexByteString", "internal/bytealg.IndexString"], unfollowed := true, recurses := true, named := ["unicode/utf8.first", "unicode/utf8.acceptRanges", "internal/bytealg.MaxLen"], apart := false, laid := [("unicode/utf8.acceptRanges", laid_unicode_utf8_acceptRanges), ("unicode/utf8.first", laid_unicode_utf8_first)], narrowed := true }
def FnSecSumUptoSaid : Prop := fnSecSumUptoRow.holds Tryd.pinned (OpenSpec.upto fnSecSumSpec)

/-- 'laws.FnExactWrtOk', WHERE WHAT IT READS IS OF BULK AT MOST 1048576: true; the input reads as it did. -/
def fnExactWrtOkUptoRow : OpenClaim := { program := "ytopoiinmhajhmaadoor", sum := "c570c2a7712f8da96f28fb452b50ddfba8e825691995bc55c57174898cf198bd", func := "loop.example/janitor/laws.FnExactWrtOk", spec := "fnExactWrtOk", inPlace := ["internal/bytealg.IndexByteString", "internal/bytealg.IndexString"], unfollowed := true, recurses := true, named := ["unicode/utf8.first", "unicode/utf8.acceptRanges", "internal/bytealg.MaxLen"], apart := false, laid := [("unicode/utf8.acceptRanges", laid_unicode_utf8_acceptRanges), ("unicode/utf8.first", laid_unicode_utf8_first)], narrowed := true }
def FnExactWrtOkUptoSaid : Prop := fnExactWrtOkUptoRow.holds Tryd.pinned (OpenSpec.upto fnExactWrtOkSpec)

/-- 'laws.FnOpOk', WHERE WHAT IT READS IS OF BULK AT MOST 1048576: true; the input reads as it did. -/
def fnOpOkUptoRow : OpenClaim := { program := "ytopoiinmhajhmaadoor", sum := "c570c2a7712f8da96f28fb452b50ddfba8e825691995bc55c57174898cf198bd", func := "loop.example/janitor/laws.FnOpOk", spec := "fnOpOk", inPlace := ["internal/bytealg.IndexByteString", "internal/bytealg.IndexString"], unfollowed := true, recurses := true, named := ["unicode/utf8.first", "unicode/utf8.acceptRanges", "internal/bytealg.MaxLen"], apart := false, laid := [("unicode/utf8.acceptRanges", laid_unicode_utf8_acceptRanges), ("unicode/utf8.first", laid_unicode_utf8_first)], narrowed := true }
def FnOpOkUptoSaid : Prop := fnOpOkUptoRow.holds Tryd.pinned (OpenSpec.upto fnOpOkSpec)

/-- 'laws.FnWrtOk', WHERE WHAT IT READS IS OF BULK AT MOST 1048576: true; the input reads as it did. -/
def fnWrtOkUptoRow : OpenClaim := { program := "ytopoiinmhajhmaadoor", sum := "c570c2a7712f8da96f28fb452b50ddfba8e825691995bc55c57174898cf198bd", func := "loop.example/janitor/laws.FnWrtOk", spec := "fnWrtOk", inPlace := ["internal/bytealg.IndexByteString", "internal/bytealg.IndexString"], unfollowed := true, recurses := true, named := ["unicode/utf8.first", "unicode/utf8.acceptRanges", "internal/bytealg.MaxLen"], apart := false, laid := [("unicode/utf8.acceptRanges", laid_unicode_utf8_acceptRanges), ("unicode/utf8.first", laid_unicode_utf8_first)], narrowed := true }
def FnWrtOkUptoSaid : Prop := fnWrtOkUptoRow.holds Tryd.pinned (OpenSpec.upto fnWrtOkSpec)

/-- 'laws.FnOpPlaces', WHERE WHAT IT READS IS OF BULK AT MOST 1048576: true; the input reads as it did. -/
def fnOpPlacesUptoRow : OpenClaim := { program := "ytopoiinmhajhmaadoor", sum := "c570c2a7712f8da96f28fb452b50ddfba8e825691995bc55c57174898cf198bd", func := "loop.example/janitor/laws.FnOpPlaces", spec := "fnOpPlaces", inPlace := ["internal/bytealg.IndexByteString", "internal/bytealg.IndexString"], unfollowed := true, recurses := true, named := ["unicode/utf8.first", "unicode/utf8.acceptRanges", "internal/bytealg.MaxLen"], apart := false, laid := [("unicode/utf8.acceptRanges", laid_unicode_utf8_acceptRanges), ("unicode/utf8.first", laid_unicode_utf8_first)], narrowed := true }
def FnOpPlacesUptoSaid : Prop := fnOpPlacesUptoRow.holds Tryd.pinned (OpenSpec.upto fnOpPlacesSpec)

/-- 'laws.FnExactStoOk', WHERE WHAT IT READS IS OF BULK AT MOST 1048576: true; the input reads as it did. -/
def fnExactStoOkUptoRow : OpenClaim := { program := "ytopoiinmhajhmaadoor", sum := "c570c2a7712f8da96f28fb452b50ddfba8e825691995bc55c57174898cf198bd", func := "loop.example/janitor/laws.FnExactStoOk", spec := "fnExactStoOk", inPlace := ["internal/bytealg.IndexByteString", "internal/bytealg.IndexString"], unfollowed := true, recurses := true, named := ["unicode/utf8.first", "unicode/utf8.acceptRanges", "internal/bytealg.MaxLen"], apart := false, laid := [("unicode/utf8.acceptRanges", laid_unicode_utf8_acceptRanges), ("unicode/utf8.first", laid_unicode_utf8_first)], narrowed := true }
def FnExactStoOkUptoSaid : Prop := fnExactStoOkUptoRow.holds Tryd.pinned (OpenSpec.upto fnExactStoOkSpec)

/-- 'laws.FnMsgOk', WHERE WHAT IT READS IS OF BULK AT MOST 1048576: true; the input reads as it did. -/
def fnMsgOkUptoRow : OpenClaim := { program := "ytopoiinmhajhmaadoor", sum := "c570c2a7712f8da96f28fb452b50ddfba8e825691995bc55c57174898cf198bd", func := "loop.example/janitor/laws.FnMsgOk", spec := "fnMsgOk", inPlace := ["internal/bytealg.IndexByteString", "internal/bytealg.IndexString"], unfollowed := true, recurses := true, named := ["unicode/utf8.first", "unicode/utf8.acceptRanges", "internal/bytealg.MaxLen"], apart := false, laid := [("unicode/utf8.acceptRanges", laid_unicode_utf8_acceptRanges), ("unicode/utf8.first", laid_unicode_utf8_first)], narrowed := true }
def FnMsgOkUptoSaid : Prop := fnMsgOkUptoRow.holds Tryd.pinned (OpenSpec.upto fnMsgOkSpec)

/-- 'laws.FnExactPlcOk', WHERE WHAT IT READS IS OF BULK AT MOST 1048576: true; the input reads as it did. -/
def fnExactPlcOkUptoRow : OpenClaim := { program := "ytopoiinmhajhmaadoor", sum := "c570c2a7712f8da96f28fb452b50ddfba8e825691995bc55c57174898cf198bd", func := "loop.example/janitor/laws.FnExactPlcOk", spec := "fnExactPlcOk", inPlace := ["internal/bytealg.IndexByteString", "internal/bytealg.IndexString"], unfollowed := true, recurses := true, named := ["unicode/utf8.first", "unicode/utf8.acceptRanges", "internal/bytealg.MaxLen"], apart := false, laid := [("unicode/utf8.acceptRanges", laid_unicode_utf8_acceptRanges), ("unicode/utf8.first", laid_unicode_utf8_first)], narrowed := true }
def FnExactPlcOkUptoSaid : Prop := fnExactPlcOkUptoRow.holds Tryd.pinned (OpenSpec.upto fnExactPlcOkSpec)

/-- 'laws.FnNoteOk', WHERE WHAT IT READS IS OF BULK AT MOST 1048576: true; the input reads as it did. -/
def fnNoteOkUptoRow : OpenClaim := { program := "ytopoiinmhajhmaadoor", sum := "c570c2a7712f8da96f28fb452b50ddfba8e825691995bc55c57174898cf198bd", func := "loop.example/janitor/laws.FnNoteOk", spec := "fnNoteOk", inPlace := ["internal/bytealg.IndexByteString", "internal/bytealg.IndexString"], unfollowed := true, recurses := true, named := ["unicode/utf8.first", "unicode/utf8.acceptRanges", "internal/bytealg.MaxLen"], apart := false, laid := [("unicode/utf8.acceptRanges", laid_unicode_utf8_acceptRanges), ("unicode/utf8.first", laid_unicode_utf8_first)], narrowed := true }
def FnNoteOkUptoSaid : Prop := fnNoteOkUptoRow.holds Tryd.pinned (OpenSpec.upto fnNoteOkSpec)

/-- 'laws.FnExactGloOk', WHERE WHAT IT READS IS OF BULK AT MOST 1048576: true; the input reads as it did. -/
def fnExactGloOkUptoRow : OpenClaim := { program := "ytopoiinmhajhmaadoor", sum := "c570c2a7712f8da96f28fb452b50ddfba8e825691995bc55c57174898cf198bd", func := "loop.example/janitor/laws.FnExactGloOk", spec := "fnExactGloOk", inPlace := ["internal/bytealg.IndexByteString", "internal/bytealg.IndexString"], unfollowed := true, recurses := true, named := ["unicode/utf8.first", "unicode/utf8.acceptRanges", "internal/bytealg.MaxLen"], apart := false, laid := [("unicode/utf8.acceptRanges", laid_unicode_utf8_acceptRanges), ("unicode/utf8.first", laid_unicode_utf8_first)], narrowed := true }
def FnExactGloOkUptoSaid : Prop := fnExactGloOkUptoRow.holds Tryd.pinned (OpenSpec.upto fnExactGloOkSpec)

/-- 'laws.FnExactNoteOk', WHERE WHAT IT READS IS OF BULK AT MOST 1048576: true; the input reads as it did. -/
def fnExactNoteOkUptoRow : OpenClaim := { program := "ytopoiinmhajhmaadoor", sum := "c570c2a7712f8da96f28fb452b50ddfba8e825691995bc55c57174898cf198bd", func := "loop.example/janitor/laws.FnExactNoteOk", spec := "fnExactNoteOk", inPlace := ["internal/bytealg.IndexByteString", "internal/bytealg.IndexString"], unfollowed := true, recurses := true, named := ["unicode/utf8.first", "unicode/utf8.acceptRanges", "internal/bytealg.MaxLen"], apart := false, laid := [("unicode/utf8.acceptRanges", laid_unicode_utf8_acceptRanges), ("unicode/utf8.first", laid_unicode_utf8_first)], narrowed := true }
def FnExactNoteOkUptoSaid : Prop := fnExactNoteOkUptoRow.holds Tryd.pinned (OpenSpec.upto fnExactNoteOkSpec)

/-- 'laws.FnStoGet', WHERE WHAT IT READS IS OF BULK AT MOST 1048576: true; the input reads as it did. -/
def fnStoGetUptoRow : OpenClaim := { program := "ytopoiinmhajhmaadoor", sum := "c570c2a7712f8da96f28fb452b50ddfba8e825691995bc55c57174898cf198bd", func := "loop.example/janitor/laws.FnStoGet", spec := "fnStoGet", inPlace := ["internal/bytealg.IndexByteString", "internal/bytealg.IndexString", "internal/bytealg.abigen_runtime_cmpstring"], unfollowed := true, recurses := true, named := ["unicode/utf8.first", "unicode/utf8.acceptRanges", "internal/bytealg.MaxLen"], apart := false, laid := [("unicode/utf8.acceptRanges", laid_unicode_utf8_acceptRanges), ("unicode/utf8.first", laid_unicode_utf8_first)], narrowed := true }
def FnStoGetUptoSaid : Prop := fnStoGetUptoRow.holds Tryd.pinned (OpenSpec.upto fnStoGetSpec)

end Rows
end Go.Proofs.YtopoiinmhajhmaaDoor
