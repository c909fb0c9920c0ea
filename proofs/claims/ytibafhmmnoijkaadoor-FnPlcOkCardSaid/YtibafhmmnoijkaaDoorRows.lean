/-
  NARROWER THAN 'FOR EVERY INPUT', by the rows' own cells (each row's printed sentence says how): FnExactStoGet: laid · FnExactDiskOk: laid · FnDiskOf: laid · FnExactDiskOf: laid · FnDiskFall: laid · FnDiskAdd: laid · FnPlcTick: laid · FnDiskSafe: laid · FnStoAgain: laid · FnStoTwo: laid · FnPlcOk: laid.
  DERIVED. THE GIVEN ROWS OF THIS SEAT. 11 by the template 'for every input the law returns true; each argument reads behind the call as it read before'; 0 by the template 'total and deterministic' (their statements: YtibafhmmnoijkaaDoorTotals.lean).
  GIVEN WITH THE SEED: the statements are not yours to turn. If you find one false, say at which input.
  Laid BY PROGRAM, IN A SANDBOX (cutbox-rows.mjs): the forced cells as the released guide's own fill.sh prints them over the translation 7bb6e63d4b2eed39… (all of the seat's roots in one cut). By AI agents, Wed Nov 11 2026. No macro, syntax, notation, axiom, sorry.
-/
import Derived.Test.YtibafhmmnoijkaaDoorChecked
import GoSem.PinnedTables
import GoSem.Claim
import GoSem.ClaimJoined
import GoSem.ClaimMapViews
import Derived.JoinedTies
import Derived.KernelRfl
namespace Go.Proofs.YtibafhmmnoijkaaDoor
/- THE CELL 'sum', in the pinned program and in every row, IS THE sha256 OF THE DUMP (.gsa) THAT YtibafhmmnoijkaaDoorProg.lean LOADS. Nothing in Lean hashes anything: it is a label: what it is worth is what the hold of that sum in a sandbox is worth. -/
noncomputable def Tryd.pinned : Pinned := { name := "ytibafhmmnoijkaadoor", sum := "7bb6e63d4b2eed3911fdeab1ef08b2d3a31ee1ee19801636bcfcc737b9cbe80d", checked := Tryd.checked }
namespace Rows
def none {H : Type} : Left H := { results := [], args := [] }

/- WHAT THE LISTED PACKAGE-LEVEL VARIABLES READ AS WHEN THE CALL BEGINS. Each datum BY PROGRAM (the guide's laid-datum.mjs) off the statement by which the dump's own 'gosem.cut.vars' lays the variable. In a bare row this is a premise. The card (YtibafhmmnoijkaaDoorCards.lean) ties it to the program's text. -/
def laid_unicode_utf8_acceptRanges {H : Type} : DataW H := .agg [.agg [.lit (.int .u8 128), .lit (.int .u8 191)], .agg [.lit (.int .u8 160), .lit (.int .u8 191)], .agg [.lit (.int .u8 128), .lit (.int .u8 159)], .agg [.lit (.int .u8 144), .lit (.int .u8 191)], .agg [.lit (.int .u8 128), .lit (.int .u8 143)], .agg [.lit (.int .u8 0), .lit (.int .u8 0)], .agg [.lit (.int .u8 0), .lit (.int .u8 0)], .agg [.lit (.int .u8 0), .lit (.int .u8 0)], .agg [.lit (.int .u8 0), .lit (.int .u8 0)], .agg [.lit (.int .u8 0), .lit (.int .u8 0)], .agg [.lit (.int .u8 0), .lit (.int .u8 0)], .agg [.lit (.int .u8 0), .lit (.int .u8 0)], .agg [.lit (.int .u8 0), .lit (.int .u8 0)], .agg [.lit (.int .u8 0), .lit (.int .u8 0)], .agg [.lit (.int .u8 0), .lit (.int .u8 0)], .agg [.lit (.int .u8 0), .lit (.int .u8 0)]]
/-- One of Go's own tables, pinned by name: the form's constant. -/
def laid_unicode_utf8_first : DataW Unit := Go.Pinned.utf8First

/-- 'laws.FnExactStoGet': WHATEVER THE INPUT: true; the input reads as it did. -/
def fnExactStoGetSpec : ChangeSpec := { name := "fnExactStoGet", fn := fun _ => fun
  | [d1, d2] => { results := [.lit (.bool true)], args := [d1, d2] }
  | _ => none }
def fnExactStoGetRow : OpenClaim := { program := "ytibafhmmnoijkaadoor", sum := "7bb6e63d4b2eed3911fdeab1ef08b2d3a31ee1ee19801636bcfcc737b9cbe80d", func := "loop.example/janitor/laws.FnExactStoGet", spec := "fnExactStoGet", inPlace := ["internal/bytealg.IndexByteString", "internal/bytealg.IndexString", "internal/bytealg.abigen_runtime_cmpstring"], unfollowed := true, recurses := true, named := ["unicode/utf8.first", "unicode/utf8.acceptRanges", "internal/bytealg.MaxLen"], apart := false, laid := [("unicode/utf8.acceptRanges", laid_unicode_utf8_acceptRanges), ("unicode/utf8.first", laid_unicode_utf8_first)] }
def FnExactStoGetSaid : Prop := fnExactStoGetRow.holds Tryd.pinned (OpenSpec.ofChange fnExactStoGetSpec)

/-- ITS FALSE NEIGHBOUR: 'it returns false'. Refute it at one input. -/
def fnExactStoGetWrong : ChangeSpec := { name := "fnExactStoGet", fn := fun _ => fun
  | [d1, d2] => { results := [.lit (.bool false)], args := [d1, d2] }
  | _ => none }
def FnExactStoGetWrongFalsely : Prop := fnExactStoGetRow.holds Tryd.pinned (OpenSpec.ofChange fnExactStoGetWrong)

/-- 'laws.FnExactDiskOk': WHATEVER THE INPUT: true; the input reads as it did. -/
def fnExactDiskOkSpec : ChangeSpec := { name := "fnExactDiskOk", fn := fun _ => fun
  | [d] => { results := [.lit (.bool true)], args := [d] }
  | _ => none }
def fnExactDiskOkRow : OpenClaim := { program := "ytibafhmmnoijkaadoor", sum := "7bb6e63d4b2eed3911fdeab1ef08b2d3a31ee1ee19801636bcfcc737b9cbe80d", func := "loop.example/janitor/laws.FnExactDiskOk", spec := "fnExactDiskOk", inPlace := ["internal/bytealg.IndexByteString", "internal/bytealg.IndexString"], unfollowed := true, recurses := true, named := ["unicode/utf8.first", "unicode/utf8.acceptRanges", "internal/bytealg.MaxLen"], apart := false, laid := [("unicode/utf8.acceptRanges", laid_unicode_utf8_acceptRanges), ("unicode/utf8.first", laid_unicode_utf8_first)] }
def FnExactDiskOkSaid : Prop := fnExactDiskOkRow.holds Tryd.pinned (OpenSpec.ofChange fnExactDiskOkSpec)

/-- ITS FALSE NEIGHBOUR: 'it returns false'. Refute it at one input. -/
def fnExactDiskOkWrong : ChangeSpec := { name := "fnExactDiskOk", fn := fun _ => fun
  | [d] => { results := [.lit (.bool false)], args := [d] }
  | _ => none }
def FnExactDiskOkWrongFalsely : Prop := fnExactDiskOkRow.holds Tryd.pinned (OpenSpec.ofChange fnExactDiskOkWrong)

/-- 'laws.FnDiskOf': WHATEVER THE INPUT: true; the input reads as it did. -/
def fnDiskOfSpec : ChangeSpec := { name := "fnDiskOf", fn := fun _ => fun
  | [d] => { results := [.lit (.bool true)], args := [d] }
  | _ => none }
def fnDiskOfRow : OpenClaim := { program := "ytibafhmmnoijkaadoor", sum := "7bb6e63d4b2eed3911fdeab1ef08b2d3a31ee1ee19801636bcfcc737b9cbe80d", func := "loop.example/janitor/laws.FnDiskOf", spec := "fnDiskOf", inPlace := ["internal/bytealg.IndexByteString", "internal/bytealg.IndexString"], unfollowed := true, recurses := true, named := ["unicode/utf8.first", "unicode/utf8.acceptRanges", "internal/bytealg.MaxLen"], apart := false, laid := [("unicode/utf8.acceptRanges", laid_unicode_utf8_acceptRanges), ("unicode/utf8.first", laid_unicode_utf8_first)] }
def FnDiskOfSaid : Prop := fnDiskOfRow.holds Tryd.pinned (OpenSpec.ofChange fnDiskOfSpec)

/-- ITS FALSE NEIGHBOUR: 'it returns false'. Refute it at one input. -/
def fnDiskOfWrong : ChangeSpec := { name := "fnDiskOf", fn := fun _ => fun
  | [d] => { results := [.lit (.bool false)], args := [d] }
  | _ => none }
def FnDiskOfWrongFalsely : Prop := fnDiskOfRow.holds Tryd.pinned (OpenSpec.ofChange fnDiskOfWrong)

/-- 'laws.FnExactDiskOf': WHATEVER THE INPUT: true; the input reads as it did. -/
def fnExactDiskOfSpec : ChangeSpec := { name := "fnExactDiskOf", fn := fun _ => fun
  | [d1, d2] => { results := [.lit (.bool true)], args := [d1, d2] }
  | _ => none }
def fnExactDiskOfRow : OpenClaim := { program := "ytibafhmmnoijkaadoor", sum := "7bb6e63d4b2eed3911fdeab1ef08b2d3a31ee1ee19801636bcfcc737b9cbe80d", func := "loop.example/janitor/laws.FnExactDiskOf", spec := "fnExactDiskOf", inPlace := ["internal/bytealg.IndexByteString", "internal/bytealg.IndexString"], unfollowed := true, recurses := true, named := ["unicode/utf8.first", "unicode/utf8.acceptRanges", "internal/bytealg.MaxLen"], apart := false, laid := [("unicode/utf8.acceptRanges", laid_unicode_utf8_acceptRanges), ("unicode/utf8.first", laid_unicode_utf8_first)] }
def FnExactDiskOfSaid : Prop := fnExactDiskOfRow.holds Tryd.pinned (OpenSpec.ofChange fnExactDiskOfSpec)

/-- ITS FALSE NEIGHBOUR: 'it returns false'. Refute it at one input. -/
def fnExactDiskOfWrong : ChangeSpec := { name := "fnExactDiskOf", fn := fun _ => fun
  | [d1, d2] => { results := [.lit (.bool false)], args := [d1, d2] }
  | _ => none }
def FnExactDiskOfWrongFalsely : Prop := fnExactDiskOfRow.holds Tryd.pinned (OpenSpec.ofChange fnExactDiskOfWrong)

/-- 'laws.FnDiskFall': WHATEVER THE INPUT: true; the input reads as it did. -/
def fnDiskFallSpec : ChangeSpec := { name := "fnDiskFall", fn := fun _ => fun
  | [d] => { results := [.lit (.bool true)], args := [d] }
  | _ => none }
def fnDiskFallRow : OpenClaim := { program := "ytibafhmmnoijkaadoor", sum := "7bb6e63d4b2eed3911fdeab1ef08b2d3a31ee1ee19801636bcfcc737b9cbe80d", func := "loop.example/janitor/laws.FnDiskFall", spec := "fnDiskFall", inPlace := ["internal/bytealg.IndexByteString", "internal/bytealg.IndexString"], unfollowed := true, recurses := true, named := ["unicode/utf8.first", "unicode/utf8.acceptRanges", "internal/bytealg.MaxLen"], apart := false, laid := [("unicode/utf8.acceptRanges", laid_unicode_utf8_acceptRanges), ("unicode/utf8.first", laid_unicode_utf8_first)] }
def FnDiskFallSaid : Prop := fnDiskFallRow.holds Tryd.pinned (OpenSpec.ofChange fnDiskFallSpec)

/-- ITS FALSE NEIGHBOUR: 'it returns false'. Refute it at one input. -/
def fnDiskFallWrong : ChangeSpec := { name := "fnDiskFall", fn := fun _ => fun
  | [d] => { results := [.lit (.bool false)], args := [d] }
  | _ => none }
def FnDiskFallWrongFalsely : Prop := fnDiskFallRow.holds Tryd.pinned (OpenSpec.ofChange fnDiskFallWrong)

/-- 'laws.FnDiskAdd': WHATEVER THE INPUT: true; the input reads as it did. -/
def fnDiskAddSpec : ChangeSpec := { name := "fnDiskAdd", fn := fun _ => fun
  | [d] => { results := [.lit (.bool true)], args := [d] }
  | _ => none }
def fnDiskAddRow : OpenClaim := { program := "ytibafhmmnoijkaadoor", sum := "7bb6e63d4b2eed3911fdeab1ef08b2d3a31ee1ee19801636bcfcc737b9cbe80d", func := "loop.example/janitor/laws.FnDiskAdd", spec := "fnDiskAdd", inPlace := ["internal/bytealg.IndexByteString", "internal/bytealg.IndexString"], unfollowed := true, recurses := true, named := ["unicode/utf8.first", "unicode/utf8.acceptRanges", "internal/bytealg.MaxLen"], apart := false, laid := [("unicode/utf8.acceptRanges", laid_unicode_utf8_acceptRanges), ("unicode/utf8.first", laid_unicode_utf8_first)] }
def FnDiskAddSaid : Prop := fnDiskAddRow.holds Tryd.pinned (OpenSpec.ofChange fnDiskAddSpec)

/-- ITS FALSE NEIGHBOUR: 'it returns false'. Refute it at one input. -/
def fnDiskAddWrong : ChangeSpec := { name := "fnDiskAdd", fn := fun _ => fun
  | [d] => { results := [.lit (.bool false)], args := [d] }
  | _ => none }
def FnDiskAddWrongFalsely : Prop := fnDiskAddRow.holds Tryd.pinned (OpenSpec.ofChange fnDiskAddWrong)

/-- 'laws.FnPlcTick': WHATEVER THE INPUT: true; the input reads as it did. -/
def fnPlcTickSpec : ChangeSpec := { name := "fnPlcTick", fn := fun _ => fun
  | [d] => { results := [.lit (.bool true)], args := [d] }
  | _ => none }
def fnPlcTickRow : OpenClaim := { program := "ytibafhmmnoijkaadoor", sum := "7bb6e63d4b2eed3911fdeab1ef08b2d3a31ee1ee19801636bcfcc737b9cbe80d", func := "loop.example/janitor/laws.FnPlcTick", spec := "fnPlcTick", inPlace := ["internal/bytealg.IndexByteString", "internal/bytealg.IndexString"], unfollowed := true, recurses := true, named := ["unicode/utf8.first", "unicode/utf8.acceptRanges", "internal/bytealg.MaxLen"], apart := false, laid := [("unicode/utf8.acceptRanges", laid_unicode_utf8_acceptRanges), ("unicode/utf8.first", laid_unicode_utf8_first)] }
def FnPlcTickSaid : Prop := fnPlcTickRow.holds Tryd.pinned (OpenSpec.ofChange fnPlcTickSpec)

/-- ITS FALSE NEIGHBOUR: 'it returns false'. Refute it at one input. -/
def fnPlcTickWrong : ChangeSpec := { name := "fnPlcTick", fn := fun _ => fun
  | [d] => { results := [.lit (.bool false)], args := [d] }
  | _ => none }
def FnPlcTickWrongFalsely : Prop := fnPlcTickRow.holds Tryd.pinned (OpenSpec.ofChange fnPlcTickWrong)

/-- 'laws.FnDiskSafe': WHATEVER THE INPUT: true; the input reads as it did. -/
def fnDiskSafeSpec : ChangeSpec := { name := "fnDiskSafe", fn := fun _ => fun
  | [d] => { results := [.lit (.bool true)], args := [d] }
  | _ => none }
def fnDiskSafeRow : OpenClaim := { program := "ytibafhmmnoijkaadoor", sum := "7bb6e63d4b2eed3911fdeab1ef08b2d3a31ee1ee19801636bcfcc737b9cbe80d", func := "loop.example/janitor/laws.FnDiskSafe", spec := "fnDiskSafe", inPlace := ["internal/bytealg.IndexByteString", "internal/bytealg.IndexString"], unfollowed := true, recurses := true, named := ["unicode/utf8.first", "unicode/utf8.acceptRanges", "internal/bytealg.MaxLen"], apart := false, laid := [("unicode/utf8.acceptRanges", laid_unicode_utf8_acceptRanges), ("unicode/utf8.first", laid_unicode_utf8_first)] }
def FnDiskSafeSaid : Prop := fnDiskSafeRow.holds Tryd.pinned (OpenSpec.ofChange fnDiskSafeSpec)

/-- ITS FALSE NEIGHBOUR: 'it returns false'. Refute it at one input. -/
def fnDiskSafeWrong : ChangeSpec := { name := "fnDiskSafe", fn := fun _ => fun
  | [d] => { results := [.lit (.bool false)], args := [d] }
  | _ => none }
def FnDiskSafeWrongFalsely : Prop := fnDiskSafeRow.holds Tryd.pinned (OpenSpec.ofChange fnDiskSafeWrong)

/-- 'laws.FnStoAgain': WHATEVER THE INPUT: true; the input reads as it did. -/
def fnStoAgainSpec : ChangeSpec := { name := "fnStoAgain", fn := fun _ => fun
  | [d] => { results := [.lit (.bool true)], args := [d] }
  | _ => none }
def fnStoAgainRow : OpenClaim := { program := "ytibafhmmnoijkaadoor", sum := "7bb6e63d4b2eed3911fdeab1ef08b2d3a31ee1ee19801636bcfcc737b9cbe80d", func := "loop.example/janitor/laws.FnStoAgain", spec := "fnStoAgain", inPlace := ["internal/bytealg.IndexByteString", "internal/bytealg.IndexString", "internal/bytealg.abigen_runtime_cmpstring", "slices.overlaps[loop.example/janitor/impl.StoItem]"], unfollowed := true, recurses := true, named := ["unicode/utf8.first", "unicode/utf8.acceptRanges", "internal/bytealg.MaxLen"], apart := false, laid := [("unicode/utf8.acceptRanges", laid_unicode_utf8_acceptRanges), ("unicode/utf8.first", laid_unicode_utf8_first)] }
def FnStoAgainSaid : Prop := fnStoAgainRow.holds Tryd.pinned (OpenSpec.ofChange fnStoAgainSpec)

/-- ITS FALSE NEIGHBOUR: 'it returns false'. Refute it at one input. -/
def fnStoAgainWrong : ChangeSpec := { name := "fnStoAgain", fn := fun _ => fun
  | [d] => { results := [.lit (.bool false)], args := [d] }
  | _ => none }
def FnStoAgainWrongFalsely : Prop := fnStoAgainRow.holds Tryd.pinned (OpenSpec.ofChange fnStoAgainWrong)

/-- 'laws.FnStoTwo': WHATEVER THE INPUT: true; the input reads as it did. -/
def fnStoTwoSpec : ChangeSpec := { name := "fnStoTwo", fn := fun _ => fun
  | [d1, d2] => { results := [.lit (.bool true)], args := [d1, d2] }
  | _ => none }
def fnStoTwoRow : OpenClaim := { program := "ytibafhmmnoijkaadoor", sum := "7bb6e63d4b2eed3911fdeab1ef08b2d3a31ee1ee19801636bcfcc737b9cbe80d", func := "loop.example/janitor/laws.FnStoTwo", spec := "fnStoTwo", inPlace := ["internal/bytealg.IndexByteString", "internal/bytealg.IndexString", "internal/bytealg.abigen_runtime_cmpstring", "slices.overlaps[loop.example/janitor/impl.StoItem]"], unfollowed := true, recurses := true, named := ["unicode/utf8.first", "unicode/utf8.acceptRanges", "internal/bytealg.MaxLen"], apart := false, laid := [("unicode/utf8.acceptRanges", laid_unicode_utf8_acceptRanges), ("unicode/utf8.first", laid_unicode_utf8_first)] }
def FnStoTwoSaid : Prop := fnStoTwoRow.holds Tryd.pinned (OpenSpec.ofChange fnStoTwoSpec)

/-- ITS FALSE NEIGHBOUR: 'it returns false'. Refute it at one input. -/
def fnStoTwoWrong : ChangeSpec := { name := "fnStoTwo", fn := fun _ => fun
  | [d1, d2] => { results := [.lit (.bool false)], args := [d1, d2] }
  | _ => none }
def FnStoTwoWrongFalsely : Prop := fnStoTwoRow.holds Tryd.pinned (OpenSpec.ofChange fnStoTwoWrong)

/-- 'laws.FnPlcOk': WHATEVER THE INPUT: true; the input reads as it did. -/
def fnPlcOkSpec : ChangeSpec := { name := "fnPlcOk", fn := fun _ => fun
  | [d] => { results := [.lit (.bool true)], args := [d] }
  | _ => none }
def fnPlcOkRow : OpenClaim := { program := "ytibafhmmnoijkaadoor", sum := "7bb6e63d4b2eed3911fdeab1ef08b2d3a31ee1ee19801636bcfcc737b9cbe80d", func := "loop.example/janitor/laws.FnPlcOk", spec := "fnPlcOk", inPlace := ["internal/bytealg.IndexByteString", "internal/bytealg.IndexString"], unfollowed := true, recurses := true, named := ["unicode/utf8.first", "unicode/utf8.acceptRanges", "internal/bytealg.MaxLen"], apart := false, laid := [("unicode/utf8.acceptRanges", laid_unicode_utf8_acceptRanges), ("unicode/utf8.first", laid_unicode_utf8_first)] }
def FnPlcOkSaid : Prop := fnPlcOkRow.holds Tryd.pinned (OpenSpec.ofChange fnPlcOkSpec)

/-- ITS FALSE NEIGHBOUR: 'it returns false'. Refute it at one input. -/
def fnPlcOkWrong : ChangeSpec := { name := "fnPlcOk", fn := fun _ => fun
  | [d] => { results := [.lit (.bool false)], args := [d] }
  | _ => none }
def FnPlcOkWrongFalsely : Prop := fnPlcOkRow.holds Tryd.pinned (OpenSpec.ofChange fnPlcOkWrong)

/- THE SECOND FORM. 'bulk': how many values and letters a reading holds, each counted each time it is reached (what is shared counts as often as it is met; a slice's spare places count too). A statement '..UptoSaid' is the law's where the arguments, and the package variables that the reading takes, are together of bulk at most 1048576: NARROWER than '..Said'. Prove '..Said' where nothing that the law and all that it calls make is longer than what came in: it says more and counts as full. Else prove '..UptoSaid'. A law counts once. -/
mutual
def uptoBulk {H : Type} : DataW H → Nat
  | .lit (.string bytes) => bytes.length + 1
  | .lit _ => 1
  | .nil => 1
  | .ptr d => uptoBulk d + 1
  | .slice elems spare => uptoBulkAll elems + uptoBulkAll spare + 1
  | .agg parts => uptoBulkAll parts + 1
  | .iface _ d => uptoBulk d + 1
  | .map entries => uptoBulkEntries entries + 1
  | .held _ => 1
def uptoBulkAll {H : Type} : List (DataW H) → Nat
  | [] => 0
  | d :: r => uptoBulk d + uptoBulkAll r
def uptoBulkEntries {H : Type} : List (Lit × DataW H) → Nat
  | [] => 0
  | x :: r => uptoBulkEntry x + uptoBulkEntries r
def uptoBulkEntry {H : Type} : Lit × DataW H → Nat
  | (.string bytes, d) => bytes.length + uptoBulk d + 1
  | (_, d) => uptoBulk d + 1
 end
def uptoSmall : (H : Type) → List (DataW H) → Bool := fun _ ds => decide (uptoBulkAll ds ≤ 1048576)
def OpenSpec.upto (s : _root_.Go.ChangeSpec) : _root_.Go.OpenSpec := { _root_.Go.OpenSpec.ofChange s with cond := some uptoSmall }

/-- 'laws.FnExactStoGet', WHERE WHAT IT READS IS OF BULK AT MOST 1048576: true; the input reads as it did. -/
def fnExactStoGetUptoRow : OpenClaim := { program := "ytibafhmmnoijkaadoor", sum := "7bb6e63d4b2eed3911fdeab1ef08b2d3a31ee1ee19801636bcfcc737b9cbe80d", func := "loop.example/janitor/laws.FnExactStoGet", spec := "fnExactStoGet", inPlace := ["internal/bytealg.IndexByteString", "internal/bytealg.IndexString", "internal/bytealg.abigen_runtime_cmpstring"], unfollowed := true, recurses := true, named := ["unicode/utf8.first", "unicode/utf8.acceptRanges", "internal/bytealg.MaxLen"], apart := false, laid := [("unicode/utf8.acceptRanges", laid_unicode_utf8_acceptRanges), ("unicode/utf8.first", laid_unicode_utf8_first)], narrowed := true }
def FnExactStoGetUptoSaid : Prop := fnExactStoGetUptoRow.holds Tryd.pinned (OpenSpec.upto fnExactStoGetSpec)

/-- 'laws.FnExactDiskOk', WHERE WHAT IT READS IS OF BULK AT MOST 1048576: true; the input reads as it did. -/
def fnExactDiskOkUptoRow : OpenClaim := { program := "ytibafhmmnoijkaadoor", sum := "7bb6e63d4b2eed3911fdeab1ef08b2d3a31ee1ee19801636bcfcc737b9cbe80d", func := "loop.example/janitor/laws.FnExactDiskOk", spec := "fnExactDiskOk", inPlace := ["internal/bytealg.IndexByteString", "internal/bytealg.IndexString"], unfollowed := true, recurses := true, named := ["unicode/utf8.first", "unicode/utf8.acceptRanges", "internal/bytealg.MaxLen"], apart := false, laid := [("unicode/utf8.acceptRanges", laid_unicode_utf8_acceptRanges), ("unicode/utf8.first", laid_unicode_utf8_first)], narrowed := true }
def FnExactDiskOkUptoSaid : Prop := fnExactDiskOkUptoRow.holds Tryd.pinned (OpenSpec.upto fnExactDiskOkSpec)

/-- 'laws.FnDiskOf', WHERE WHAT IT READS IS OF BULK AT MOST 1048576: true; the input reads as it did. -/
def fnDiskOfUptoRow : OpenClaim := { program := "ytibafhmmnoijkaadoor", sum := "7bb6e63d4b2eed3911fdeab1ef08b2d3a31ee1ee19801636bcfcc737b9cbe80d", func := "loop.example/janitor/laws.FnDiskOf", spec := "fnDiskOf", inPlace := ["internal/bytealg.IndexByteString", "internal/bytealg.IndexString"], unfollowed := true, recurses := true, named := ["unicode/utf8.first", "unicode/utf8.acceptRanges", "internal/bytealg.MaxLen"], apart := false, laid := [("unicode/utf8.acceptRanges", laid_unicode_utf8_acceptRanges), ("unicode/utf8.first", laid_unicode_utf8_first)], narrowed := true }
def FnDiskOfUptoSaid : Prop := fnDiskOfUptoRow.holds Tryd.pinned (OpenSpec.upto fnDiskOfSpec)

/-- 'laws.FnExactDiskOf', WHERE WHAT IT READS IS OF BULK AT MOST 1048576: true; the input reads as it did. -/
def fnExactDiskOfUptoRow : OpenClaim := { program := "ytibafhmmnoijkaadoor", sum := "7bb6e63d4b2eed3911fdeab1ef08b2d3a31ee1ee19801636bcfcc737b9cbe80d", func := "loop.example/janitor/laws.FnExactDiskOf", spec := "fnExactDiskOf", inPlace := ["internal/bytealg.IndexByteString", "internal/bytealg.IndexString"], unfollowed := true, recurses := true, named := ["unicode/utf8.first", "unicode/utf8.acceptRanges", "internal/bytealg.MaxLen"], apart := false, laid := [("unicode/utf8.acceptRanges", laid_unicode_utf8_acceptRanges), ("unicode/utf8.first", laid_unicode_utf8_first)], narrowed := true }
def FnExactDiskOfUptoSaid : Prop := fnExactDiskOfUptoRow.holds Tryd.pinned (OpenSpec.upto fnExactDiskOfSpec)

/-- 'laws.FnDiskFall', WHERE WHAT IT READS IS OF BULK AT MOST 1048576: true; the input reads as it did. -/
def fnDiskFallUptoRow : OpenClaim := { program := "ytibafhmmnoijkaadoor", sum := "7bb6e63d4b2eed3911fdeab1ef08b2d3a31ee1ee19801636bcfcc737b9cbe80d", func := "loop.example/janitor/laws.FnDiskFall", spec := "fnDiskFall", inPlace := ["internal/bytealg.IndexByteString", "internal/bytealg.IndexString"], unfollowed := true, recurses := true, named := ["unicode/utf8.first", "unicode/utf8.acceptRanges", "internal/bytealg.MaxLen"], apart := false, laid := [("unicode/utf8.acceptRanges", laid_unicode_utf8_acceptRanges), ("unicode/utf8.first", laid_unicode_utf8_first)], narrowed := true }
def FnDiskFallUptoSaid : Prop := fnDiskFallUptoRow.holds Tryd.pinned (OpenSpec.upto fnDiskFallSpec)

/-- 'laws.FnDiskAdd', WHERE WHAT IT READS IS OF BULK AT MOST 1048576: true; the input reads as it did. -/
def fnDiskAddUptoRow : OpenClaim := { program := "ytibafhmmnoijkaadoor", sum := "7bb6e63d4b2eed3911fdeab1ef08b2d3a31ee1ee19801636bcfcc737b9cbe80d", func := "loop.example/janitor/laws.FnDiskAdd", spec := "fnDiskAdd", inPlace := ["internal/bytealg.IndexByteString", "internal/bytealg.IndexString"], unfollowed := true, recurses := true, named := ["unicode/utf8.first", "unicode/utf8.acceptRanges", "internal/bytealg.MaxLen"], apart := false, laid := [("unicode/utf8.acceptRanges", laid_unicode_utf8_acceptRanges), ("unicode/utf8.first", laid_unicode_utf8_first)], narrowed := true }
def FnDiskAddUptoSaid : Prop := fnDiskAddUptoRow.holds Tryd.pinned (OpenSpec.upto fnDiskAddSpec)

/-- 'laws.FnPlcTick', WHERE WHAT IT READS IS OF BULK AT MOST 1048576: true; the input reads as it did. -/
def fnPlcTickUptoRow : OpenClaim := { program := "ytibafhmmnoijkaadoor", sum := "7bb6e63d4b2eed3911fdeab1ef08b2d3a31ee1ee19801636bcfcc737b9cbe80d", func := "loop.example/janitor/laws.FnPlcTick", spec := "fnPlcTick", inPlace := ["internal/bytealg.IndexByteString", "internal/bytealg.IndexString"], unfollowed := true, recurses := true, named := ["unicode/utf8.first", "unicode/utf8.acceptRanges", "internal/bytealg.MaxLen"], apart := false, laid := [("unicode/utf8.acceptRanges", laid_unicode_utf8_acceptRanges), ("unicode/utf8.first", laid_unicode_utf8_first)], narrowed := true }
def FnPlcTickUptoSaid : Prop := fnPlcTickUptoRow.holds Tryd.pinned (OpenSpec.upto fnPlcTickSpec)

/-- 'laws.FnDiskSafe', WHERE WHAT IT READS IS OF BULK AT MOST 1048576: true; the input reads as it did. -/
def fnDiskSafeUptoRow : OpenClaim := { program := "ytibafhmmnoijkaadoor", sum := "7bb6e63d4b2eed3911fdeab1ef08b2d3a31ee1ee19801636bcfcc737b9cbe80d", func := "loop.example/janitor/laws.FnDiskSafe", spec := "fnDiskSafe", inPlace := ["internal/bytealg.IndexByteString", "internal/bytealg.IndexString"], unfollowed := true, recurses := true, named := ["unicode/utf8.first", "unicode/utf8.acceptRanges", "internal/bytealg.MaxLen"], apart := false, laid := [("unicode/utf8.acceptRanges", laid_unicode_utf8_acceptRanges), ("unicode/utf8.first", laid_unicode_utf8_first)], narrowed := true }
def FnDiskSafeUptoSaid : Prop := fnDiskSafeUptoRow.holds Tryd.pinned (OpenSpec.upto fnDiskSafeSpec)

/-- 'laws.FnStoAgain', WHERE WHAT IT READS IS OF BULK AT MOST 1048576: true; the input reads as it did. -/
def fnStoAgainUptoRow : OpenClaim := { program := "ytibafhmmnoijkaadoor", sum := "7bb6e63d4b2eed3911fdeab1ef08b2d3a31ee1ee19801636bcfcc737b9cbe80d", func := "loop.example/janitor/laws.FnStoAgain", spec := "fnStoAgain", inPlace := ["internal/bytealg.IndexByteString", "internal/bytealg.IndexString", "internal/bytealg.abigen_runtime_cmpstring", "slices.overlaps[loop.example/janitor/impl.StoItem]"], unfollowed := true, recurses := true, named := ["unicode/utf8.first", "unicode/utf8.acceptRanges", "internal/bytealg.MaxLen"], apart := false, laid := [("unicode/utf8.acceptRanges", laid_unicode_utf8_acceptRanges), ("unicode/utf8.first", laid_unicode_utf8_first)], narrowed := true }
def FnStoAgainUptoSaid : Prop := fnStoAgainUptoRow.holds Tryd.pinned (OpenSpec.upto fnStoAgainSpec)

/-- 'laws.FnStoTwo', WHERE WHAT IT READS IS OF BULK AT MOST 1048576: true; the input reads as it did. -/
def fnStoTwoUptoRow : OpenClaim := { program := "ytibafhmmnoijkaadoor", sum := "7bb6e63d4b2eed3911fdeab1ef08b2d3a31ee1ee19801636bcfcc737b9cbe80d", func := "loop.example/janitor/laws.FnStoTwo", spec := "fnStoTwo", inPlace := ["internal/bytealg.IndexByteString", "internal/bytealg.IndexString", "internal/bytealg.abigen_runtime_cmpstring", "slices.overlaps[loop.example/janitor/impl.StoItem]"], unfollowed := true, recurses := true, named := ["unicode/utf8.first", "unicode/utf8.acceptRanges", "internal/bytealg.MaxLen"], apart := false, laid := [("unicode/utf8.acceptRanges", laid_unicode_utf8_acceptRanges), ("unicode/utf8.first", laid_unicode_utf8_first)], narrowed := true }
def FnStoTwoUptoSaid : Prop := fnStoTwoUptoRow.holds Tryd.pinned (OpenSpec.upto fnStoTwoSpec)

/-- 'laws.FnPlcOk', WHERE WHAT IT READS IS OF BULK AT MOST 1048576: true; the input reads as it did. -/
def fnPlcOkUptoRow : OpenClaim := { program := "ytibafhmmnoijkaadoor", sum := "7bb6e63d4b2eed3911fdeab1ef08b2d3a31ee1ee19801636bcfcc737b9cbe80d", func := "loop.example/janitor/laws.FnPlcOk", spec := "fnPlcOk", inPlace := ["internal/bytealg.IndexByteString", "internal/bytealg.IndexString"], unfollowed := true, recurses := true, named := ["unicode/utf8.first", "unicode/utf8.acceptRanges", "internal/bytealg.MaxLen"], apart := false, laid := [("unicode/utf8.acceptRanges", laid_unicode_utf8_acceptRanges), ("unicode/utf8.first", laid_unicode_utf8_first)], narrowed := true }
def FnPlcOkUptoSaid : Prop := fnPlcOkUptoRow.holds Tryd.pinned (OpenSpec.upto fnPlcOkSpec)

end Rows
end Go.Proofs.YtibafhmmnoijkaaDoor
