/-
  NARROWER THAN 'FOR EVERY INPUT', by the rows' own cells (each row's printed sentence says how): FnStoOk: laid · FnStoDo: laid · FnExactStoDo: laid · FnExactDiskOpen: laid · FnExactDiskLocks: laid · FnExactDiskAdd: laid · FnExactDiskFall: laid · FnDiskOpen: laid · FnExactPlcTick: laid · FnDiskFold: laid.
  DERIVED. THE GIVEN ROWS OF THIS SEAT. 10 by the template 'for every input the law returns true; each argument reads behind the call as it read before'; 0 by the template 'total and deterministic' (their statements: YtkjeicijcecmlaaDoorTotals.lean).
  GIVEN WITH THE SEED: the statements are not yours to turn. If you find one false, say at which input.
  Laid BY PROGRAM, IN A SANDBOX (cutbox-rows.mjs): the forced cells as the released guide's own fill.sh prints them over the translation ac8a815eb393b508… (all of the seat's roots in one cut). By AI agents, Wed Nov 11 2026. No macro, syntax, notation, axiom, sorry.
-/
import Derived.Test.YtkjeicijcecmlaaDoorChecked
import GoSem.PinnedTables
import GoSem.Claim
import GoSem.ClaimJoined
import GoSem.ClaimMapViews
import Derived.JoinedTies
import Derived.KernelRfl
namespace Go.Proofs.YtkjeicijcecmlaaDoor
/- THE CELL 'sum', in the pinned program and in every row, IS THE sha256 OF THE DUMP (.gsa) THAT YtkjeicijcecmlaaDoorProg.lean LOADS. Nothing in Lean hashes anything: it is a label: what it is worth is what the hold of that sum in a sandbox is worth. -/
noncomputable def Tryd.pinned : Pinned := { name := "ytkjeicijcecmlaadoor", sum := "ac8a815eb393b508bb7b88a98a6121256d2dea2888064a1377559bfd384cd1b0", checked := Tryd.checked }
namespace Rows
def none {H : Type} : Left H := { results := [], args := [] }

/- WHAT THE LISTED PACKAGE-LEVEL VARIABLES READ AS WHEN THE CALL BEGINS. Each datum BY PROGRAM (the guide's laid-datum.mjs) off the statement by which the dump's own 'gosem.cut.vars' lays the variable. In a bare row this is a premise. The card (YtkjeicijcecmlaaDoorCards.lean) ties it to the program's text. -/
def laid_unicode_utf8_acceptRanges {H : Type} : DataW H := .agg [.agg [.lit (.int .u8 128), .lit (.int .u8 191)], .agg [.lit (.int .u8 160), .lit (.int .u8 191)], .agg [.lit (.int .u8 128), .lit (.int .u8 159)], .agg [.lit (.int .u8 144), .lit (.int .u8 191)], .agg [.lit (.int .u8 128), .lit (.int .u8 143)], .agg [.lit (.int .u8 0), .lit (.int .u8 0)], .agg [.lit (.int .u8 0), .lit (.int .u8 0)], .agg [.lit (.int .u8 0), .lit (.int .u8 0)], .agg [.lit (.int .u8 0), .lit (.int .u8 0)], .agg [.lit (.int .u8 0), .lit (.int .u8 0)], .agg [.lit (.int .u8 0), .lit (.int .u8 0)], .agg [.lit (.int .u8 0), .lit (.int .u8 0)], .agg [.lit (.int .u8 0), .lit (.int .u8 0)], .agg [.lit (.int .u8 0), .lit (.int .u8 0)], .agg [.lit (.int .u8 0), .lit (.int .u8 0)], .agg [.lit (.int .u8 0), .lit (.int .u8 0)]]
/-- One of Go's own tables, pinned by name: the form's constant. -/
def laid_unicode_utf8_first : DataW Unit := Go.Pinned.utf8First

/-- 'laws.FnStoOk': WHATEVER THE INPUT: true; the input reads as it did. -/
def fnStoOkSpec : ChangeSpec := { name := "fnStoOk", fn := fun _ => fun
  | [d] => { results := [.lit (.bool true)], args := [d] }
  | _ => none }
def fnStoOkRow : OpenClaim := { program := "ytkjeicijcecmlaadoor", sum := "ac8a815eb393b508bb7b88a98a6121256d2dea2888064a1377559bfd384cd1b0", func := "loop.example/janitor/laws.FnStoOk", spec := "fnStoOk", inPlace := ["internal/bytealg.IndexByteString", "internal/bytealg.IndexString"], unfollowed := true, recurses := true, named := ["unicode/utf8.first", "unicode/utf8.acceptRanges", "internal/bytealg.MaxLen"], apart := false, laid := [("unicode/utf8.acceptRanges", laid_unicode_utf8_acceptRanges), ("unicode/utf8.first", laid_unicode_utf8_first)] }
def FnStoOkSaid : Prop := fnStoOkRow.holds Tryd.pinned (OpenSpec.ofChange fnStoOkSpec)

/-- ITS FALSE NEIGHBOUR: 'it returns false'. Refute it at one input. -/
def fnStoOkWrong : ChangeSpec := { name := "fnStoOk", fn := fun _ => fun
  | [d] => { results := [.lit (.bool false)], args := [d] }
  | _ => none }
def FnStoOkWrongFalsely : Prop := fnStoOkRow.holds Tryd.pinned (OpenSpec.ofChange fnStoOkWrong)

/-- 'laws.FnStoDo': WHATEVER THE INPUT: true; the input reads as it did. -/
def fnStoDoSpec : ChangeSpec := { name := "fnStoDo", fn := fun _ => fun
  | [d] => { results := [.lit (.bool true)], args := [d] }
  | _ => none }
def fnStoDoRow : OpenClaim := { program := "ytkjeicijcecmlaadoor", sum := "ac8a815eb393b508bb7b88a98a6121256d2dea2888064a1377559bfd384cd1b0", func := "loop.example/janitor/laws.FnStoDo", spec := "fnStoDo", inPlace := ["internal/bytealg.IndexByteString", "internal/bytealg.IndexString", "internal/bytealg.abigen_runtime_cmpstring", "slices.overlaps[loop.example/janitor/impl.StoItem]"], unfollowed := true, recurses := true, named := ["unicode/utf8.first", "unicode/utf8.acceptRanges", "internal/bytealg.MaxLen"], apart := false, laid := [("unicode/utf8.acceptRanges", laid_unicode_utf8_acceptRanges), ("unicode/utf8.first", laid_unicode_utf8_first)] }
def FnStoDoSaid : Prop := fnStoDoRow.holds Tryd.pinned (OpenSpec.ofChange fnStoDoSpec)

/-- ITS FALSE NEIGHBOUR: 'it returns false'. Refute it at one input. -/
def fnStoDoWrong : ChangeSpec := { name := "fnStoDo", fn := fun _ => fun
  | [d] => { results := [.lit (.bool false)], args := [d] }
  | _ => none }
def FnStoDoWrongFalsely : Prop := fnStoDoRow.holds Tryd.pinned (OpenSpec.ofChange fnStoDoWrong)

/-- 'laws.FnExactStoDo': WHATEVER THE INPUT: true; the input reads as it did. -/
def fnExactStoDoSpec : ChangeSpec := { name := "fnExactStoDo", fn := fun _ => fun
  | [d1, d2] => { results := [.lit (.bool true)], args := [d1, d2] }
  | _ => none }
def fnExactStoDoRow : OpenClaim := { program := "ytkjeicijcecmlaadoor", sum := "ac8a815eb393b508bb7b88a98a6121256d2dea2888064a1377559bfd384cd1b0", func := "loop.example/janitor/laws.FnExactStoDo", spec := "fnExactStoDo", inPlace := ["internal/bytealg.IndexByteString", "internal/bytealg.IndexString", "internal/bytealg.abigen_runtime_cmpstring", "slices.overlaps[loop.example/janitor/impl.StoItem]"], unfollowed := true, recurses := true, named := ["unicode/utf8.first", "unicode/utf8.acceptRanges", "internal/bytealg.MaxLen"], apart := false, laid := [("unicode/utf8.acceptRanges", laid_unicode_utf8_acceptRanges), ("unicode/utf8.first", laid_unicode_utf8_first)] }
def FnExactStoDoSaid : Prop := fnExactStoDoRow.holds Tryd.pinned (OpenSpec.ofChange fnExactStoDoSpec)

/-- ITS FALSE NEIGHBOUR: 'it returns false'. Refute it at one input. -/
def fnExactStoDoWrong : ChangeSpec := { name := "fnExactStoDo", fn := fun _ => fun
  | [d1, d2] => { results := [.lit (.bool false)], args := [d1, d2] }
  | _ => none }
def FnExactStoDoWrongFalsely : Prop := fnExactStoDoRow.holds Tryd.pinned (OpenSpec.ofChange fnExactStoDoWrong)

/-- 'laws.FnExactDiskOpen': WHATEVER THE INPUT: true; the input reads as it did. -/
def fnExactDiskOpenSpec : ChangeSpec := { name := "fnExactDiskOpen", fn := fun _ => fun
  | [d] => { results := [.lit (.bool true)], args := [d] }
  | _ => none }
def fnExactDiskOpenRow : OpenClaim := { program := "ytkjeicijcecmlaadoor", sum := "ac8a815eb393b508bb7b88a98a6121256d2dea2888064a1377559bfd384cd1b0", func := "loop.example/janitor/laws.FnExactDiskOpen", spec := "fnExactDiskOpen", inPlace := ["internal/bytealg.IndexByteString", "internal/bytealg.IndexString"], unfollowed := true, recurses := true, named := ["unicode/utf8.first", "unicode/utf8.acceptRanges", "internal/bytealg.MaxLen"], apart := false, laid := [("unicode/utf8.acceptRanges", laid_unicode_utf8_acceptRanges), ("unicode/utf8.first", laid_unicode_utf8_first)] }
def FnExactDiskOpenSaid : Prop := fnExactDiskOpenRow.holds Tryd.pinned (OpenSpec.ofChange fnExactDiskOpenSpec)

/-- ITS FALSE NEIGHBOUR: 'it returns false'. Refute it at one input. -/
def fnExactDiskOpenWrong : ChangeSpec := { name := "fnExactDiskOpen", fn := fun _ => fun
  | [d] => { results := [.lit (.bool false)], args := [d] }
  | _ => none }
def FnExactDiskOpenWrongFalsely : Prop := fnExactDiskOpenRow.holds Tryd.pinned (OpenSpec.ofChange fnExactDiskOpenWrong)

/-- 'laws.FnExactDiskLocks': WHATEVER THE INPUT: true; the input reads as it did. -/
def fnExactDiskLocksSpec : ChangeSpec := { name := "fnExactDiskLocks", fn := fun _ => fun
  | [d] => { results := [.lit (.bool true)], args := [d] }
  | _ => none }
def fnExactDiskLocksRow : OpenClaim := { program := "ytkjeicijcecmlaadoor", sum := "ac8a815eb393b508bb7b88a98a6121256d2dea2888064a1377559bfd384cd1b0", func := "loop.example/janitor/laws.FnExactDiskLocks", spec := "fnExactDiskLocks", inPlace := ["internal/bytealg.IndexByteString", "internal/bytealg.IndexString"], unfollowed := true, recurses := true, named := ["unicode/utf8.first", "unicode/utf8.acceptRanges", "internal/bytealg.MaxLen"], apart := false, laid := [("unicode/utf8.acceptRanges", laid_unicode_utf8_acceptRanges), ("unicode/utf8.first", laid_unicode_utf8_first)] }
def FnExactDiskLocksSaid : Prop := fnExactDiskLocksRow.holds Tryd.pinned (OpenSpec.ofChange fnExactDiskLocksSpec)

/-- ITS FALSE NEIGHBOUR: 'it returns false'. Refute it at one input. -/
def fnExactDiskLocksWrong : ChangeSpec := { name := "fnExactDiskLocks", fn := fun _ => fun
  | [d] => { results := [.lit (.bool false)], args := [d] }
  | _ => none }
def FnExactDiskLocksWrongFalsely : Prop := fnExactDiskLocksRow.holds Tryd.pinned (OpenSpec.ofChange fnExactDiskLocksWrong)

/-- 'laws.FnExactDiskAdd': WHATEVER THE INPUT: true; the input reads as it did. -/
def fnExactDiskAddSpec : ChangeSpec := { name := "fnExactDiskAdd", fn := fun _ => fun
  | [d1, d2, d3] => { results := [.lit (.bool true)], args := [d1, d2, d3] }
  | _ => none }
def fnExactDiskAddRow : OpenClaim := { program := "ytkjeicijcecmlaadoor", sum := "ac8a815eb393b508bb7b88a98a6121256d2dea2888064a1377559bfd384cd1b0", func := "loop.example/janitor/laws.FnExactDiskAdd", spec := "fnExactDiskAdd", inPlace := ["internal/bytealg.IndexByteString", "internal/bytealg.IndexString"], unfollowed := true, recurses := true, named := ["unicode/utf8.first", "unicode/utf8.acceptRanges", "internal/bytealg.MaxLen"], apart := false, laid := [("unicode/utf8.acceptRanges", laid_unicode_utf8_acceptRanges), ("unicode/utf8.first", laid_unicode_utf8_first)] }
def FnExactDiskAddSaid : Prop := fnExactDiskAddRow.holds Tryd.pinned (OpenSpec.ofChange fnExactDiskAddSpec)

/-- ITS FALSE NEIGHBOUR: 'it returns false'. Refute it at one input. -/
def fnExactDiskAddWrong : ChangeSpec := { name := "fnExactDiskAdd", fn := fun _ => fun
  | [d1, d2, d3] => { results := [.lit (.bool false)], args := [d1, d2, d3] }
  | _ => none }
def FnExactDiskAddWrongFalsely : Prop := fnExactDiskAddRow.holds Tryd.pinned (OpenSpec.ofChange fnExactDiskAddWrong)

/-- 'laws.FnExactDiskFall': WHATEVER THE INPUT: true; the input reads as it did. -/
def fnExactDiskFallSpec : ChangeSpec := { name := "fnExactDiskFall", fn := fun _ => fun
  | [d1, d2] => { results := [.lit (.bool true)], args := [d1, d2] }
  | _ => none }
def fnExactDiskFallRow : OpenClaim := { program := "ytkjeicijcecmlaadoor", sum := "ac8a815eb393b508bb7b88a98a6121256d2dea2888064a1377559bfd384cd1b0", func := "loop.example/janitor/laws.FnExactDiskFall", spec := "fnExactDiskFall", inPlace := ["internal/bytealg.IndexByteString", "internal/bytealg.IndexString"], unfollowed := true, recurses := true, named := ["unicode/utf8.first", "unicode/utf8.acceptRanges", "internal/bytealg.MaxLen"], apart := false, laid := [("unicode/utf8.acceptRanges", laid_unicode_utf8_acceptRanges), ("unicode/utf8.first", laid_unicode_utf8_first)] }
def FnExactDiskFallSaid : Prop := fnExactDiskFallRow.holds Tryd.pinned (OpenSpec.ofChange fnExactDiskFallSpec)

/-- ITS FALSE NEIGHBOUR: 'it returns false'. Refute it at one input. -/
def fnExactDiskFallWrong : ChangeSpec := { name := "fnExactDiskFall", fn := fun _ => fun
  | [d1, d2] => { results := [.lit (.bool false)], args := [d1, d2] }
  | _ => none }
def FnExactDiskFallWrongFalsely : Prop := fnExactDiskFallRow.holds Tryd.pinned (OpenSpec.ofChange fnExactDiskFallWrong)

/-- 'laws.FnDiskOpen': WHATEVER THE INPUT: true; the input reads as it did. -/
def fnDiskOpenSpec : ChangeSpec := { name := "fnDiskOpen", fn := fun _ => fun
  | [d1, d2] => { results := [.lit (.bool true)], args := [d1, d2] }
  | _ => none }
def fnDiskOpenRow : OpenClaim := { program := "ytkjeicijcecmlaadoor", sum := "ac8a815eb393b508bb7b88a98a6121256d2dea2888064a1377559bfd384cd1b0", func := "loop.example/janitor/laws.FnDiskOpen", spec := "fnDiskOpen", inPlace := ["internal/bytealg.IndexByteString", "internal/bytealg.IndexString"], unfollowed := true, recurses := true, named := ["unicode/utf8.first", "unicode/utf8.acceptRanges", "internal/bytealg.MaxLen"], apart := false, laid := [("unicode/utf8.acceptRanges", laid_unicode_utf8_acceptRanges), ("unicode/utf8.first", laid_unicode_utf8_first)] }
def FnDiskOpenSaid : Prop := fnDiskOpenRow.holds Tryd.pinned (OpenSpec.ofChange fnDiskOpenSpec)

/-- ITS FALSE NEIGHBOUR: 'it returns false'. Refute it at one input. -/
def fnDiskOpenWrong : ChangeSpec := { name := "fnDiskOpen", fn := fun _ => fun
  | [d1, d2] => { results := [.lit (.bool false)], args := [d1, d2] }
  | _ => none }
def FnDiskOpenWrongFalsely : Prop := fnDiskOpenRow.holds Tryd.pinned (OpenSpec.ofChange fnDiskOpenWrong)

/-- 'laws.FnExactPlcTick': WHATEVER THE INPUT: true; the input reads as it did. -/
def fnExactPlcTickSpec : ChangeSpec := { name := "fnExactPlcTick", fn := fun _ => fun
  | [d1, d2] => { results := [.lit (.bool true)], args := [d1, d2] }
  | _ => none }
def fnExactPlcTickRow : OpenClaim := { program := "ytkjeicijcecmlaadoor", sum := "ac8a815eb393b508bb7b88a98a6121256d2dea2888064a1377559bfd384cd1b0", func := "loop.example/janitor/laws.FnExactPlcTick", spec := "fnExactPlcTick", inPlace := ["internal/bytealg.IndexByteString", "internal/bytealg.IndexString"], unfollowed := true, recurses := true, named := ["unicode/utf8.first", "unicode/utf8.acceptRanges", "internal/bytealg.MaxLen"], apart := false, laid := [("unicode/utf8.acceptRanges", laid_unicode_utf8_acceptRanges), ("unicode/utf8.first", laid_unicode_utf8_first)] }
def FnExactPlcTickSaid : Prop := fnExactPlcTickRow.holds Tryd.pinned (OpenSpec.ofChange fnExactPlcTickSpec)

/-- ITS FALSE NEIGHBOUR: 'it returns false'. Refute it at one input. -/
def fnExactPlcTickWrong : ChangeSpec := { name := "fnExactPlcTick", fn := fun _ => fun
  | [d1, d2] => { results := [.lit (.bool false)], args := [d1, d2] }
  | _ => none }
def FnExactPlcTickWrongFalsely : Prop := fnExactPlcTickRow.holds Tryd.pinned (OpenSpec.ofChange fnExactPlcTickWrong)

/-- 'laws.FnDiskFold': WHATEVER THE INPUT: true; the input reads as it did. -/
def fnDiskFoldSpec : ChangeSpec := { name := "fnDiskFold", fn := fun _ => fun
  | [d] => { results := [.lit (.bool true)], args := [d] }
  | _ => none }
def fnDiskFoldRow : OpenClaim := { program := "ytkjeicijcecmlaadoor", sum := "ac8a815eb393b508bb7b88a98a6121256d2dea2888064a1377559bfd384cd1b0", func := "loop.example/janitor/laws.FnDiskFold", spec := "fnDiskFold", inPlace := ["internal/bytealg.IndexByteString", "internal/bytealg.IndexString", "internal/bytealg.abigen_runtime_cmpstring", "slices.overlaps[loop.example/janitor/impl.StoItem]"], unfollowed := true, recurses := true, named := ["unicode/utf8.first", "unicode/utf8.acceptRanges", "internal/bytealg.MaxLen"], apart := false, laid := [("unicode/utf8.acceptRanges", laid_unicode_utf8_acceptRanges), ("unicode/utf8.first", laid_unicode_utf8_first)] }
def FnDiskFoldSaid : Prop := fnDiskFoldRow.holds Tryd.pinned (OpenSpec.ofChange fnDiskFoldSpec)

/-- ITS FALSE NEIGHBOUR: 'it returns false'. Refute it at one input. -/
def fnDiskFoldWrong : ChangeSpec := { name := "fnDiskFold", fn := fun _ => fun
  | [d] => { results := [.lit (.bool false)], args := [d] }
  | _ => none }
def FnDiskFoldWrongFalsely : Prop := fnDiskFoldRow.holds Tryd.pinned (OpenSpec.ofChange fnDiskFoldWrong)

/- THE SECOND FORM. 'bulk': how many values and letters a reading holds, each counted each time it is reached (what is shared counts as often as it is met; a slice's spare places count too). A statement '..UptoSaid' is the law's where the arguments, and the package variables that the reading takes, are together of bulk at most 1048576: NARROWER than '..Said'. Prove '..Said' where nothing that the law and all that it calls make is longer than what came in: it says more and counts as full. Else prove '..UptoSaid'. A law counts once. -/
mutual
def uptoBulk {H : Type} : DataW H → Nat
  | .lit (.string bytes) => bytes.length + 1
  | .lit _ => 1
  | .nil => 1
  | .ptr d => uptoBulk d + 1
  | .slice elems spare => uptoBulkAll elems + uptoBulkAll spare + 1
  | .agg parts => uptoBulkAll parts + 1
  | .iface _ d => uptoBulk d + 1
  | .map entries => uptoBulkEntries entries + 1
  | .held _ => 1
def uptoBulkAll {H : Type} : List (DataW H) → Nat
  | [] => 0
  | d :: r => uptoBulk d + uptoBulkAll r
def uptoBulkEntries {H : Type} : List (Lit × DataW H) → Nat
  | [] => 0
  | x :: r => uptoBulkEntry x + uptoBulkEntries r
def uptoBulkEntry {H : Type} : Lit × DataW H → Nat
  | (.string bytes, d) => bytes.length + uptoBulk d + 1
  | (_, d) => uptoBulk d + 1
 end
def uptoSmall : (H : Type) → List (DataW H) → Bool := fun _ ds => decide (uptoBulkAll ds ≤ 1048576)
def OpenSpec.upto (s : _root_.Go.ChangeSpec) : _root_.Go.OpenSpec := { _root_.Go.OpenSpec.ofChange s with cond := some uptoSmall }

/-- 'laws.FnStoOk', WHERE WHAT IT READS IS OF BULK AT MOST 1048576: true; the input reads as it did. -/
def fnStoOkUptoRow : OpenClaim := { program := "ytkjeicijcecmlaadoor", sum := "ac8a815eb393b508bb7b88a98a6121256d2dea2888064a1377559bfd384cd1b0", func := "loop.example/janitor/laws.FnStoOk", spec := "fnStoOk", inPlace := ["internal/bytealg.IndexByteString", "internal/bytealg.IndexString"], unfollowed := true, recurses := true, named := ["unicode/utf8.first", "unicode/utf8.acceptRanges", "internal/bytealg.MaxLen"], apart := false, laid := [("unicode/utf8.acceptRanges", laid_unicode_utf8_acceptRanges), ("unicode/utf8.first", laid_unicode_utf8_first)], narrowed := true }
def FnStoOkUptoSaid : Prop := fnStoOkUptoRow.holds Tryd.pinned (OpenSpec.upto fnStoOkSpec)

/-- 'laws.FnStoDo', WHERE WHAT IT READS IS OF BULK AT MOST 1048576: true; the input reads as it did. -/
def fnStoDoUptoRow : OpenClaim := { program := "ytkjeicijcecmlaadoor", sum := "ac8a815eb393b508bb7b88a98a6121256d2dea2888064a1377559bfd384cd1b0", func := "loop.example/janitor/laws.FnStoDo", spec := "fnStoDo", inPlace := ["internal/bytealg.IndexByteString", "internal/bytealg.IndexString", "internal/bytealg.abigen_runtime_cmpstring", "slices.overlaps[loop.example/janitor/impl.StoItem]"], unfollowed := true, recurses := true, named := ["unicode/utf8.first", "unicode/utf8.acceptRanges", "internal/bytealg.MaxLen"], apart := false, laid := [("unicode/utf8.acceptRanges", laid_unicode_utf8_acceptRanges), ("unicode/utf8.first", laid_unicode_utf8_first)], narrowed := true }
def FnStoDoUptoSaid : Prop := fnStoDoUptoRow.holds Tryd.pinned (OpenSpec.upto fnStoDoSpec)

/-- 'laws.FnExactStoDo', WHERE WHAT IT READS IS OF BULK AT MOST 1048576: true; the input reads as it did. -/
def fnExactStoDoUptoRow : OpenClaim := { program := "ytkjeicijcecmlaadoor", sum := "ac8a815eb393b508bb7b88a98a6121256d2dea2888064a1377559bfd384cd1b0", func := "loop.example/janitor/laws.FnExactStoDo", spec := "fnExactStoDo", inPlace := ["internal/bytealg.IndexByteString", "internal/bytealg.IndexString", "internal/bytealg.abigen_runtime_cmpstring", "slices.overlaps[loop.example/janitor/impl.StoItem]"], unfollowed := true, recurses := true, named := ["unicode/utf8.first", "unicode/utf8.acceptRanges", "internal/bytealg.MaxLen"], apart := false, laid := [("unicode/utf8.acceptRanges", laid_unicode_utf8_acceptRanges), ("unicode/utf8.first", laid_unicode_utf8_first)], narrowed := true }
def FnExactStoDoUptoSaid : Prop := fnExactStoDoUptoRow.holds Tryd.pinned (OpenSpec.upto fnExactStoDoSpec)

/-- 'laws.FnExactDiskOpen', WHERE WHAT IT READS IS OF BULK AT MOST 1048576: true; the input reads as it did. -/
def fnExactDiskOpenUptoRow : OpenClaim := { program := "ytkjeicijcecmlaadoor", sum := "ac8a815eb393b508bb7b88a98a6121256d2dea2888064a1377559bfd384cd1b0", func := "loop.example/janitor/laws.FnExactDiskOpen", spec := "fnExactDiskOpen", inPlace := ["internal/bytealg.IndexByteString", "internal/bytealg.IndexString"], unfollowed := true, recurses := true, named := ["unicode/utf8.first", "unicode/utf8.acceptRanges", "internal/bytealg.MaxLen"], apart := false, laid := [("unicode/utf8.acceptRanges", laid_unicode_utf8_acceptRanges), ("unicode/utf8.first", laid_unicode_utf8_first)], narrowed := true }
def FnExactDiskOpenUptoSaid : Prop := fnExactDiskOpenUptoRow.holds Tryd.pinned (OpenSpec.upto fnExactDiskOpenSpec)

/-- 'laws.FnExactDiskLocks', WHERE WHAT IT READS IS OF BULK AT MOST 1048576: true; the input reads as it did. -/
def fnExactDiskLocksUptoRow : OpenClaim := { program := "ytkjeicijcecmlaadoor", sum := "ac8a815eb393b508bb7b88a98a6121256d2dea2888064a1377559bfd384cd1b0", func := "loop.example/janitor/laws.FnExactDiskLocks", spec := "fnExactDiskLocks", inPlace := ["internal/bytealg.IndexByteString", "internal/bytealg.IndexString"], unfollowed := true, recurses := true, named := ["unicode/utf8.first", "unicode/utf8.acceptRanges", "internal/bytealg.MaxLen"], apart := false, laid := [("unicode/utf8.acceptRanges", laid_unicode_utf8_acceptRanges), ("unicode/utf8.first", laid_unicode_utf8_first)], narrowed := true }
def FnExactDiskLocksUptoSaid : Prop := fnExactDiskLocksUptoRow.holds Tryd.pinned (OpenSpec.upto fnExactDiskLocksSpec)

/-- 'laws.FnExactDiskAdd', WHERE WHAT IT READS IS OF BULK AT MOST 1048576: true; the input reads as it did. -/
def fnExactDiskAddUptoRow : OpenClaim := { program := "ytkjeicijcecmlaadoor", sum := "ac8a815eb393b508bb7b88a98a6121256d2dea2888064a1377559bfd384cd1b0", func := "loop.example/janitor/laws.FnExactDiskAdd", spec := "fnExactDiskAdd", inPlace := ["internal/bytealg.IndexByteString", "internal/bytealg.IndexString"], unfollowed := true, recurses := true, named := ["unicode/utf8.first", "unicode/utf8.acceptRanges", "internal/bytealg.MaxLen"], apart := false, laid := [("unicode/utf8.acceptRanges", laid_unicode_utf8_acceptRanges), ("unicode/utf8.first", laid_unicode_utf8_first)], narrowed := true }
def FnExactDiskAddUptoSaid : Prop := fnExactDiskAddUptoRow.holds Tryd.pinned (OpenSpec.upto fnExactDiskAddSpec)

/-- 'laws.FnExactDiskFall', WHERE WHAT IT READS IS OF BULK AT MOST 1048576: true; the input reads as it did. -/
def fnExactDiskFallUptoRow : OpenClaim := { program := "ytkjeicijcecmlaadoor", sum := "ac8a815eb393b508bb7b88a98a6121256d2dea2888064a1377559bfd384cd1b0", func := "loop.example/janitor/laws.FnExactDiskFall", spec := "fnExactDiskFall", inPlace := ["internal/bytealg.IndexByteString", "internal/bytealg.IndexString"], unfollowed := true, recurses := true, named := ["unicode/utf8.first", "unicode/utf8.acceptRanges", "internal/bytealg.MaxLen"], apart := false, laid := [("unicode/utf8.acceptRanges", laid_unicode_utf8_acceptRanges), ("unicode/utf8.first", laid_unicode_utf8_first)], narrowed := true }
def FnExactDiskFallUptoSaid : Prop := fnExactDiskFallUptoRow.holds Tryd.pinned (OpenSpec.upto fnExactDiskFallSpec)

/-- 'laws.FnDiskOpen', WHERE WHAT IT READS IS OF BULK AT MOST 1048576: true; the input reads as it did. -/
def fnDiskOpenUptoRow : OpenClaim := { program := "ytkjeicijcecmlaadoor", sum := "ac8a815eb393b508bb7b88a98a6121256d2dea2888064a1377559bfd384cd1b0", func := "loop.example/janitor/laws.FnDiskOpen", spec := "fnDiskOpen", inPlace := ["internal/bytealg.IndexByteString", "internal/bytealg.IndexString"], unfollowed := true, recurses := true, named := ["unicode/utf8.first", "unicode/utf8.acceptRanges", "internal/bytealg.MaxLen"], apart := false, laid := [("unicode/utf8.acceptRanges", laid_unicode_utf8_acceptRanges), ("unicode/utf8.first", laid_unicode_utf8_first)], narrowed := true }
def FnDiskOpenUptoSaid : Prop := fnDiskOpenUptoRow.holds Tryd.pinned (OpenSpec.upto fnDiskOpenSpec)

/-- 'laws.FnExactPlcTick', WHERE WHAT IT READS IS OF BULK AT MOST 1048576: true; the input reads as it did. -/
def fnExactPlcTickUptoRow : OpenClaim := { program := "ytkjeicijcecmlaadoor", sum := "ac8a815eb393b508bb7b88a98a6121256d2dea2888064a1377559bfd384cd1b0", func := "loop.example/janitor/laws.FnExactPlcTick", spec := "fnExactPlcTick", inPlace := ["internal/bytealg.IndexByteString", "internal/bytealg.IndexString"], unfollowed := true, recurses := true, named := ["unicode/utf8.first", "unicode/utf8.acceptRanges", "internal/bytealg.MaxLen"], apart := false, laid := [("unicode/utf8.acceptRanges", laid_unicode_utf8_acceptRanges), ("unicode/utf8.first", laid_unicode_utf8_first)], narrowed := true }
def FnExactPlcTickUptoSaid : Prop := fnExactPlcTickUptoRow.holds Tryd.pinned (OpenSpec.upto fnExactPlcTickSpec)

/-- 'laws.FnDiskFold', WHERE WHAT IT READS IS OF BULK AT MOST 1048576: true; the input reads as it did. -/
def fnDiskFoldUptoRow : OpenClaim := { program := "ytkjeicijcecmlaadoor", sum := "ac8a815eb393b508bb7b88a98a6121256d2dea2888064a1377559bfd384cd1b0", func := "loop.example/janitor/laws.FnDiskFold", spec := "fnDiskFold", inPlace := ["internal/bytealg.IndexByteString", "internal/bytealg.IndexString", "internal/bytealg.abigen_runtime_cmpstring", "slices.overlaps[loop.example/janitor/impl.StoItem]"], unfollowed := true, recurses := true, named := ["unicode/utf8.first", "unicode/utf8.acceptRanges", "internal/bytealg.MaxLen"], apart := false, laid := [("unicode/utf8.acceptRanges", laid_unicode_utf8_acceptRanges), ("unicode/utf8.first", laid_unicode_utf8_first)], narrowed := true }
def FnDiskFoldUptoSaid : Prop := fnDiskFoldUptoRow.holds Tryd.pinned (OpenSpec.upto fnDiskFoldSpec)

end Rows
end Go.Proofs.YtkjeicijcecmlaaDoor
