/-
  NARROWER THAN 'FOR EVERY INPUT', by the rows' own cells (each row's printed sentence says how): FnStoDo: laid · FnExactStoDo: laid · FnStoTwo: laid · FnStoAgain: laid · FnDiskFold: laid.
  DERIVED. THE GIVEN ROWS OF THIS SEAT. 5 by the template 'for every input the law returns true; each argument reads behind the call as it read before'; 0 by the template 'total and deterministic' (their statements: YtjoggjjjlafdmaaDoorTotals.lean).
  GIVEN WITH THE SEED: the statements are not yours to turn. If you find one false, say at which input.
  Laid BY PROGRAM, IN A SANDBOX (cutbox-rows.mjs): the forced cells as the released guide's own fill.sh prints them over the translation f08c5088a09dce24… (all of the seat's roots in one cut). By AI agents, Wed Nov 11 2026. No macro, syntax, notation, axiom, sorry.
-/
import Derived.Test.YtjoggjjjlafdmaaDoorChecked
import GoSem.PinnedTables
import GoSem.Claim
import GoSem.ClaimJoined
import GoSem.ClaimMapViews
import Derived.JoinedTies
import Derived.KernelRfl
namespace Go.Proofs.YtjoggjjjlafdmaaDoor
/- THE CELL 'sum', in the pinned program and in every row, IS THE sha256 OF THE DUMP (.gsa) THAT YtjoggjjjlafdmaaDoorProg.lean LOADS. Nothing in Lean hashes anything: it is a label: what it is worth is what the hold of that sum in a sandbox is worth. -/
noncomputable def Tryd.pinned : Pinned := { name := "ytjoggjjjlafdmaadoor", sum := "f08c5088a09dce240e5cca52d8cd35709def09b53e317e182516f0e8b24dfd57", checked := Tryd.checked }
namespace Rows
def none {H : Type} : Left H := { results := [], args := [] }

/- WHAT THE LISTED PACKAGE-LEVEL VARIABLES READ AS WHEN THE CALL BEGINS. Each datum BY PROGRAM (the guide's laid-datum.mjs) off the statement by which the dump's own 'gosem.cut.vars' lays the variable. In a bare row this is a premise. The card (YtjoggjjjlafdmaaDoorCards.lean) ties it to the program's text. -/
def laid_unicode_utf8_acceptRanges {H : Type} : DataW H := .agg [.agg [.lit (.int .u8 128), .lit (.int .u8 191)], .agg [.lit (.int .u8 160), .lit (.int .u8 191)], .agg [.lit (.int .u8 128), .lit (.int .u8 159)], .agg [.lit (.int .u8 144), .lit (.int .u8 191)], .agg [.lit (.int .u8 128), .lit (.int .u8 143)], .agg [.lit (.int .u8 0), .lit (.int .u8 0)], .agg [.lit (.int .u8 0), .lit (.int .u8 0)], .agg [.lit (.int .u8 0), .lit (.int .u8 0)], .agg [.lit (.int .u8 0), .lit (.int .u8 0)], .agg [.lit (.int .u8 0), .lit (.int .u8 0)], .agg [.lit (.int .u8 0), .lit (.int .u8 0)], .agg [.lit (.int .u8 0), .lit (.int .u8 0)], .agg [.lit (.int .u8 0), .lit (.int .u8 0)], .agg [.lit (.int .u8 0), .lit (.int .u8 0)], .agg [.lit (.int .u8 0), .lit (.int .u8 0)], .agg [.lit (.int .u8 0), .lit (.int .u8 0)]]
/-- One of Go's own tables, pinned by name: the form's constant. -/
def laid_unicode_utf8_first : DataW Unit := Go.Pinned.utf8First

/-- 'laws.FnStoDo': WHATEVER THE INPUT: true; the input reads as it did. -/
def fnStoDoSpec : ChangeSpec := { name := "fnStoDo", fn := fun _ => fun
  | [d] => { results := [.lit (.bool true)], args := [d] }
  | _ => none }
def fnStoDoRow : OpenClaim := { program := "ytjoggjjjlafdmaadoor", sum := "f08c5088a09dce240e5cca52d8cd35709def09b53e317e182516f0e8b24dfd57", func := "loop.example/janitor/laws.FnStoDo", spec := "fnStoDo", inPlace := ["internal/bytealg.IndexByteString", "internal/bytealg.IndexString", "internal/bytealg.abigen_runtime_cmpstring", "slices.overlaps[loop.example/janitor/impl.StoItem]"], unfollowed := true, recurses := true, named := ["unicode/utf8.first", "unicode/utf8.acceptRanges", "internal/bytealg.MaxLen"], apart := false, laid := [("unicode/utf8.acceptRanges", laid_unicode_utf8_acceptRanges), ("unicode/utf8.first", laid_unicode_utf8_first)] }
def FnStoDoSaid : Prop := fnStoDoRow.holds Tryd.pinned (OpenSpec.ofChange fnStoDoSpec)

/-- ITS FALSE NEIGHBOUR: 'it returns false'. Refute it at one input. -/
def fnStoDoWrong : ChangeSpec := { name := "fnStoDo", fn := fun _ => fun
  | [d] => { results := [.lit (.bool false)], args := [d] }
  | _ => none }
def FnStoDoWrongFalsely : Prop := fnStoDoRow.holds Tryd.pinned (OpenSpec.ofChange fnStoDoWrong)

/-- 'laws.FnExactStoDo': WHATEVER THE INPUT: true; the input reads as it did. -/
def fnExactStoDoSpec : ChangeSpec := { name := "fnExactStoDo", fn := fun _ => fun
  | [d1, d2] => { results := [.lit (.bool true)], args := [d1, d2] }
  | _ => none }
def fnExactStoDoRow : OpenClaim := { program := "ytjoggjjjlafdmaadoor", sum := "f08c5088a09dce240e5cca52d8cd35709def09b53e317e182516f0e8b24dfd57", func := "loop.example/janitor/laws.FnExactStoDo", spec := "fnExactStoDo", inPlace := ["internal/bytealg.IndexByteString", "internal/bytealg.IndexString", "internal/bytealg.abigen_runtime_cmpstring", "slices.overlaps[loop.example/janitor/impl.StoItem]"], unfollowed := true, recurses := true, named := ["unicode/utf8.first", "unicode/utf8.acceptRanges", "internal/bytealg.MaxLen"], apart := false, laid := [("unicode/utf8.acceptRanges", laid_unicode_utf8_acceptRanges), ("unicode/utf8.first", laid_unicode_utf8_first)] }
def FnExactStoDoSaid : Prop := fnExactStoDoRow.holds Tryd.pinned (OpenSpec.ofChange fnExactStoDoSpec)

/-- ITS FALSE NEIGHBOUR: 'it returns false'. Refute it at one input. -/
def fnExactStoDoWrong : ChangeSpec := { name := "fnExactStoDo", fn := fun _ => fun
  | [d1, d2] => { results := [.lit (.bool false)], args := [d1, d2] }
  | _ => none }
def FnExactStoDoWrongFalsely : Prop := fnExactStoDoRow.holds Tryd.pinned (OpenSpec.ofChange fnExactStoDoWrong)

/-- 'laws.FnStoTwo': WHATEVER THE INPUT: true; the input reads as it did. -/
def fnStoTwoSpec : ChangeSpec := { name := "fnStoTwo", fn := fun _ => fun
  | [d1, d2] => { results := [.lit (.bool true)], args := [d1, d2] }
  | _ => none }
def fnStoTwoRow : OpenClaim := { program := "ytjoggjjjlafdmaadoor", sum := "f08c5088a09dce240e5cca52d8cd35709def09b53e317e182516f0e8b24dfd57", func := "loop.example/janitor/laws.FnStoTwo", spec := "fnStoTwo", inPlace := ["internal/bytealg.IndexByteString", "internal/bytealg.IndexString", "internal/bytealg.abigen_runtime_cmpstring", "slices.overlaps[loop.example/janitor/impl.StoItem]"], unfollowed := true, recurses := true, named := ["unicode/utf8.first", "unicode/utf8.acceptRanges", "internal/bytealg.MaxLen"], apart := false, laid := [("unicode/utf8.acceptRanges", laid_unicode_utf8_acceptRanges), ("unicode/utf8.first", laid_unicode_utf8_first)] }
def FnStoTwoSaid : Prop := fnStoTwoRow.holds Tryd.pinned (OpenSpec.ofChange fnStoTwoSpec)

/-- ITS FALSE NEIGHBOUR: 'it returns false'. Refute it at one input. -/
def fnStoTwoWrong : ChangeSpec := { name := "fnStoTwo", fn := fun _ => fun
  | [d1, d2] => { results := [.lit (.bool false)], args := [d1, d2] }
  | _ => none }
def FnStoTwoWrongFalsely : Prop := fnStoTwoRow.holds Tryd.pinned (OpenSpec.ofChange fnStoTwoWrong)

/-- 'laws.FnStoAgain': WHATEVER THE INPUT: true; the input reads as it did. -/
def fnStoAgainSpec : ChangeSpec := { name := "fnStoAgain", fn := fun _ => fun
  | [d] => { results := [.lit (.bool true)], args := [d] }
  | _ => none }
def fnStoAgainRow : OpenClaim := { program := "ytjoggjjjlafdmaadoor", sum := "f08c5088a09dce240e5cca52d8cd35709def09b53e317e182516f0e8b24dfd57", func := "loop.example/janitor/laws.FnStoAgain", spec := "fnStoAgain", inPlace := ["internal/bytealg.IndexByteString", "internal/bytealg.IndexString", "internal/bytealg.abigen_runtime_cmpstring", "slices.overlaps[loop.example/janitor/impl.StoItem]"], unfollowed := true, recurses := true, named := ["unicode/utf8.first", "unicode/utf8.acceptRanges", "internal/bytealg.MaxLen"], apart := false, laid := [("unicode/utf8.acceptRanges", laid_unicode_utf8_acceptRanges), ("unicode/utf8.first", laid_unicode_utf8_first)] }
def FnStoAgainSaid : Prop := fnStoAgainRow.holds Tryd.pinned (OpenSpec.ofChange fnStoAgainSpec)

/-- ITS FALSE NEIGHBOUR: 'it returns false'. Refute it at one input. -/
def fnStoAgainWrong : ChangeSpec := { name := "fnStoAgain", fn := fun _ => fun
  | [d] => { results := [.lit (.bool false)], args := [d] }
  | _ => none }
def FnStoAgainWrongFalsely : Prop := fnStoAgainRow.holds Tryd.pinned (OpenSpec.ofChange fnStoAgainWrong)

/-- 'laws.FnDiskFold': WHATEVER THE INPUT: true; the input reads as it did. -/
def fnDiskFoldSpec : ChangeSpec := { name := "fnDiskFold", fn := fun _ => fun
  | [d] => { results := [.lit (.bool true)], args := [d] }
  | _ => none }
def fnDiskFoldRow : OpenClaim := { program := "ytjoggjjjlafdmaadoor", sum := "f08c5088a09dce240e5cca52d8cd35709def09b53e317e182516f0e8b24dfd57", func := "loop.example/janitor/laws.FnDiskFold", spec := "fnDiskFold", inPlace := ["internal/bytealg.IndexByteString", "internal/bytealg.IndexString", "internal/bytealg.abigen_runtime_cmpstring", "slices.overlaps[loop.example/janitor/impl.StoItem]"], unfollowed := true, recurses := true, named := ["unicode/utf8.first", "unicode/utf8.acceptRanges", "internal/bytealg.MaxLen"], apart := false, laid := [("unicode/utf8.acceptRanges", laid_unicode_utf8_acceptRanges), ("unicode/utf8.first", laid_unicode_utf8_first)] }
def FnDiskFoldSaid : Prop := fnDiskFoldRow.holds Tryd.pinned (OpenSpec.ofChange fnDiskFoldSpec)

/-- ITS FALSE NEIGHBOUR: 'it returns false'. Refute it at one input. -/
def fnDiskFoldWrong : ChangeSpec := { name := "fnDiskFold", fn := fun _ => fun
  | [d] => { results := [.lit (.bool false)], args := [d] }
  | _ => none }
def FnDiskFoldWrongFalsely : Prop := fnDiskFoldRow.holds Tryd.pinned (OpenSpec.ofChange fnDiskFoldWrong)

/- THE SECOND FORM. 'bulk': how many values and letters a reading holds, each counted each time it is reached (what is shared counts as often as it is met; a slice's spare places count too). A statement '..UptoSaid' is the law's where the arguments, and the package variables that the reading takes, are together of bulk at most 1048576: NARROWER than '..Said'. Prove '..Said' where nothing that the law and all that it calls make is longer than what came in: it says more and counts as full. Else prove '..UptoSaid'. A law counts once. -/
mutual
def uptoBulk {H : Type} : DataW H → Nat
  | .lit (.string bytes) => bytes.length + 1
  | .lit _ => 1
  | .nil => 1
  | .ptr d => uptoBulk d + 1
  | .slice elems spare => uptoBulkAll elems + uptoBulkAll spare + 1
  | .agg parts => uptoBulkAll parts + 1
  | .iface _ d => uptoBulk d + 1
  | .map entries => uptoBulkEntries entries + 1
  | .held _ => 1
def uptoBulkAll {H : Type} : List (DataW H) → Nat
  | [] => 0
  | d :: r => uptoBulk d + uptoBulkAll r
def uptoBulkEntries {H : Type} : List (Lit × DataW H) → Nat
  | [] => 0
  | x :: r => uptoBulkEntry x + uptoBulkEntries r
def uptoBulkEntry {H : Type} : Lit × DataW H → Nat
  | (.string bytes, d) => bytes.length + uptoBulk d + 1
  | (_, d) => uptoBulk d + 1
 end
def uptoSmall : (H : Type) → List (DataW H) → Bool := fun _ ds => decide (uptoBulkAll ds ≤ 1048576)
def OpenSpec.upto (s : _root_.Go.ChangeSpec) : _root_.Go.OpenSpec := { _root_.Go.OpenSpec.ofChange s with cond := some uptoSmall }

/-- 'laws.FnStoDo', WHERE WHAT IT READS IS OF BULK AT MOST 1048576: true; the input reads as it did. -/
def fnStoDoUptoRow : OpenClaim := { program := "ytjoggjjjlafdmaadoor", sum := "f08c5088a09dce240e5cca52d8cd35709def09b53e317e182516f0e8b24dfd57", func := "loop.example/janitor/laws.FnStoDo", spec := "fnStoDo", inPlace := ["internal/bytealg.IndexByteString", "internal/bytealg.IndexString", "internal/bytealg.abigen_runtime_cmpstring", "slices.overlaps[loop.example/janitor/impl.StoItem]"], unfollowed := true, recurses := true, named := ["unicode/utf8.first", "unicode/utf8.acceptRanges", "internal/bytealg.MaxLen"], apart := false, laid := [("unicode/utf8.acceptRanges", laid_unicode_utf8_acceptRanges), ("unicode/utf8.first", laid_unicode_utf8_first)], narrowed := true }
def FnStoDoUptoSaid : Prop := fnStoDoUptoRow.holds Tryd.pinned (OpenSpec.upto fnStoDoSpec)

/-- 'laws.FnExactStoDo', WHERE WHAT IT READS IS OF BULK AT MOST 1048576: true; the input reads as it did. -/
def fnExactStoDoUptoRow : OpenClaim := { program := "ytjoggjjjlafdmaadoor", sum := "f08c5088a09dce240e5cca52d8cd35709def09b53e317e182516f0e8b24dfd57", func := "loop.example/janitor/laws.FnExactStoDo", spec := "fnExactStoDo", inPlace := ["internal/bytealg.IndexByteString", "internal/bytealg.IndexString", "internal/bytealg.abigen_runtime_cmpstring", "slices.overlaps[loop.example/janitor/impl.StoItem]"], unfollowed := true, recurses := true, named := ["unicode/utf8.first", "unicode/utf8.acceptRanges", "internal/bytealg.MaxLen"], apart := false, laid := [("unicode/utf8.acceptRanges", laid_unicode_utf8_acceptRanges), ("unicode/utf8.first", laid_unicode_utf8_first)], narrowed := true }
def FnExactStoDoUptoSaid : Prop := fnExactStoDoUptoRow.holds Tryd.pinned (OpenSpec.upto fnExactStoDoSpec)

/-- 'laws.FnStoTwo', WHERE WHAT IT READS IS OF BULK AT MOST 1048576: true; the input reads as it did. -/
def fnStoTwoUptoRow : OpenClaim := { program := "ytjoggjjjlafdmaadoor", sum := "f08c5088a09dce240e5cca52d8cd35709def09b53e317e182516f0e8b24dfd57", func := "loop.example/janitor/laws.FnStoTwo", spec := "fnStoTwo", inPlace := ["internal/bytealg.IndexByteString", "internal/bytealg.IndexString", "internal/bytealg.abigen_runtime_cmpstring", "slices.overlaps[loop.example/janitor/impl.StoItem]"], unfollowed := true, recurses := true, named := ["unicode/utf8.first", "unicode/utf8.acceptRanges", "internal/bytealg.MaxLen"], apart := false, laid := [("unicode/utf8.acceptRanges", laid_unicode_utf8_acceptRanges), ("unicode/utf8.first", laid_unicode_utf8_first)], narrowed := true }
def FnStoTwoUptoSaid : Prop := fnStoTwoUptoRow.holds Tryd.pinned (OpenSpec.upto fnStoTwoSpec)

/-- 'laws.FnStoAgain', WHERE WHAT IT READS IS OF BULK AT MOST 1048576: true; the input reads as it did. -/
def fnStoAgainUptoRow : OpenClaim := { program := "ytjoggjjjlafdmaadoor", sum := "f08c5088a09dce240e5cca52d8cd35709def09b53e317e182516f0e8b24dfd57", func := "loop.example/janitor/laws.FnStoAgain", spec := "fnStoAgain", inPlace := ["internal/bytealg.IndexByteString", "internal/bytealg.IndexString", "internal/bytealg.abigen_runtime_cmpstring", "slices.overlaps[loop.example/janitor/impl.StoItem]"], unfollowed := true, recurses := true, named := ["unicode/utf8.first", "unicode/utf8.acceptRanges", "internal/bytealg.MaxLen"], apart := false, laid := [("unicode/utf8.acceptRanges", laid_unicode_utf8_acceptRanges), ("unicode/utf8.first", laid_unicode_utf8_first)], narrowed := true }
def FnStoAgainUptoSaid : Prop := fnStoAgainUptoRow.holds Tryd.pinned (OpenSpec.upto fnStoAgainSpec)

/-- 'laws.FnDiskFold', WHERE WHAT IT READS IS OF BULK AT MOST 1048576: true; the input reads as it did. -/
def fnDiskFoldUptoRow : OpenClaim := { program := "ytjoggjjjlafdmaadoor", sum := "f08c5088a09dce240e5cca52d8cd35709def09b53e317e182516f0e8b24dfd57", func := "loop.example/janitor/laws.FnDiskFold", spec := "fnDiskFold", inPlace := ["internal/bytealg.IndexByteString", "internal/bytealg.IndexString", "internal/bytealg.abigen_runtime_cmpstring", "slices.overlaps[loop.example/janitor/impl.StoItem]"], unfollowed := true, recurses := true, named := ["unicode/utf8.first", "unicode/utf8.acceptRanges", "internal/bytealg.MaxLen"], apart := false, laid := [("unicode/utf8.acceptRanges", laid_unicode_utf8_acceptRanges), ("unicode/utf8.first", laid_unicode_utf8_first)], narrowed := true }
def FnDiskFoldUptoSaid : Prop := fnDiskFoldUptoRow.holds Tryd.pinned (OpenSpec.upto fnDiskFoldSpec)

end Rows
end Go.Proofs.YtjoggjjjlafdmaaDoor
