/- The world in which the listed package-level variables read as they are listed, for the witnesses of this seat's rows. -/
import Derived.Test.YtedhpmhlmdcpbaaGreatDoorRows
import Derived.LaidLaws
import Derived.LaidHandle
import Derived.Handed
import Derived.KernelRfl
namespace Go.Proofs.YtedhpmhlmdcpbaaGreatDoor.D
open Go
mutual
def leaf : DataW Unit → List Value
  | .lit (.int k n) => [.int k n]
  | .agg ps => leafs ps
  | _ => []
def leafs : List (DataW Unit) → List Value
  | [] => []
  | d :: r => leaf d ++ leafs r
end
def laidAt (g : Nat) (d : DataW Unit) (w : World) : World := { w with heap := w.heap.modify g fun
  | .cells _ t frozen => .cells (leaf d).toArray t frozen
  | o => o }
noncomputable def laidWorld (os : Os) : World := laidAt 0 Rows.laid_unicode_utf8_first (laidAt 1 Rows.laid_unicode_utf8_acceptRanges (World.holding Tryz.prog os ⟨#[], #[], []⟩))
theorem own : ownKnob Tryz.prog.godebug = none := by kernel_rfl
theorem laidOut : laidOutB Tryz.prog = true := by kernel_rfl
def IsRow (k : IntKind) (w : World) (a : Option Addr) (len cap : Nat) (zs : List Int) : Prop :=
  (a = none ∧ len = 0 ∧ cap = 0 ∧ zs = []) ∨
  ∃ x, a = some x ∧ len ≤ cap ∧ cap ≤ maxLen ∧ zs.length = cap ∧ (∀ i, i < zs.length → w.cell? (x.add i) = some (.int k (zs.getD i 0))) ∧ ∀ n ∈ zs, (Lit.int k n).wf = true
end Go.Proofs.YtedhpmhlmdcpbaaGreatDoor.D
