-- Written by wip/xprint.py (this repo's program) over the kit's print; functions named in wip/hand are proved by hand.
import Derived.Test.YtopoiinmhajhmaaDoorXx0
namespace Go.Proofs.YtopoiinmhajhmaaDoor.X
open Go.RowKit Go.Proofs.YtopoiinmhajhmaaDoor.H Go.Proofs.YtopoiinmhajhmaaDoorW.PrintWords Go.Proofs.YtopoiinmhajhmaaDoorW.PrintLast Go.Proofs.YtopoiinmhajhmaaDoorW.PrintMore
attribute [local go_sem] max2_int min2_int max_two min_two max_three min_three max_four min_four   -- for this text's walks alone
set_option linter.unusedVariables false
set_option linter.unusedSimpArgs false

/-! ### PLAIN sto -/
abbrev Item := S88
abbrev kItem : Kd Item := k88
abbrev rdI (l : List Item) (i : Int) : Item := rd_T88 l i
def itemOk1 (x : Item) : Bool := keyOk x.f0 && valOk x.f1
/-- Is item k of a store ok, beside the one ahead of it? -/
def okAt (l : List Item) (k : Nat) : Bool := itemOk1 (rdI l k) && (k == 0 || lessB (rdI l ((k : Int) - 1)).f0 (rdI l k).f0)
def stoOk (l : List Item) : Bool := (List.range l.length).all (okAt l) && decide (l.length ≤ 40)
theorem stoOk_bad {l : List Item} {k : Nat} (hk : k < l.length) (h : okAt l k = false) : stoOk l = false := by
  unfold stoOk
  rw [Bool.and_eq_false_iff]
  left
  rw [List.all_eq_false]
  exact ⟨k, List.mem_range.2 hk, by rw [h]; simp⟩
theorem stoOk_good {l : List Item} (h : ∀ k, k < l.length → okAt l k = true) : stoOk l = decide (l.length ≤ 40) := by
  unfold stoOk
  rw [List.all_eq_true.2 (fun k hk => h k (List.mem_range.1 hk))]
  simp

end Go.Proofs.YtopoiinmhajhmaaDoor.X
