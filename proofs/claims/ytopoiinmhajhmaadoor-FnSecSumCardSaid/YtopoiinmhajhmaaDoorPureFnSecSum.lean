/- FnSecSum returns true for all drawn inputs: two secrets have two digests, none is the secret itself, of what is none it is -1. No conditions. -/
import Derived.Test.YtopoiinmhajhmaaDoorXxf15
import Derived.Test.YtopoiinmhajhmaaDoorXxf16
import Derived.Test.YtopoiinmhajhmaaDoorXxf17
import Derived.Test.YtopoiinmhajhmaaDoorXxf3
import Derived.Test.YtopoiinmhajhmaaDoorXxf60
import Derived.Test.YtopoiinmhajhmaaDoorXxpdraw
import Derived.Test.YtopoiinmhajhmaaDoorXxpja
import Derived.Test.YtopoiinmhajhmaaDoorXxpl1
namespace Go.Proofs.YtopoiinmhajhmaaDoor.Pure
open Go.RowKit Go.Proofs.YtopoiinmhajhmaaDoor.H Go.Proofs.YtopoiinmhajhmaaDoor.X Go.Proofs.YtopoiinmhajhmaaDoorW.PrintWords Go.Proofs.YtopoiinmhajhmaaDoorW.PrintLast Go.Proofs.YtopoiinmhajhmaaDoorW.PrintMore
theorem in_f (x a b : Int) : impl_in.f x a b = some (decide (a ≤ x) && decide (x ≤ b)) := by
  unfold impl_in.f
  by_cases e : a ≤ x
  · rw [if_pos e]; simp [e]
  · rw [if_neg e]; simp [e]
def sum (a : Int) : Int := if 0 ≤ a ∧ a ≤ 99 then (7919 * a + 104) % 9973 else -1
theorem impl_sum (a : Int) (h1 : -1 ≤ a) (h2 : a ≤ 100) : impl_SecSum.f a = some (sum a) := by
  unfold impl_SecSum.f sum
  rw [in_f]
  simp only [Option.bind_some]
  by_cases h : 0 ≤ a ∧ a ≤ 99
  · rw [if_pos h, if_pos (by simp; exact h), w64 (x := 7919 * a) (by omega) (by omega), w64 (x := 7919 * a + 104) (by omega) (by omega), Int.tmod_eq_emod_of_nonneg (by omega)]
  · rw [if_neg h, if_neg (by simp; omega)]
theorem spec_sum (a : Int) (h1 : -1 ≤ a) (h2 : a ≤ 100) : spec_SecSum.f a = some (sum a) := by
  unfold spec_SecSum.f sum
  rw [l1In_f]
  simp only [Option.bind_some]
  by_cases h : 0 ≤ a ∧ a ≤ 99
  · rw [if_pos h, if_pos (by simp; exact h), Int.mul_comm a, w64 (x := 7919 * a) (by omega) (by omega), w64 (x := 7919 * a + 104) (by omega) (by omega), Int.tmod_eq_emod_of_nonneg (by omega)]
  · rw [if_neg h, if_neg (by simp; omega)]
theorem draw_sum (l : List Int) (h : ∀ x ∈ l, (Lit.int .u8 x).wf = true) : ∃ a, (∀ k, 1 ≤ k → spec_DrawSecSum.f k l = some a) ∧ -1 ≤ a ∧ a ≤ 100 := by
  obtain ⟨b, hb, ho⟩ := open_f l h
  obtain ⟨v, hv, h0, h1, _⟩ := pick_f b 0 102 ho
  have := h1 (by omega)
  refine ⟨v - 1, fun k hk => ?_, by omega, by omega⟩
  unfold spec_DrawSecSum.f
  rw [hb]
  simp only [Option.bind_some]
  rw [hv k hk]
  simp only [Option.bind_some]
  rw [w64 (by omega) (by omega)]
theorem FnSecSum : laws_FnSecSum.Pure := by
  intro l0 l1 _ _ w0 _ _ w1
  refine ⟨3, ?_⟩
  unfold laws_FnSecSum.f
  have key : ∀ c : Bool, laws_FnSecSum.j0 3 l0 l1 c = some true := by
    intro c
    simp only [laws_FnSecSum.j0]
    cases c with
    | true => rfl
    | false =>
      rw [if_neg (by decide)]
      obtain ⟨a, ha, a0, a1⟩ := draw_sum l0 w0
      obtain ⟨b, hb, b0, b1⟩ := draw_sum l1 w1
      rw [ha 2 (by omega), hb 2 (by omega)]
      simp only [Option.bind_some]
      rw [impl_sum a a0 a1, spec_sum a a0 a1]
      simp only [Option.bind_some, if_true]
      have j1t : laws_FnSecSum.j1 2 a b (sum a) true = some true ∨ (0 ≤ a ∧ a ≤ 99) := by
        by_cases h : 0 ≤ a ∧ a ≤ 99
        · exact .inr h
        · left
          simp only [laws_FnSecSum.j1, if_true]
          rw [show sum a = -1 by unfold sum; rw [if_neg h], jaOk_f]
          rfl
      have j1f : 0 ≤ a → a ≤ 99 → laws_FnSecSum.j1 2 a b (sum a) false = some true := by
        intro h1 h2
        simp only [laws_FnSecSum.j1]
        rw [if_neg (by decide)]
        have hs : sum a = (7919 * a + 104) % 9973 := by unfold sum; rw [if_pos ⟨h1, h2⟩]
        rw [if_pos (by omega), if_pos (by omega), if_neg (by omega)]
        by_cases hb1 : b < 0
        · rw [if_pos hb1]
        · rw [if_neg hb1]
          by_cases hb2 : b > 99
          · rw [if_pos hb2]
          · rw [if_neg hb2, impl_sum b b0 b1]
            simp only [Option.bind_some]
            have hs2 : sum b = (7919 * b + 104) % 9973 := by unfold sum; rw [if_pos ⟨by omega, by omega⟩]
            by_cases e : a = b
            · subst e; simp
            · have : ¬ sum b = sum a := by omega
              rw [beq_eq_false_iff_ne.2 this, beq_eq_false_iff_ne.2 e]; rfl
      by_cases hneg : a < 0
      · rw [if_pos hneg]
        rcases j1t with h | h
        · exact h
        · omega
      · rw [if_neg hneg]
        by_cases h99 : a > 99
        · rw [decide_eq_true h99]
          rcases j1t with h | h
          · exact h
          · omega
        · rw [decide_eq_false h99]
          exact j1f (by omega) (by omega)
  by_cases h : (l0.length : Int) > 1048576
  · rw [if_pos h]; exact key _
  · rw [if_neg h]; exact key _
end Go.Proofs.YtopoiinmhajhmaaDoor.Pure
