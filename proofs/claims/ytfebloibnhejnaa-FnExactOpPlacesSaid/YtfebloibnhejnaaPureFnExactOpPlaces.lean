/- FnExactOpPlaces returns true: the program's OpPlaces is the reference's, and its memory is its own. No conditions. -/
import Derived.Test.YtfebloibnhejnaaXxf12
import Derived.Test.YtfebloibnhejnaaXxf19
import Derived.Test.YtfebloibnhejnaaXxf20
import Derived.Test.YtfebloibnhejnaaXxf21
import Derived.Test.YtfebloibnhejnaaXxf7
import Derived.Test.YtfebloibnhejnaaXxpplaces
namespace Go.Proofs.Ytfebloibnhejnaa.Pure
open Go.RowKit Go.Proofs.Ytfebloibnhejnaa.H Go.Proofs.Ytfebloibnhejnaa.X Go.Proofs.YtfebloibnhejnaaW.PrintWords Go.Proofs.YtfebloibnhejnaaW.PrintLast Go.Proofs.YtfebloibnhejnaaW.PrintMore
set_option linter.unusedVariables false
theorem marked (L : List Int) (h : L = [] ∨ L = [1, 3] ∨ L = [1, 2, 3] ∨ L = [2, 3]) : laws_eqIntS.f 8 L L = some true ∧ ∃ m M, laws_markIntS.f 8 L 1 = some (m, M) ∧ laws_heldIntS.f 8 M 1 = some m ∧ 0 ≤ m := by
  rcases h with rfl | rfl | rfl | rfl
  · exact ⟨by kernel_rfl, 1, [], by kernel_rfl, by kernel_rfl, by decide⟩
  · exact ⟨by kernel_rfl, 3, [1, 2], by kernel_rfl, by kernel_rfl, by decide⟩
  · exact ⟨by kernel_rfl, 4, [1, 2, 3], by kernel_rfl, by kernel_rfl, by decide⟩
  · exact ⟨by kernel_rfl, 3, [1, 2], by kernel_rfl, by kernel_rfl, by decide⟩
theorem FnExactOpPlaces (x0_0 : Int) (x0_1 : Int) (x0_2 : Int) (x0_3 : Int) (x0_4 : Int) (x0_5 : Int) (x0_6 : Int)
    (ok0 : (Lit.int .i64 x0_0).wf = true ∧ (Lit.int .i64 x0_1).wf = true ∧ (Lit.int .i64 x0_2).wf = true ∧ (Lit.int .i64 x0_3).wf = true ∧ (Lit.int .i64 x0_4).wf = true ∧ (Lit.int .i64 x0_5).wf = true ∧ (Lit.int .i64 x0_6).wf = true) :
    ∃ k, laws_FnExactOpPlaces.f k x0_0 x0_1 x0_2 x0_3 x0_4 x0_5 x0_6 = some true := by
  refine ⟨8, ?_⟩
  unfold laws_FnExactOpPlaces.f laws_toOpOp.f
  simp only [Option.bind_some, specPlaces_f _ _ _ _ _ _ _ 8 (by decide), implPlaces_f]
  obtain ⟨he, m, M, hm, hh, h0⟩ := marked _ (places_one x0_0 x0_1 x0_2 x0_3 x0_4 x0_5 x0_6)
  have hn : ¬ m < 0 := by omega
  simp only [he, hm, hh, Option.bind_some, if_pos, if_neg hn]
end Go.Proofs.Ytfebloibnhejnaa.Pure
