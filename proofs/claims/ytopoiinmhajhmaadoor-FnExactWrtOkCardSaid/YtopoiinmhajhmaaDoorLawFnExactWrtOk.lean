/- The row of laws.FnExactWrtOk, laid by wip/rows.py (this repo's program): what came in is opened, the function's contract taken, what it read handed back. -/
import Derived.Test.YtopoiinmhajhmaaDoorRows
import Derived.Test.YtopoiinmhajhmaaDoorD
import Derived.Test.YtopoiinmhajhmaaDoorTie
import Derived.Test.YtopoiinmhajhmaaDoorCards
import Derived.SevenTiedAt
import Derived.Test.YtopoiinmhajhmaaDoorHO
import Derived.Test.YtopoiinmhajhmaaDoorXxf4
import Derived.Test.YtopoiinmhajhmaaDoorPureFnExactWrtOk
import Derived.WalkKit
import Derived.ProofKit
import Derived.OpenShut
import Derived.ShutString
import Derived.ChangeOld
import Derived.Below
import Derived.SizedLaws
import Derived.Carry
namespace Go.Proofs.YtopoiinmhajhmaaDoor.fnExactWrtOk
open Go.ChangeShapes Go.WideShapes Go.ChangeAt Go.RowKit
open Go.ChangeMaps (open_string shut_string)
open Go.Proofs.YtopoiinmhajhmaaDoor.D (own laidOut IsRow laidWorld)
open Go.Proofs.YtopoiinmhajhmaaDoorW
open Go.Proofs.YtopoiinmhajhmaaDoor.H Go.Proofs.YtopoiinmhajhmaaDoor.X Go.Proofs.YtopoiinmhajhmaaDoorW.PrintWords
set_option linter.unusedVariables false
set_option maxRecDepth 100000 in
theorem lifted (os : Os) (started : os.Started) (H : Type) (enc : TypeId × Value → H) :
    ReturnsInHanded {} Tryd.checked os 4 .any (fun w args => (Rows.fnExactWrtOkSpec.pre enc Tryd.prog Tryd.f4 Rows.fnExactWrtOkRow.domain false w args ∧ laidMetH Tryd.prog Rows.fnExactWrtOkRow.laid w) ∧ sizedMet enc Tryd.prog Tryd.f4 (OpenSpec.ofChange Rows.fnExactWrtOkSpec) false w args) (Rows.fnExactWrtOkSpec.post enc Tryd.prog Tryd.f4 false true false false) := by
  refine returnsInHanded_of_change_and (C := Tryd.checked) (X := fun w _ => laidMetH Tryd.prog Rows.fnExactWrtOkRow.laid w) (fun _ _ _ hh h => h.of_heap hh) own started (by kernel_rfl) Tryd.func4
    (ChangeSpec.witness_at (enc := enc) (C := Tryd.checked) (os := os) (X := fun w _ => laidMetH Tryd.prog Rows.fnExactWrtOkRow.laid w) false (laidWorld os) #[.agg #[.string ⟨#[]⟩, .bool false, .slice none 0 0]] 8 rfl (by kernel_rfl) (by kernel_rfl) (by kernel_rfl) (by kernel_rfl) (by kernel_rfl) (laidMetH_of_parts (laidMet_of_run' 8 (by kernel_rfl) (by kernel_rfl)) (by kernel_rfl))) ?_
  intro W base args ds gs before hval0 hW hcnd hsz0 _ _
  have hval : ∀ (j : Nat) t v, Tryd.f4.params[j]? = some t → args[j]? = some v → Value.okWide Tryd.prog W .any base t v := hval0
  have hW' := hW
  obtain ⟨p, q, hA0, hV, rfl, hfz, hnd⟩ := hW
  have hA : DataW.TrodAll enc Tryd.prog W 0 (fun _ => true) true Tryd.f4.params.toList args.toList ds p := hA0
  rw [Tryd.params4] at hA hval
  obtain ⟨v0, vs0, d0, ds0, p0, q0, hargs, rfl, rfl, h0, r0⟩ := trodAll_cons hA
  obtain ⟨rfl, rfl, rfl⟩ := trodAll_nil r0
  obtain rfl : args = #[v0] := by cases args; simp_all
  obtain ⟨rfl, rfl⟩ := trodVars_none hV
  have k0 := h0
  have lt0 : ∀ x ∈ p0, x.block < W.heap.size := by obtain ⟨m, hm⟩ := k0; exact DataW.trod_lt m _ _ _ hm
  obtain ⟨cs0, rfl, _⟩ := okWide_struct (by first | exact Tryd.underlying29 | kernel_rfl) (hval 0 29 v0 rfl rfl)
  obtain ⟨fuel0, hf0⟩ := h0
  obtain ⟨⟨x0_0, x0_1, x0_2⟩, K0, ok0⟩ := (opens_struct (by first | exact Tryd.underlying29 | kernel_rfl) (by kernel_rfl) (opensAt_cons rfl (by kernel_rfl) (opens_string (by first | exact Tryd.underlying9 | kernel_rfl)) (opensAt_cons rfl (by kernel_rfl) (opens_bool (by first | exact Tryd.underlying4 | kernel_rfl)) (opensAt_one rfl (by kernel_rfl) (opens_slice (by first | exact Tryd.underlying27 | kernel_rfl) (by kernel_rfl) (opens_int (by first | exact Tryd.underlying3 | kernel_rfl))))))).read enc W 0 _ true _ _ _ hf0
  replace K0 : Kd.K (Kd.pair Kd.string (Kd.pair Kd.bool (Kd.slice 3 (Kd.int .i64)))) W ⟨x0_0, x0_1, x0_2⟩ cs0.toList := K0
  generalize hcs0 : cs0.toList = l0 at K0
  obtain ⟨_, _, rfl, rfl, ⟨_, _, rfl, rfl, ⟨A0_2, c0_2, rfl, l0_2, g0_2⟩⟩⟩ := K0
  obtain rfl : cs0 = #[.string x0_0, .bool x0_1, .slice A0_2 x0_2.length c0_2] := by apply Array.toList_inj.1; exact hcs0
  clear hcs0
  clear hA0 hval0 hsz0
  obtain ⟨k, hpure⟩ := Pure.FnExactWrtOk x0_0 x0_1 x0_2 ok0
  refine (X.laws_FnExactWrtOk.calls k x0_0 x0_1 A0_2 c0_2 x0_2 true W g0_2 l0_2 hpure).mono fun e W' ⟨he, bel0⟩ => ?_
  have bel : Below W.heap.size W W' := by first | exact bel0 | exact bel0.below
  subst he
  exact ⟨_, rfl, _, _, _, [], _, [], hW', trodAll_mk1 (shut_bool Tryd.underlying4 _), (trodAll_cons_mk (Below.trod laidOut (by kernel_rfl) (of_decide_eq_true (by kernel_rfl)) k0 bel lt0) trodAll_mk0), rfl, bel.frame _, fun h => by cases h⟩
theorem over : Rows.fnExactWrtOkRow.holds Tryd.pinned (OpenSpec.ofChange Rows.fnExactWrtOkSpec) :=
  OpenClaim.holds_of_wide 4 Tryd.f4 rfl rfl rfl rfl rfl rfl rfl ⟨rfl, rfl, rfl, rfl, rfl⟩ rfl rfl rfl rfl rfl (by kernel_rfl) Tryd.func4 (by kernel_rfl)
    (of_decide_eq_true (by kernel_rfl)) (by unfold Func.isWrapper; first | (rw [if_pos (by decide +kernel)]; kernel_rfl) | (rw [if_neg (by decide +kernel)]; exact ⟨rfl, rfl⟩))
    (fun os started H enc _ => lifted os started H enc)
theorem card : Rows.FnExactWrtOkCardSaid :=
  Claim7.holds_tied_plain_at .later [] [.data, .pinned] true _ false
    over (fun _ h => by cases h) (by kernel_rfl) (fun _ h => by cases h) fnExactWrtOk_row_tie rfl ⟨rfl, rfl⟩ (by kernel_rfl) rfl
    (fun f fn hf hfn => by
      obtain rfl : f = 4 := (Option.some.inj ((show Tryd.prog.funcNamed Rows.fnExactWrtOkRow.func = some 4 by kernel_rfl).symm.trans hf)).symm
      obtain rfl : fn = Tryd.f4 := (Option.some.inj (Tryd.func4.symm.trans hfn)).symm
      exact ⟨by kernel_rfl, fun j t ht => by
        have hall : (Tryd.f4.params.toList.all fun t => !Tryd.prog.wantsStandIn t) = true := by kernel_rfl
        have := List.all_eq_true.1 hall t (Array.mem_toList_iff.2 (Array.mem_of_getElem? ht))
        exact (by simpa using this : Tryd.prog.wantsStandIn t = false)⟩)
    (by kernel_rfl)
#print axioms card
end Go.Proofs.YtopoiinmhajhmaaDoor.fnExactWrtOk
namespace Go.Proofs.YtopoiinmhajhmaaDoor
/-- The row, under a short name, for the claim. -/
theorem fnExactWrtOk_holds : Rows.FnExactWrtOkCardSaid := fnExactWrtOk.card
end Go.Proofs.YtopoiinmhajhmaaDoor
