/- The row of laws.FnExactPlcPlan, laid by wip/tools/row2.py (this repo's program): what came in is opened, the function's contract taken, what it read handed back. No conditions. -/
import Derived.Test.YtnbcdkbjmpadmaaGreatDoorRows
import Derived.Test.YtnbcdkbjmpadmaaGreatDoorD
import Derived.Test.YtnbcdkbjmpadmaaGreatDoorTie
import Derived.Test.YtnbcdkbjmpadmaaGreatDoorCards
import Derived.SevenTiedAt
import Derived.Test.YtnbcdkbjmpadmaaGreatDoorPa
import Derived.ChangeArms
import Derived.ChangeSame
import Derived.DataReads
import Derived.DataElems
import Derived.WideShapes
import Derived.WalkKit
import Derived.ProofKit
import Derived.OpenShut
import Derived.ShutString
import Derived.ChangeOld
import Derived.Below
import Derived.SizedLaws
import Derived.Carry
namespace Go.Proofs.YtnbcdkbjmpadmaaGreatDoor.fnExactPlcPlan
open Go.ChangeShapes Go.WideShapes Go.ChangeAt Go.RowKit
open Go.ChangeMaps (open_string shut_string)
open Go.Proofs.YtnbcdkbjmpadmaaGreatDoor.E
open Go.Proofs.YtnbcdkbjmpadmaaGreatDoor.D (own laidOut IsRow laidWorld)
set_option linter.unusedVariables false
set_option maxHeartbeats 4000000 in
set_option maxRecDepth 100000 in
theorem lifted (os : Os) (started : os.Started) (H : Type) (enc : TypeId × Value → H) :
    ReturnsInHanded {} Tryz.checked os 3 .any (fun w args => (Rows.fnExactPlcPlanSpec.pre enc Tryz.prog Tryz.f3 Rows.fnExactPlcPlanRow.domain false w args ∧ laidMetH Tryz.prog Rows.fnExactPlcPlanRow.laid w) ∧ sizedMet enc Tryz.prog Tryz.f3 (OpenSpec.ofChange Rows.fnExactPlcPlanSpec) false w args) (Rows.fnExactPlcPlanSpec.post enc Tryz.prog Tryz.f3 false true false false) := by
  refine returnsInHanded_of_change_and (C := Tryz.checked) (X := fun w _ => laidMetH Tryz.prog Rows.fnExactPlcPlanRow.laid w) (fun _ _ _ hh h => h.of_heap hh) own started (by kernel_rfl) Tryz.func3
    (ChangeSpec.witness_at (enc := enc) (C := Tryz.checked) (os := os) (X := fun w _ => laidMetH Tryz.prog Rows.fnExactPlcPlanRow.laid w) false (laidWorld os) #[.int .i64 0, .agg #[.slice none 0 0], .int .i64 0, .agg #[.int .i64 0, .int .i64 0, .int .i64 0, .int .i64 0, .int .i64 0, .int .i64 0, .int .i64 0]] 8 rfl (by kernel_rfl) (by kernel_rfl) (by kernel_rfl) (by kernel_rfl) (by kernel_rfl) (laidMetH_of_parts (laidMet_of_run' 8 (by kernel_rfl) (by kernel_rfl)) (by kernel_rfl))) ?_
  intro W base args ds gs before hval0 hW hcnd hsz0 _ _
  have hval : ∀ (j : Nat) t v, Tryz.f3.params[j]? = some t → args[j]? = some v → Value.okWide Tryz.prog W .any base t v := hval0
  have hW' := hW
  obtain ⟨p, q, hA0, hV, rfl, hfz, hnd⟩ := hW
  have hA : DataW.TrodAll enc Tryz.prog W 0 (fun _ => true) true Tryz.f3.params.toList args.toList ds p := hA0
  rw [Tryz.params3] at hA hval
  obtain ⟨v0, vs0, d0, ds0, p0, q0, hargs, rfl, rfl, h0, r0⟩ := trodAll_cons hA
  obtain ⟨v1, vs1, d1, ds1, p1, q1, rfl, rfl, rfl, h1, r1⟩ := trodAll_cons r0
  obtain ⟨v2, vs2, d2, ds2, p2, q2, rfl, rfl, rfl, h2, r2⟩ := trodAll_cons r1
  obtain ⟨v3, vs3, d3, ds3, p3, q3, rfl, rfl, rfl, h3, r3⟩ := trodAll_cons r2
  obtain ⟨rfl, rfl, rfl⟩ := trodAll_nil r3
  obtain rfl : args = #[v0, v1, v2, v3] := by cases args; simp_all
  obtain ⟨rfl, rfl⟩ := trodVars_none hV
  have k0 := h0
  have lt0 : ∀ x ∈ p0, x.block < W.heap.size := by obtain ⟨m, hm⟩ := k0; exact DataW.trod_lt m _ _ _ hm
  obtain ⟨b0, rfl⟩ := okWide_int (by first | exact Tryz.underlying3 | kernel_rfl) (hval 0 3 v0 rfl rfl)
  obtain ⟨fuel0, hf0⟩ := h0
  obtain ⟨x0, K0, ok0⟩ := (opens_int (by first | exact Tryz.underlying3 | kernel_rfl)).read enc W 0 _ true _ _ _ hf0
  have G0 := given_arg (g := false) K0 (fun _ => rfl)
  have k1 := h1
  have lt1 : ∀ x ∈ p1, x.block < W.heap.size := by obtain ⟨m, hm⟩ := k1; exact DataW.trod_lt m _ _ _ hm
  obtain ⟨cs1, rfl, _⟩ := okWide_struct (by first | exact Tryz.underlying24 | kernel_rfl) (hval 1 24 v1 rfl rfl)
  obtain ⟨fuel1, hf1⟩ := h1
  obtain ⟨x1, K1, ok1⟩ := (opens_struct (by first | exact Tryz.underlying24 | kernel_rfl) (by kernel_rfl) (opensAt_one rfl (by kernel_rfl) (opens_slice (by first | exact Tryz.underlying22 | kernel_rfl) (by kernel_rfl) (opens_struct (by first | exact Tryz.underlying90 | kernel_rfl) (by kernel_rfl) (opensAt_cons rfl (by kernel_rfl) (opens_string (by first | exact Tryz.underlying9 | kernel_rfl)) (opensAt_one rfl (by kernel_rfl) (opens_slice (by first | exact Tryz.underlying48 | kernel_rfl) (by kernel_rfl) (opens_int (by first | exact Tryz.underlying3 | kernel_rfl))))))))).read enc W 0 _ true _ _ _ hf1
  have G1 := given_arg (g := true) K1 (fun h => by cases h)
  have E1 : Go.Proofs.YtnbcdkbjmpadmaaGreatDoor.E.valOf true (Value.agg cs1).cells.toList = .agg cs1 := by
    show Value.agg cs1.toList.toArray = Value.agg cs1
    simp
  rw [E1] at G1
  have k2 := h2
  have lt2 : ∀ x ∈ p2, x.block < W.heap.size := by obtain ⟨m, hm⟩ := k2; exact DataW.trod_lt m _ _ _ hm
  obtain ⟨b2, rfl⟩ := okWide_int (by first | exact Tryz.underlying3 | kernel_rfl) (hval 2 3 v2 rfl rfl)
  obtain ⟨fuel2, hf2⟩ := h2
  obtain ⟨x2, K2, ok2⟩ := (opens_int (by first | exact Tryz.underlying3 | kernel_rfl)).read enc W 0 _ true _ _ _ hf2
  have G2 := given_arg (g := false) K2 (fun _ => rfl)
  have k3 := h3
  have lt3 : ∀ x ∈ p3, x.block < W.heap.size := by obtain ⟨m, hm⟩ := k3; exact DataW.trod_lt m _ _ _ hm
  obtain ⟨cs3, rfl, _⟩ := okWide_struct (by first | exact Tryz.underlying26 | kernel_rfl) (hval 3 26 v3 rfl rfl)
  obtain ⟨fuel3, hf3⟩ := h3
  obtain ⟨x3, K3, ok3⟩ := (opens_struct (by first | exact Tryz.underlying26 | kernel_rfl) (by kernel_rfl) (opensAt_cons rfl (by kernel_rfl) (opens_int (by first | exact Tryz.underlying3 | kernel_rfl)) (opensAt_cons rfl (by kernel_rfl) (opens_int (by first | exact Tryz.underlying3 | kernel_rfl)) (opensAt_cons rfl (by kernel_rfl) (opens_int (by first | exact Tryz.underlying3 | kernel_rfl)) (opensAt_cons rfl (by kernel_rfl) (opens_int (by first | exact Tryz.underlying3 | kernel_rfl)) (opensAt_cons rfl (by kernel_rfl) (opens_int (by first | exact Tryz.underlying3 | kernel_rfl)) (opensAt_cons rfl (by kernel_rfl) (opens_int (by first | exact Tryz.underlying3 | kernel_rfl)) (opensAt_one rfl (by kernel_rfl) (opens_int (by first | exact Tryz.underlying3 | kernel_rfl)))))))))).read enc W 0 _ true _ _ _ hf3
  have G3 := given_arg (g := true) K3 (fun h => by cases h)
  have E3 : Go.Proofs.YtnbcdkbjmpadmaaGreatDoor.E.valOf true (Value.agg cs3).cells.toList = .agg cs3 := by
    show Value.agg cs3.toList.toArray = Value.agg cs3
    simp
  rw [E3] at G3
  clear hA0 hval0 hsz0
  have hpure := pure_FnExactPlcPlan x0 ok0 x1 ok1 x2 ok2 x3 ok3
  refine (law_calls sw_FnExactPlcPlan (w := W) (ys := [argRV false (.int .i64) x0, argRV true (.sl 90 (.pair .str (.sl 3 (.int .i64)))) x1, argRV false (.int .i64) x2, argRV true (.pair (.int .i64) (.pair (.int .i64) (.pair (.int .i64) (.pair (.int .i64) (.pair (.int .i64) (.pair (.int .i64) (.int .i64))))))) x3]) (vs := [.int .i64 b0, .agg cs1, .int .i64 b2, .agg cs3]) (b := true) ⟨G0, G1, G2, G3, trivial⟩ hpure).mono fun e W' ⟨he, bel0⟩ => ?_
  have bel : Below W.heap.size W W' := bel0
  subst he
  exact ⟨_, rfl, _, _, _, [], _, [], hW', trodAll_mk1 (shut_bool Tryz.underlying4 _), (trodAll_cons_mk (Below.trod laidOut (by kernel_rfl) (of_decide_eq_true (by kernel_rfl)) k0 bel lt0) (trodAll_cons_mk (Below.trod laidOut (by kernel_rfl) (of_decide_eq_true (by kernel_rfl)) k1 bel lt1) (trodAll_cons_mk (Below.trod laidOut (by kernel_rfl) (of_decide_eq_true (by kernel_rfl)) k2 bel lt2) (trodAll_cons_mk (Below.trod laidOut (by kernel_rfl) (of_decide_eq_true (by kernel_rfl)) k3 bel lt3) trodAll_mk0)))), rfl, bel.frame _, fun h => by cases h⟩
theorem over : Rows.fnExactPlcPlanRow.holds Tryz.pinned (OpenSpec.ofChange Rows.fnExactPlcPlanSpec) :=
  OpenClaim.holds_of_wide 3 Tryz.f3 rfl rfl rfl rfl rfl rfl rfl ⟨rfl, rfl, rfl, rfl, rfl⟩ rfl rfl rfl rfl rfl (by kernel_rfl) Tryz.func3 (by kernel_rfl)
    (of_decide_eq_true (by kernel_rfl)) (by unfold Func.isWrapper; first | (rw [if_pos (by decide +kernel)]; kernel_rfl) | (rw [if_neg (by decide +kernel)]; exact ⟨rfl, rfl⟩))
    (fun os started H enc _ => lifted os started H enc)
theorem card : Rows.FnExactPlcPlanCardSaid :=
  Claim7.holds_tied_plain_at .later [] [.data, .data, .data, .data, .pinned] true _ false
    over (fun _ h => by cases h) (by kernel_rfl) (fun _ h => by cases h) fnExactPlcPlan_row_tie rfl ⟨rfl, rfl⟩ (by kernel_rfl) rfl
    (fun f fn hf hfn => by
      obtain rfl : f = 3 := (Option.some.inj ((show Tryz.prog.funcNamed Rows.fnExactPlcPlanRow.func = some 3 by kernel_rfl).symm.trans hf)).symm
      obtain rfl : fn = Tryz.f3 := (Option.some.inj (Tryz.func3.symm.trans hfn)).symm
      exact ⟨by kernel_rfl, fun j t ht => by
        have hall : (Tryz.f3.params.toList.all fun t => !Tryz.prog.wantsStandIn t) = true := by kernel_rfl
        have := List.all_eq_true.1 hall t (Array.mem_toList_iff.2 (Array.mem_of_getElem? ht))
        exact (by simpa using this : Tryz.prog.wantsStandIn t = false)⟩)
    (by kernel_rfl)
#print axioms card
end Go.Proofs.YtnbcdkbjmpadmaaGreatDoor.fnExactPlcPlan
namespace Go.Proofs.YtnbcdkbjmpadmaaGreatDoor
/-- The row, under a short name, for the claim. -/
theorem fnExactPlcPlan_holds : Rows.FnExactPlcPlanCardSaid := fnExactPlcPlan.card
end Go.Proofs.YtnbcdkbjmpadmaaGreatDoor
