/- The row of laws.FnExactWldOk, laid by wip/tools/row2.py (this repo's program): what came in is opened, the function's contract taken, what it read handed back. No conditions. -/
import Derived.Test.YtedhpmhlmdcpbaaGreatDoorRows
import Derived.Test.YtedhpmhlmdcpbaaGreatDoorD
import Derived.Test.YtedhpmhlmdcpbaaGreatDoorTie
import Derived.Test.YtedhpmhlmdcpbaaGreatDoorCards
import Derived.SevenTiedAt
import Derived.Test.YtedhpmhlmdcpbaaGreatDoorPa
import Derived.ChangeArms
import Derived.ChangeSame
import Derived.DataReads
import Derived.DataElems
import Derived.WideShapes
import Derived.WalkKit
import Derived.ProofKit
import Derived.OpenShut
import Derived.ShutString
import Derived.ChangeOld
import Derived.Below
import Derived.SizedLaws
import Derived.Carry
namespace Go.Proofs.YtedhpmhlmdcpbaaGreatDoor.fnExactWldOk
open Go.ChangeShapes Go.WideShapes Go.ChangeAt Go.RowKit
open Go.ChangeMaps (open_string shut_string)
open Go.Proofs.YtedhpmhlmdcpbaaGreatDoor.E
open Go.Proofs.YtedhpmhlmdcpbaaGreatDoor.D (own laidOut IsRow laidWorld)
set_option linter.unusedVariables false
set_option maxHeartbeats 4000000 in
set_option maxRecDepth 100000 in
theorem lifted (os : Os) (started : os.Started) (H : Type) (enc : TypeId × Value → H) :
    ReturnsInHanded {} Tryz.checked os 6 .any (fun w args => (Rows.fnExactWldOkSpec.pre enc Tryz.prog Tryz.f6 Rows.fnExactWldOkRow.domain false w args ∧ laidMetH Tryz.prog Rows.fnExactWldOkRow.laid w) ∧ sizedMet enc Tryz.prog Tryz.f6 (OpenSpec.ofChange Rows.fnExactWldOkSpec) false w args) (Rows.fnExactWldOkSpec.post enc Tryz.prog Tryz.f6 false true false false) := by
  refine returnsInHanded_of_change_and (C := Tryz.checked) (X := fun w _ => laidMetH Tryz.prog Rows.fnExactWldOkRow.laid w) (fun _ _ _ hh h => h.of_heap hh) own started (by kernel_rfl) Tryz.func6
    (ChangeSpec.witness_at (enc := enc) (C := Tryz.checked) (os := os) (X := fun w _ => laidMetH Tryz.prog Rows.fnExactWldOkRow.laid w) false (laidWorld os) #[.agg #[.slice none 0 0, .int .i64 0, .slice none 0 0, .slice none 0 0, .slice none 0 0, .slice none 0 0, .slice none 0 0]] 8 rfl (by kernel_rfl) (by kernel_rfl) (by kernel_rfl) (by kernel_rfl) (by kernel_rfl) (laidMetH_of_parts (laidMet_of_run' 8 (by kernel_rfl) (by kernel_rfl)) (by kernel_rfl))) ?_
  intro W base args ds gs before hval0 hW hcnd hsz0 _ _
  have hval : ∀ (j : Nat) t v, Tryz.f6.params[j]? = some t → args[j]? = some v → Value.okWide Tryz.prog W .any base t v := hval0
  have hW' := hW
  obtain ⟨p, q, hA0, hV, rfl, hfz, hnd⟩ := hW
  have hA : DataW.TrodAll enc Tryz.prog W 0 (fun _ => true) true Tryz.f6.params.toList args.toList ds p := hA0
  rw [Tryz.params6] at hA hval
  obtain ⟨v0, vs0, d0, ds0, p0, q0, hargs, rfl, rfl, h0, r0⟩ := trodAll_cons hA
  obtain ⟨rfl, rfl, rfl⟩ := trodAll_nil r0
  obtain rfl : args = #[v0] := by cases args; simp_all
  obtain ⟨rfl, rfl⟩ := trodVars_none hV
  have k0 := h0
  have lt0 : ∀ x ∈ p0, x.block < W.heap.size := by obtain ⟨m, hm⟩ := k0; exact DataW.trod_lt m _ _ _ hm
  obtain ⟨cs0, rfl, _⟩ := okWide_struct (by first | exact Tryz.underlying57 | kernel_rfl) (hval 0 57 v0 rfl rfl)
  obtain ⟨fuel0, hf0⟩ := h0
  obtain ⟨x0, K0, ok0⟩ := (opens_struct (by first | exact Tryz.underlying57 | kernel_rfl) (by kernel_rfl) (opensAt_cons rfl (by kernel_rfl) (opens_struct (by first | exact Tryz.underlying27 | kernel_rfl) (by kernel_rfl) (opensAt_cons rfl (by kernel_rfl) (opens_struct (by first | exact Tryz.underlying24 | kernel_rfl) (by kernel_rfl) (opensAt_cons rfl (by kernel_rfl) (opens_slice (by first | exact Tryz.underlying22 | kernel_rfl) (by kernel_rfl) (opens_struct (by first | exact Tryz.underlying169 | kernel_rfl) (by kernel_rfl) (opensAt_cons rfl (by kernel_rfl) (opens_int (by first | exact Tryz.underlying3 | kernel_rfl)) (opensAt_cons rfl (by kernel_rfl) (opens_int (by first | exact Tryz.underlying3 | kernel_rfl)) (opensAt_cons rfl (by kernel_rfl) (opens_slice (by first | exact Tryz.underlying89 | kernel_rfl) (by kernel_rfl) (opens_string (by first | exact Tryz.underlying9 | kernel_rfl))) (opensAt_one rfl (by kernel_rfl) (opens_slice (by first | exact Tryz.underlying167 | kernel_rfl) (by kernel_rfl) (opens_struct (by first | exact Tryz.underlying196 | kernel_rfl) (by kernel_rfl) (opensAt_cons rfl (by kernel_rfl) (opens_string (by first | exact Tryz.underlying9 | kernel_rfl)) (opensAt_cons rfl (by kernel_rfl) (opens_bool (by first | exact Tryz.underlying4 | kernel_rfl)) (opensAt_one rfl (by kernel_rfl) (opens_slice (by first | exact Tryz.underlying71 | kernel_rfl) (by kernel_rfl) (opens_int (by first | exact Tryz.underlying3 | kernel_rfl)))))))))))))) (opensAt_one rfl (by kernel_rfl) (opens_int (by first | exact Tryz.underlying3 | kernel_rfl))))) (opensAt_one rfl (by kernel_rfl) (opens_slice (by first | exact Tryz.underlying25 | kernel_rfl) (by kernel_rfl) (opens_struct (by first | exact Tryz.underlying129 | kernel_rfl) (by kernel_rfl) (opensAt_cons rfl (by kernel_rfl) (opens_int (by first | exact Tryz.underlying3 | kernel_rfl)) (opensAt_cons rfl (by kernel_rfl) (opens_struct (by first | exact Tryz.underlying46 | kernel_rfl) (by kernel_rfl) (opensAt_cons rfl (by kernel_rfl) (opens_int (by first | exact Tryz.underlying3 | kernel_rfl)) (opensAt_cons rfl (by kernel_rfl) (opens_int (by first | exact Tryz.underlying3 | kernel_rfl)) (opensAt_cons rfl (by kernel_rfl) (opens_int (by first | exact Tryz.underlying3 | kernel_rfl)) (opensAt_cons rfl (by kernel_rfl) (opens_int (by first | exact Tryz.underlying3 | kernel_rfl)) (opensAt_cons rfl (by kernel_rfl) (opens_int (by first | exact Tryz.underlying3 | kernel_rfl)) (opensAt_cons rfl (by kernel_rfl) (opens_int (by first | exact Tryz.underlying3 | kernel_rfl)) (opensAt_one rfl (by kernel_rfl) (opens_int (by first | exact Tryz.underlying3 | kernel_rfl)))))))))) (opensAt_cons rfl (by kernel_rfl) (opens_bool (by first | exact Tryz.underlying4 | kernel_rfl)) (opensAt_cons rfl (by kernel_rfl) (opens_slice (by first | exact Tryz.underlying71 | kernel_rfl) (by kernel_rfl) (opens_int (by first | exact Tryz.underlying3 | kernel_rfl))) (opensAt_one rfl (by kernel_rfl) (opens_slice (by first | exact Tryz.underlying71 | kernel_rfl) (by kernel_rfl) (opens_int (by first | exact Tryz.underlying3 | kernel_rfl))))))))))))) (opensAt_cons rfl (by kernel_rfl) (opens_slice (by first | exact Tryz.underlying52 | kernel_rfl) (by kernel_rfl) (opens_struct (by first | exact Tryz.underlying24 | kernel_rfl) (by kernel_rfl) (opensAt_cons rfl (by kernel_rfl) (opens_slice (by first | exact Tryz.underlying22 | kernel_rfl) (by kernel_rfl) (opens_struct (by first | exact Tryz.underlying169 | kernel_rfl) (by kernel_rfl) (opensAt_cons rfl (by kernel_rfl) (opens_int (by first | exact Tryz.underlying3 | kernel_rfl)) (opensAt_cons rfl (by kernel_rfl) (opens_int (by first | exact Tryz.underlying3 | kernel_rfl)) (opensAt_cons rfl (by kernel_rfl) (opens_slice (by first | exact Tryz.underlying89 | kernel_rfl) (by kernel_rfl) (opens_string (by first | exact Tryz.underlying9 | kernel_rfl))) (opensAt_one rfl (by kernel_rfl) (opens_slice (by first | exact Tryz.underlying167 | kernel_rfl) (by kernel_rfl) (opens_struct (by first | exact Tryz.underlying196 | kernel_rfl) (by kernel_rfl) (opensAt_cons rfl (by kernel_rfl) (opens_string (by first | exact Tryz.underlying9 | kernel_rfl)) (opensAt_cons rfl (by kernel_rfl) (opens_bool (by first | exact Tryz.underlying4 | kernel_rfl)) (opensAt_one rfl (by kernel_rfl) (opens_slice (by first | exact Tryz.underlying71 | kernel_rfl) (by kernel_rfl) (opens_int (by first | exact Tryz.underlying3 | kernel_rfl)))))))))))))) (opensAt_one rfl (by kernel_rfl) (opens_int (by first | exact Tryz.underlying3 | kernel_rfl)))))) (opensAt_cons rfl (by kernel_rfl) (opens_slice (by first | exact Tryz.underlying53 | kernel_rfl) (by kernel_rfl) (opens_struct (by first | exact Tryz.underlying151 | kernel_rfl) (by kernel_rfl) (opensAt_cons rfl (by kernel_rfl) (opens_int (by first | exact Tryz.underlying3 | kernel_rfl)) (opensAt_cons rfl (by kernel_rfl) (opens_int (by first | exact Tryz.underlying3 | kernel_rfl)) (opensAt_cons rfl (by kernel_rfl) (opens_int (by first | exact Tryz.underlying3 | kernel_rfl)) (opensAt_cons rfl (by kernel_rfl) (opens_int (by first | exact Tryz.underlying3 | kernel_rfl)) (opensAt_one rfl (by kernel_rfl) (opens_struct (by first | exact Tryz.underlying46 | kernel_rfl) (by kernel_rfl) (opensAt_cons rfl (by kernel_rfl) (opens_int (by first | exact Tryz.underlying3 | kernel_rfl)) (opensAt_cons rfl (by kernel_rfl) (opens_int (by first | exact Tryz.underlying3 | kernel_rfl)) (opensAt_cons rfl (by kernel_rfl) (opens_int (by first | exact Tryz.underlying3 | kernel_rfl)) (opensAt_cons rfl (by kernel_rfl) (opens_int (by first | exact Tryz.underlying3 | kernel_rfl)) (opensAt_cons rfl (by kernel_rfl) (opens_int (by first | exact Tryz.underlying3 | kernel_rfl)) (opensAt_cons rfl (by kernel_rfl) (opens_int (by first | exact Tryz.underlying3 | kernel_rfl)) (opensAt_one rfl (by kernel_rfl) (opens_int (by first | exact Tryz.underlying3 | kernel_rfl))))))))))))))))) (opensAt_cons rfl (by kernel_rfl) (opens_slice (by first | exact Tryz.underlying54 | kernel_rfl) (by kernel_rfl) (opens_struct (by first | exact Tryz.underlying46 | kernel_rfl) (by kernel_rfl) (opensAt_cons rfl (by kernel_rfl) (opens_int (by first | exact Tryz.underlying3 | kernel_rfl)) (opensAt_cons rfl (by kernel_rfl) (opens_int (by first | exact Tryz.underlying3 | kernel_rfl)) (opensAt_cons rfl (by kernel_rfl) (opens_int (by first | exact Tryz.underlying3 | kernel_rfl)) (opensAt_cons rfl (by kernel_rfl) (opens_int (by first | exact Tryz.underlying3 | kernel_rfl)) (opensAt_cons rfl (by kernel_rfl) (opens_int (by first | exact Tryz.underlying3 | kernel_rfl)) (opensAt_cons rfl (by kernel_rfl) (opens_int (by first | exact Tryz.underlying3 | kernel_rfl)) (opensAt_one rfl (by kernel_rfl) (opens_int (by first | exact Tryz.underlying3 | kernel_rfl))))))))))) (opensAt_one rfl (by kernel_rfl) (opens_slice (by first | exact Tryz.underlying55 | kernel_rfl) (by kernel_rfl) (opens_struct (by first | exact Tryz.underlying153 | kernel_rfl) (by kernel_rfl) (opensAt_cons rfl (by kernel_rfl) (opens_int (by first | exact Tryz.underlying3 | kernel_rfl)) (opensAt_one rfl (by kernel_rfl) (opens_bool (by first | exact Tryz.underlying4 | kernel_rfl)))))))))))).read enc W 0 _ true _ _ _ hf0
  have G0 := given_arg (g := true) K0 (fun h => by cases h)
  have E0 : Go.Proofs.YtedhpmhlmdcpbaaGreatDoor.E.valOf true (Value.agg cs0).cells.toList = .agg cs0 := by
    show Value.agg cs0.toList.toArray = Value.agg cs0
    simp
  rw [E0] at G0
  clear hA0 hval0 hsz0
  have hpure := pure_FnExactWldOk x0 ok0
  refine (law_calls sw_FnExactWldOk (w := W) (ys := [argRV true (.pair (.pair (.pair (.sl 169 (.pair (.int .i64) (.pair (.int .i64) (.pair (.sl 9 .str) (.sl 196 (.pair .str (.pair .bool (.sl 3 (.int .i64))))))))) (.int .i64)) (.sl 129 (.pair (.int .i64) (.pair (.pair (.int .i64) (.pair (.int .i64) (.pair (.int .i64) (.pair (.int .i64) (.pair (.int .i64) (.pair (.int .i64) (.int .i64))))))) (.pair .bool (.pair (.sl 3 (.int .i64)) (.sl 3 (.int .i64)))))))) (.pair (.sl 24 (.pair (.sl 169 (.pair (.int .i64) (.pair (.int .i64) (.pair (.sl 9 .str) (.sl 196 (.pair .str (.pair .bool (.sl 3 (.int .i64))))))))) (.int .i64))) (.pair (.sl 151 (.pair (.int .i64) (.pair (.int .i64) (.pair (.int .i64) (.pair (.int .i64) (.pair (.int .i64) (.pair (.int .i64) (.pair (.int .i64) (.pair (.int .i64) (.pair (.int .i64) (.pair (.int .i64) (.int .i64)))))))))))) (.pair (.sl 46 (.pair (.int .i64) (.pair (.int .i64) (.pair (.int .i64) (.pair (.int .i64) (.pair (.int .i64) (.pair (.int .i64) (.int .i64)))))))) (.sl 153 (.pair (.int .i64) .bool)))))) x0]) (vs := [.agg cs0]) (b := true) ⟨G0, trivial⟩ hpure).mono fun e W' ⟨he, bel0⟩ => ?_
  have bel : Below W.heap.size W W' := bel0
  subst he
  exact ⟨_, rfl, _, _, _, [], _, [], hW', trodAll_mk1 (shut_bool Tryz.underlying4 _), (trodAll_cons_mk (Below.trod laidOut (by kernel_rfl) (of_decide_eq_true (by kernel_rfl)) k0 bel lt0) trodAll_mk0), rfl, bel.frame _, fun h => by cases h⟩
theorem over : Rows.fnExactWldOkRow.holds Tryz.pinned (OpenSpec.ofChange Rows.fnExactWldOkSpec) :=
  OpenClaim.holds_of_wide 6 Tryz.f6 rfl rfl rfl rfl rfl rfl rfl ⟨rfl, rfl, rfl, rfl, rfl⟩ rfl rfl rfl rfl rfl (by kernel_rfl) Tryz.func6 (by kernel_rfl)
    (of_decide_eq_true (by kernel_rfl)) (by unfold Func.isWrapper; first | (rw [if_pos (by decide +kernel)]; kernel_rfl) | (rw [if_neg (by decide +kernel)]; exact ⟨rfl, rfl⟩))
    (fun os started H enc _ => lifted os started H enc)
theorem card : Rows.FnExactWldOkCardSaid :=
  Claim7.holds_tied_plain_at .later [] [.data, .pinned] true _ false
    over (fun _ h => by cases h) (by kernel_rfl) (fun _ h => by cases h) fnExactWldOk_row_tie rfl ⟨rfl, rfl⟩ (by kernel_rfl) rfl
    (fun f fn hf hfn => by
      obtain rfl : f = 6 := (Option.some.inj ((show Tryz.prog.funcNamed Rows.fnExactWldOkRow.func = some 6 by kernel_rfl).symm.trans hf)).symm
      obtain rfl : fn = Tryz.f6 := (Option.some.inj (Tryz.func6.symm.trans hfn)).symm
      exact ⟨by kernel_rfl, fun j t ht => by
        have hall : (Tryz.f6.params.toList.all fun t => !Tryz.prog.wantsStandIn t) = true := by kernel_rfl
        have := List.all_eq_true.1 hall t (Array.mem_toList_iff.2 (Array.mem_of_getElem? ht))
        exact (by simpa using this : Tryz.prog.wantsStandIn t = false)⟩)
    (by kernel_rfl)
#print axioms card
end Go.Proofs.YtedhpmhlmdcpbaaGreatDoor.fnExactWldOk
namespace Go.Proofs.YtedhpmhlmdcpbaaGreatDoor
/-- The row, under a short name, for the claim. -/
theorem fnExactWldOk_holds : Rows.FnExactWldOkCardSaid := fnExactWldOk.card
end Go.Proofs.YtedhpmhlmdcpbaaGreatDoor
