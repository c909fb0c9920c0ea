/- The row of laws.FnExactMsgOk, laid by wip/rows.py (this repo's program): what came in is opened, the function's contract taken, what it read handed back. -/
import Derived.Test.YtfebloibnhejnaaRows
import Derived.Test.YtfebloibnhejnaaHO
import Derived.Test.YtfebloibnhejnaaXxf6
import Derived.Test.YtfebloibnhejnaaPureFnExactMsgOk
import Derived.WalkKit
import Derived.ProofKit
import Derived.OpenShut
import Derived.ShutString
import Derived.ChangeOld
import Derived.Below
import Derived.SizedLaws
import Derived.Carry
namespace Go.Proofs.Ytfebloibnhejnaa.fnExactMsgOk
open Go.ChangeShapes Go.WideShapes Go.ChangeAt Go.RowKit
open Go.ChangeMaps (open_string shut_string)
open Go.Proofs.Ytfebloibnhejnaa.H Go.Proofs.Ytfebloibnhejnaa.X Go.Proofs.YtfebloibnhejnaaW.PrintWords
set_option linter.unusedVariables false
theorem own : ownKnob Try.prog.godebug = none := by kernel_rfl
theorem laidOut : laidOutB Try.prog = true := by kernel_rfl
set_option maxRecDepth 100000 in
theorem lifted (os : Os) (started : os.Started) (H : Type) (enc : TypeId × Value → H) :
    ReturnsInHanded {} Try.checked os 6 .any (Rows.fnExactMsgOkSpec.pre6 enc Try.prog Try.f6 Rows.fnExactMsgOkRow.domain false) (Rows.fnExactMsgOkSpec.post enc Try.prog Try.f6 false true false false) := by
  refine returnsInHanded_of_change_sized (C := Try.checked) own started (by kernel_rfl) Try.func6
    (ChangeSpec.witness6 (enc := enc) (C := Try.checked) false ⟨#[], #[.agg #[.int .i64 0, .int .i64 0, .int .i64 0, .int .i64 0, .int .i64 0, .int .i64 0, .int .i64 0, .int .i64 0, .int .i64 0, .int .i64 0, .int .i64 0]], []⟩ 8 (by kernel_rfl) (by kernel_rfl) (by kernel_rfl) (by kernel_rfl)) ?_
  intro W base args ds gs before hval0 hW hcnd hsz0 _
  have hval : ∀ (j : Nat) t v, Try.f6.params[j]? = some t → args[j]? = some v → Value.okWide Try.prog W .any base t v := hval0
  have hW' := hW
  obtain ⟨p, q, hA0, hV, rfl, hfz, hnd⟩ := hW
  have hA : DataW.TrodAll enc Try.prog W 0 (fun _ => true) true Try.f6.params.toList args.toList ds p := hA0
  rw [Try.params6] at hA hval
  obtain ⟨v0, vs0, d0, ds0, p0, q0, hargs, rfl, rfl, h0, r0⟩ := trodAll_cons hA
  obtain ⟨rfl, rfl, rfl⟩ := trodAll_nil r0
  obtain rfl : args = #[v0] := by cases args; simp_all
  obtain ⟨rfl, rfl⟩ := trodVars_none hV
  have k0 := h0
  have lt0 : ∀ x ∈ p0, x.block < W.heap.size := by obtain ⟨m, hm⟩ := k0; exact DataW.trod_lt m _ _ _ hm
  obtain ⟨cs0, rfl, _⟩ := okWide_struct (by first | exact Try.underlying32 | kernel_rfl) (hval 0 32 v0 rfl rfl)
  obtain ⟨fuel0, hf0⟩ := h0
  obtain ⟨⟨x0_0, x0_1, x0_2, x0_3, ⟨x0_4_0, x0_4_1, x0_4_2, x0_4_3, x0_4_4, x0_4_5, x0_4_6⟩⟩, K0, ok0⟩ := (opens_struct (by first | exact Try.underlying32 | kernel_rfl) (by kernel_rfl) (opensAt_cons rfl (by kernel_rfl) (opens_int (by first | exact Try.underlying3 | kernel_rfl)) (opensAt_cons rfl (by kernel_rfl) (opens_int (by first | exact Try.underlying3 | kernel_rfl)) (opensAt_cons rfl (by kernel_rfl) (opens_int (by first | exact Try.underlying3 | kernel_rfl)) (opensAt_cons rfl (by kernel_rfl) (opens_int (by first | exact Try.underlying3 | kernel_rfl)) (opensAt_one rfl (by kernel_rfl) (opens_struct (by first | exact Try.underlying26 | kernel_rfl) (by kernel_rfl) (opensAt_cons rfl (by kernel_rfl) (opens_int (by first | exact Try.underlying3 | kernel_rfl)) (opensAt_cons rfl (by kernel_rfl) (opens_int (by first | exact Try.underlying3 | kernel_rfl)) (opensAt_cons rfl (by kernel_rfl) (opens_int (by first | exact Try.underlying3 | kernel_rfl)) (opensAt_cons rfl (by kernel_rfl) (opens_int (by first | exact Try.underlying3 | kernel_rfl)) (opensAt_cons rfl (by kernel_rfl) (opens_int (by first | exact Try.underlying3 | kernel_rfl)) (opensAt_cons rfl (by kernel_rfl) (opens_int (by first | exact Try.underlying3 | kernel_rfl)) (opensAt_one rfl (by kernel_rfl) (opens_int (by first | exact Try.underlying3 | kernel_rfl)))))))))))))))).read enc W 0 _ true _ _ _ hf0
  replace K0 : Kd.K (Kd.pair (Kd.int .i64) (Kd.pair (Kd.int .i64) (Kd.pair (Kd.int .i64) (Kd.pair (Kd.int .i64) (Kd.pair (Kd.int .i64) (Kd.pair (Kd.int .i64) (Kd.pair (Kd.int .i64) (Kd.pair (Kd.int .i64) (Kd.pair (Kd.int .i64) (Kd.pair (Kd.int .i64) (Kd.int .i64))))))))))) W ⟨x0_0, x0_1, x0_2, x0_3, ⟨x0_4_0, x0_4_1, x0_4_2, x0_4_3, x0_4_4, x0_4_5, x0_4_6⟩⟩ cs0.toList := K0
  generalize hcs0 : cs0.toList = l0 at K0
  obtain ⟨_, _, rfl, rfl, ⟨_, _, rfl, rfl, ⟨_, _, rfl, rfl, ⟨_, _, rfl, rfl, ⟨_, _, rfl, rfl, ⟨_, _, rfl, rfl, ⟨_, _, rfl, rfl, ⟨_, _, rfl, rfl, ⟨_, _, rfl, rfl, ⟨_, _, rfl, rfl, rfl⟩⟩⟩⟩⟩⟩⟩⟩⟩⟩ := K0
  obtain rfl : cs0 = #[.int .i64 x0_0, .int .i64 x0_1, .int .i64 x0_2, .int .i64 x0_3, .int .i64 x0_4_0, .int .i64 x0_4_1, .int .i64 x0_4_2, .int .i64 x0_4_3, .int .i64 x0_4_4, .int .i64 x0_4_5, .int .i64 x0_4_6] := by apply Array.toList_inj.1; exact hcs0
  clear hcs0
  clear hA0 hval0 hsz0
  obtain ⟨k, hpure⟩ := Pure.FnExactMsgOk x0_0 x0_1 x0_2 x0_3 x0_4_0 x0_4_1 x0_4_2 x0_4_3 x0_4_4 x0_4_5 x0_4_6 ok0
  refine (X.laws_FnExactMsgOk.calls k x0_0 x0_1 x0_2 x0_3 x0_4_0 x0_4_1 x0_4_2 x0_4_3 x0_4_4 x0_4_5 x0_4_6 true W  hpure).mono fun e W' ⟨he, bel0⟩ => ?_
  have bel : Below W.heap.size W W' := by first | exact bel0 | exact bel0.below
  subst he
  exact ⟨_, rfl, _, _, _, [], _, [], hW', trodAll_mk1 (shut_bool Try.underlying4 _), (trodAll_cons_mk (Below.trod laidOut (by kernel_rfl) (of_decide_eq_true (by kernel_rfl)) k0 bel lt0) trodAll_mk0), rfl, bel.frame _, fun h => by cases h⟩
theorem over : Rows.fnExactMsgOkRow.holds Try.pinned (OpenSpec.ofChange Rows.fnExactMsgOkSpec) :=
  OpenClaim.holds_of_wide 6 Try.f6 rfl rfl rfl rfl rfl rfl rfl ⟨rfl, rfl, rfl, rfl, rfl⟩ rfl rfl rfl rfl rfl (by kernel_rfl) Try.func6 (by kernel_rfl)
    (of_decide_eq_true (by kernel_rfl)) (by unfold Func.isWrapper; first | (rw [if_pos (by decide +kernel)]; kernel_rfl) | (rw [if_neg (by decide +kernel)]; exact ⟨rfl, rfl⟩))
    (fun os started H enc _ => lifted os started H enc)
theorem proved : Rows.FnExactMsgOkSaid := over
#print axioms proved
end Go.Proofs.Ytfebloibnhejnaa.fnExactMsgOk
namespace Go.Proofs.Ytfebloibnhejnaa
/-- The row, under a short name, for the claim. -/
theorem fnExactMsgOk_holds : Rows.FnExactMsgOkSaid := fnExactMsgOk.proved
end Go.Proofs.Ytfebloibnhejnaa
