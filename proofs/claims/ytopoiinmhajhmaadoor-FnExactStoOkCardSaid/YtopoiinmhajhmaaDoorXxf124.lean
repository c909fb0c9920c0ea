-- Written by wip/xprint.py (this repo's program) over the kit's print; functions named in wip/hand are proved by hand.
import Derived.Test.YtopoiinmhajhmaaDoorXx0
import Derived.Test.YtopoiinmhajhmaaDoorWShare
import Derived.Test.YtopoiinmhajhmaaDoorWKept
namespace Go.Proofs.YtopoiinmhajhmaaDoor.X
open Go.RowKit Go.Proofs.YtopoiinmhajhmaaDoor.H Go.Proofs.YtopoiinmhajhmaaDoorW.PrintWords Go.Proofs.YtopoiinmhajhmaaDoorW.PrintLast Go.Proofs.YtopoiinmhajhmaaDoorW.PrintMore
attribute [local go_sem] max2_int min2_int max_two min_two max_three min_three max_four min_four   -- for this text's walks alone
set_option linter.unusedVariables false
set_option linter.unusedSimpArgs false

/-! ### slices_IndexFunc_int_int: function 124 -/
set_option maxHeartbeats 1000000 in
theorem IndexFunc_int.calls (g : Nat) (lb : Array Value) (p : Int → Bool) (A0 : Option Addr) (c0 : Nat) (l0 : List Int) (w : World)
    (eg : ∀ args w, (callFunc g args).run Tryd.prog w = .ok (.enter g args) w)
    (hp : ∀ W x, x ∈ l0 → Below w.heap.size w W → Calls Tryd.prog g (#[.int .i64 x] ++ lb) W fun e w' => e = .returned (.bool (p x)) ∧ Below w.heap.size w w')
    (hr0 : Kd.C (Kd.int .i64) w A0 l0.length l0) (hc0 : l0.length ≤ c0) :
    Calls Tryd.prog 124 #[.slice A0 l0.length c0, .func (.func g) #[] lb] w fun e w' => e = .returned (.int .i64 (idxF p l0)) ∧ Below w.heap.size w w' := by
  have HR0 := Aside0.mk hr0
  have HC0 := Aside0.mk hc0
  have HP := Aside0.mk hp
  have HM := Aside0.mk hr0.2.1
  clear hr0 hc0 hp
  go_enter Tryd.func124, Tryd.ntmps124
  go_wp2
  go_loopg [8] l0.length (fun gg v8 wr => ∃ kk : Nat, v8 = .int .i64 kk ∧ Aside0 (kk ≤ l0.length ∧ l0.length - kk ≤ gg) ∧ Aside0 (∀ j, j < kk → p (rd l0 j) = false) ∧ Aside0 (Below w.heap.size w wr))
  case atStart => exact ⟨0, rfl, ⟨Nat.zero_le _, by omega⟩, ⟨fun j hj => absurd hj (Nat.not_lt_zero _)⟩, ⟨Below.refl _ _⟩⟩
  case round =>
    obtain ⟨kk, rfl, HK, HA, HB⟩ := hrel
    by_cases hlt : kk < l0.length
    · have hltz : (kk : Int) < (l0.length : Int) := by omega
      obtain ⟨ad, e0, hx⟩ := Kd.at_int HR0.out kk (by omega) hltz
      cases e0
      have hxw : wr.cell? (ad.add kk) = some (.int .i64 (rd l0 kk)) := pw_cell_below HB.out (by simpa using hx)
      have hcall := HP.out wr (rd l0 kk) (by unfold rd; simp [hlt]) HB.out
      clear hx
      have hb9 : (kk : Int) + 1 ≤ 9223372036854775807 := by have := HM.out; omega
      generalize hy : rd l0 kk = y at hxw hcall
      have HY := Aside0.mk hy
      clear hy
      cases hq : p y with
      | true =>
        rw [hq] at hcall
        go_wp2_with (go_at_fn g; refine hcall.mono ?_; rintro e w' ⟨rfl, hb'⟩)
        go_ret
        exact ⟨by rw [idxF_hit p l0 kk hlt HA.out (by rw [HY.out]; exact hq)]; rfl, hb'⟩
      | false =>
        rw [hq] at hcall
        go_wp2_with (go_at_fn g; refine hcall.mono ?_; rintro e w' ⟨rfl, hb'⟩)
        go_roundg (l0.length - (kk + 1))
        case measure => have := HK.out; omega
        case rel =>
          refine ⟨kk + 1, by go_num, ⟨by omega, by omega⟩, ⟨fun j hj => ?_⟩, ⟨hb'⟩⟩
          by_cases e : j = kk
          · subst e; rw [HY.out]; exact hq
          · exact HA.out j (by omega)
    · have hltz : ¬ (kk : Int) < (l0.length : Int) := by omega
      go_wp2
      go_ret
      exact ⟨by rw [idxF_miss p l0 (fun j hj => HA.out j (by omega))]; rfl, HB.out⟩

end Go.Proofs.YtopoiinmhajhmaaDoor.X
