-- Written by wip/xprint.py (this repo's program) over the kit's print; functions named in wip/hand are proved by hand.
import Derived.Test.YtopoiinmhajhmaaDoorXx0
import Derived.Test.YtopoiinmhajhmaaDoorWKept
import Derived.Test.YtopoiinmhajhmaaDoorXxpsto
import Derived.Test.YtopoiinmhajhmaaDoorXxf66
import Derived.Test.YtopoiinmhajhmaaDoorXxf67
namespace Go.Proofs.YtopoiinmhajhmaaDoor.X
open Go.RowKit Go.Proofs.YtopoiinmhajhmaaDoor.H Go.Proofs.YtopoiinmhajhmaaDoorW.PrintWords Go.Proofs.YtopoiinmhajhmaaDoorW.PrintLast Go.Proofs.YtopoiinmhajhmaaDoorW.PrintMore
attribute [local go_sem] max2_int min2_int max_two min_two max_three min_three max_four min_four   -- for this text's walks alone
set_option linter.unusedVariables false
set_option linter.unusedSimpArgs false

/-! ### impl_StoOk: function 36 -/
def impl_StoOk.f (l0_0 : List Item) : Option Bool := some (stoOk l0_0)
set_option maxHeartbeats 2000000 in
set_option maxRecDepth 100000 in
theorem impl_StoOk.calls (A0_0 : Option Addr) (c0_0 : Nat) (l0_0 : List Item) (r : Bool) (w : World) (hr0_0 : Kd.C kItem w A0_0 l0_0.length l0_0) (hc0_0 : l0_0.length ≤ c0_0) (h : impl_StoOk.f l0_0 = some r) :
    Calls Tryd.prog 36 #[.agg #[.slice A0_0 l0_0.length c0_0]] w fun e w' => e = .returned (.bool r) ∧ Below w.heap.size w w' := by
  obtain rfl := Option.some.inj h
  clear h
  have HR := Aside0.mk hr0_0
  have HM := Aside0.mk hr0_0.2.1
  have HC := Aside0.mk hc0_0
  clear hr0_0 hc0_0
  go_enter Tryd.func36, Tryd.ntmps36
  go_wp2
  go_loopg [8] l0_0.length (fun gg v8 wr => ∃ kk : Nat, v8 = .int .i64 kk ∧ Aside0 (kk ≤ l0_0.length ∧ l0_0.length - kk ≤ gg) ∧ Aside0 (∀ j, j < kk → okAt l0_0 j = true) ∧ Aside0 (Below w.heap.size w wr) ∧ wr.cell? ⟨w.heap.size, 0, none⟩ = some (.slice A0_0 l0_0.length c0_0) ∧ w.heap.size < wr.heap.size)
  case atStart => exact ⟨0, rfl, ⟨Nat.zero_le _, by omega⟩, ⟨fun j hj => absurd hj (Nat.not_lt_zero _)⟩, ⟨below_alloc (Below.refl _ _) _⟩, (blk_cell (blk_new w _) 0).trans rfl, by simp⟩
  case round =>
    obtain ⟨kk, rfl, HK, HA, HB, hbox, hsz⟩ := hrel
    by_cases hlt : kk < l0_0.length
    · have hltz : (kk : Int) < (l0_0.length : Int) := by omega
      have hb9 : (kk : Int) + 1 ≤ 9223372036854775807 := by have := HM.out; omega
      obtain ⟨ad, A1, c1, rfl, hx0, hx1, hx2, hx3⟩ := at_T88 HR.out kk (by omega) hltz
      have HX2 := Aside0.mk hx2
      have HX3 := Aside0.mk hx3
      have q0 := pw_cell_below HB.out hx0
      have q1 := pw_cell_below HB.out hx1
      rw [Int.toNat_natCast] at q0 q1
      generalize hxe : rd_T88 l0_0 (kk : Int) = x at *
      have HXE := Aside0.mk hxe
      clear hx0 hx1 hx2 hx3 hxe
      go_wp2_with fail
      have b0 := pw_cell_below (below_alloc (Below.refl wr.heap.size wr) (.cells #[.string x.f0, .slice A1 x.f1.length c1] 88)) hbox
      have n0 : (wr.alloc (.cells #[.string x.f0, .slice A1 x.f1.length c1] 88)).cell? ⟨wr.heap.size, 0, none⟩ = some (.string x.f0) := (blk_cell (blk_new wr _) 0).trans rfl
      have n1 : (wr.alloc (.cells #[.string x.f0, .slice A1 x.f1.length c1] 88)).cell? ⟨wr.heap.size, 1, none⟩ = some (.slice A1 x.f1.length c1) := (blk_cell (blk_new wr _) 1).trans rfl
      have hbw := Aside0.mk (below_alloc HB.out (.cells #[.string x.f0, .slice A1 x.f1.length c1] 88))
      have hsz0 : w.heap.size < (wr.alloc (.cells #[.string x.f0, .slice A1 x.f1.length c1] 88)).heap.size := by have := (below_alloc (Below.refl wr.heap.size wr) (.cells #[.string x.f0, .slice A1 x.f1.length c1] 88)).size; omega
      generalize (wr.alloc (.cells #[.string x.f0, .slice A1 x.f1.length c1] 88)) = W0 at b0 n0 n1 hbw hsz0 ⊢
      generalize wr.heap.size = nb at n0 n1 ⊢
      clear q0 q1 hbox hsz
      have q0 := Later.cell n0
      have q1 := Later.cell n1
      have q2 := Later.cell b0
      cases hk : keyOk x.f0 with
      | false =>
        have HK0 := Aside0.mk (show impl_keyOk.f x.f0 = some false by rw [impl_keyOk.f, hk])
        have HBAD := Aside0.mk (stoOk_bad hlt (show okAt l0_0 kk = false by unfold okAt itemOk1 rdI; rw [HXE.out, hk]; rfl))
        clear hk
        refine still_lit (by kernel_rfl) (by kernel_rfl) ?_
        repeat (first
          | go_big_quiet_skip
          | (go_big_quiet_want; go_big_quiet_op; first
            | go_big_quiet_on
            | (apply Exists.intro; refine ⟨fun x_ => ?_, ?_⟩; (first | (go_at_call 66; exact still_call x_ (impl_keyOk.calls x.f0 false x_.w HK0.out))); go_big_quiet_on)))
        refine wpQuiet_nil ?_
        rintro _ ⟨⟨w2, hw2⟩, rfl⟩
        go_wp2
        go_ret
        exact ⟨by rw [HBAD.out]; rfl, below_step hbw.out hw2⟩
      | true =>
      have HK0 := Aside0.mk (show impl_keyOk.f x.f0 = some true by rw [impl_keyOk.f, hk])
      cases hv : valOk x.f1 with
      | false =>
        have HV0 := Aside0.mk (show impl_valOk.f x.f1 = some false by rw [impl_valOk.f, hv])
        have HBAD := Aside0.mk (stoOk_bad hlt (show okAt l0_0 kk = false by unfold okAt itemOk1 rdI; rw [HXE.out, hk, hv]; rfl))
        clear hk hv
        refine still_lit (by kernel_rfl) (by kernel_rfl) ?_
        repeat (first
          | go_big_quiet_skip
          | (go_big_quiet_want; go_big_quiet_op; first
            | go_big_quiet_on
            | (apply Exists.intro; refine ⟨fun x_ => ?_, ?_⟩; (first | (go_at_call 66; exact still_call x_ (impl_keyOk.calls x.f0 true x_.w HK0.out)) | (go_at_call 67; exact still_call x_ (impl_valOk.calls A1 c1 x.f1 false x_.w (Kd.C_below HX3.out (below_step hbw.out x_.below)) HX2.out HV0.out))); go_big_quiet_on)))
        refine wpQuiet_nil ?_
        rintro _ ⟨⟨w2, hw2⟩, rfl⟩
        go_wp2
        go_ret
        exact ⟨by rw [HBAD.out]; rfl, below_step hbw.out hw2⟩
      | true =>
      have HV0 := Aside0.mk (show impl_valOk.f x.f1 = some true by rw [impl_valOk.f, hv])
      by_cases hk0 : kk = 0
      · subst hk0
        have HGOOD := Aside0.mk (show okAt l0_0 0 = true by unfold okAt itemOk1 rdI; rw [HXE.out, hk, hv]; rfl)
        clear hk hv
        refine still_lit (by kernel_rfl) (by kernel_rfl) ?_
        repeat (first
          | go_big_quiet_skip
          | (go_big_quiet_want; go_big_quiet_op; first
            | go_big_quiet_on
            | (apply Exists.intro; refine ⟨fun x_ => ?_, ?_⟩; (first | (go_at_call 66; exact still_call x_ (impl_keyOk.calls x.f0 true x_.w HK0.out)) | (go_at_call 67; exact still_call x_ (impl_valOk.calls A1 c1 x.f1 true x_.w (Kd.C_below HX3.out (below_step hbw.out x_.below)) HX2.out HV0.out))); go_big_quiet_on)))
        refine wpQuiet_nil ?_
        rintro _ ⟨⟨w2, hw2⟩, rfl⟩
        go_wp2
        go_roundg (l0_0.length - (0 + 1))
        case measure => have := HK.out; omega
        case rel => exact ⟨0 + 1, by go_num, ⟨by omega, by omega⟩, ⟨fun j hj => by
          by_cases e : j = 0
          · subst e; exact HGOOD.out
          · exact HA.out j (by omega)⟩, ⟨below_step hbw.out hw2⟩, pw_cell_below hw2 b0, by have := hw2.size; omega⟩
      · have hd0 : decide (0 < kk) = true := decide_eq_true (by omega)
        obtain ⟨ad', A2, c2, e2, hy0, hy1, _, _⟩ := at_T88 HR.out ((kk : Int) - 1) (by omega) (by omega)
        cases e2
        have p0 := pw_cell_below hbw.out hy0
        rw [show ((kk : Int) - 1).toNat = kk - 1 from by omega] at p0
        generalize hye : rd_T88 l0_0 ((kk : Int) - 1) = y at p0
        have HYE := Aside0.mk hye
        have hi0 : (0 : Int) ≤ (kk : Int) - 1 := by omega
        have hi1 : (kk : Int) - 1 < (l0_0.length : Int) := by omega
        have q3 := Later.cell p0
        clear hy0 hy1 hye p0
        cases hl : lessB y.f0 x.f0 with
        | false =>
          have HBAD := Aside0.mk (stoOk_bad hlt (show okAt l0_0 kk = false by unfold okAt itemOk1 rdI; rw [HXE.out, HYE.out, hk, hv, hl]; simp [hk0]))
          have hrun := leq_of x.f0 y.f0 true hl
          clear hk hv hk0 hl
          refine still_lit (by kernel_rfl) (by kernel_rfl) ?_
          repeat (first
            | go_big_quiet_skip
            | (go_big_quiet_want; go_big_quiet_op; first
              | go_big_quiet_on
              | (apply Exists.intro; refine ⟨fun x_ => ?_, ?_⟩; (first | (go_at_call 66; exact still_call x_ (impl_keyOk.calls x.f0 true x_.w HK0.out)) | (go_at_call 67; exact still_call x_ (impl_valOk.calls A1 c1 x.f1 true x_.w (Kd.C_below HX3.out (below_step hbw.out x_.below)) HX2.out HV0.out))); go_big_quiet_on)))
          refine wpQuiet_nil ?_
          rintro _ ⟨⟨w2, hw2⟩, rfl⟩
          go_wp2
          go_ret
          exact ⟨by rw [HBAD.out]; rfl, below_step hbw.out hw2⟩
        | true =>
          have hrun := leq_of x.f0 y.f0 false hl
          have HGOOD := Aside0.mk (show okAt l0_0 kk = true by unfold okAt itemOk1 rdI; rw [HXE.out, HYE.out, hk, hv, hl]; simp)
          clear hk hv hk0 hl
          refine still_lit (by kernel_rfl) (by kernel_rfl) ?_
          repeat (first
            | go_big_quiet_skip
            | (go_big_quiet_want; go_big_quiet_op; first
              | go_big_quiet_on
              | (apply Exists.intro; refine ⟨fun x_ => ?_, ?_⟩; (first | (go_at_call 66; exact still_call x_ (impl_keyOk.calls x.f0 true x_.w HK0.out)) | (go_at_call 67; exact still_call x_ (impl_valOk.calls A1 c1 x.f1 true x_.w (Kd.C_below HX3.out (below_step hbw.out x_.below)) HX2.out HV0.out))); go_big_quiet_on)))
          refine wpQuiet_nil ?_
          rintro _ ⟨⟨w2, hw2⟩, rfl⟩
          go_wp2
          go_roundg (l0_0.length - (kk + 1))
          case measure => have := HK.out; omega
          case rel => exact ⟨kk + 1, by go_num, ⟨by omega, by omega⟩, ⟨fun j hj => by
            by_cases e : j = kk
            · subst e; exact HGOOD.out
            · exact HA.out j (by omega)⟩, ⟨below_step hbw.out hw2⟩, pw_cell_below hw2 b0, by have := hw2.size; omega⟩
    · have hltz : ¬ (kk : Int) < (l0_0.length : Int) := by omega
      have HV := Aside0.mk (stoOk_good (fun j hj => HA.out j (by omega)))
      go_wp2
      go_ret
      exact ⟨by rw [HV.out]; exact congrArg (fun b => Ending.returned (.bool b)) (decide_eq_decide.2 (by omega)), HB.out⟩

end Go.Proofs.YtopoiinmhajhmaaDoor.X
