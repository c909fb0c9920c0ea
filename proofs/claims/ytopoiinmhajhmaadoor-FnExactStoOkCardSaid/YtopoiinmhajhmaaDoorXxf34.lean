-- Written by wip/xprint.py (this repo's program) over the kit's print; functions named in wip/hand are proved by hand.
import Derived.Test.YtopoiinmhajhmaaDoorXx0
import Derived.Test.YtopoiinmhajhmaaDoorWKept
import Derived.Test.YtopoiinmhajhmaaDoorXxpl1
import Derived.Test.YtopoiinmhajhmaaDoorXxpsto
import Derived.Test.YtopoiinmhajhmaaDoorXxf63
import Derived.Test.YtopoiinmhajhmaaDoorXxf64
namespace Go.Proofs.YtopoiinmhajhmaaDoor.X
open Go.RowKit Go.Proofs.YtopoiinmhajhmaaDoor.H Go.Proofs.YtopoiinmhajhmaaDoorW.PrintWords Go.Proofs.YtopoiinmhajhmaaDoorW.PrintLast Go.Proofs.YtopoiinmhajhmaaDoorW.PrintMore
attribute [local go_sem] max2_int min2_int max_two min_two max_three min_three max_four min_four   -- for this text's walks alone
set_option linter.unusedVariables false
set_option linter.unusedSimpArgs false

/-! ### spec_StoOk: function 34 -/
def spec_StoOk.f (l0_0 : List Item) : Option Bool := some (stoOk l0_0)
set_option maxHeartbeats 2000000 in
set_option maxRecDepth 100000 in
theorem spec_StoOk.calls (A0_0 : Option Addr) (c0_0 : Nat) (l0_0 : List Item) (r : Bool) (w : World) (hr0_0 : Kd.C kItem w A0_0 l0_0.length l0_0) (hc0_0 : l0_0.length ≤ c0_0) (h : spec_StoOk.f l0_0 = some r) :
    Calls Tryd.prog 34 #[.agg #[.slice A0_0 l0_0.length c0_0]] w fun e w' => e = .returned (.bool r) ∧ Below w.heap.size w w' := by
  obtain rfl := Option.some.inj h
  clear h
  have HR := Aside0.mk hr0_0
  have HM := Aside0.mk hr0_0.2.1
  have HC := Aside0.mk hc0_0
  clear hr0_0 hc0_0
  by_cases h40 : l0_0.length ≤ 40
  · have h40z : ¬ (40 : Int) < (l0_0.length : Int) := by omega
    go_enter Tryd.func34, Tryd.ntmps34
    go_wp2
    go_loopg [3] l0_0.length (fun gg v3 wr => ∃ kk : Nat, v3 = .int .i64 kk ∧ Aside0 (kk ≤ l0_0.length ∧ l0_0.length - kk ≤ gg) ∧ Aside0 (∀ j, j < kk → okAt l0_0 j = true) ∧ Aside0 (Below w.heap.size w wr) ∧ wr.cell? ⟨w.heap.size, 0, none⟩ = some (.slice A0_0 l0_0.length c0_0) ∧ w.heap.size < wr.heap.size)
    case atStart => exact ⟨0, rfl, ⟨Nat.zero_le _, by omega⟩, ⟨fun j hj => absurd hj (Nat.not_lt_zero _)⟩, ⟨below_alloc (Below.refl _ _) _⟩, (blk_cell (blk_new w _) 0).trans rfl, by simp⟩
    case round =>
      obtain ⟨kk, rfl, HK, HA, HB, hbox, hsz⟩ := hrel
      by_cases hlt : kk < l0_0.length
      · have hltz : (kk : Int) < (l0_0.length : Int) := by omega
        obtain ⟨ad, A1, c1, rfl, hx0, hx1, hx2, hx3⟩ := at_T88 HR.out kk (by omega) hltz
        have HX2 := Aside0.mk hx2
        have HX3 := Aside0.mk hx3
        have q0 := pw_cell_below HB.out hx0
        have q1 := pw_cell_below HB.out hx1
        rw [Int.toNat_natCast] at q0 q1
        generalize hxe : rd_T88 l0_0 (kk : Int) = x at q0 q1 HX2 HX3
        have HXE := Aside0.mk hxe
        clear hx0 hx1 hx2 hx3 hxe
        replace q0 := Later.cell q0
        replace q1 := Later.cell q1
        have q2 := Later.cell hbox
        cases hk : keyOk x.f0 with
        | false =>
          have HK0 := Aside0.mk (show spec_l1Key.f (l0_0.length + 6) x.f0 = some false by rw [l1Key_f _ _ (by omega), hk])
          have HBAD := Aside0.mk (stoOk_bad hlt (show okAt l0_0 kk = false by unfold okAt itemOk1 rdI; rw [HXE.out, hk]; rfl))
          clear hk
          go_wp2_with fail
          refine still_lit (by kernel_rfl) (by kernel_rfl) ?_
          repeat (first
            | go_big_quiet_skip
            | (go_big_quiet_want; go_big_quiet_op; first
              | go_big_quiet_on
              | (apply Exists.intro; refine ⟨fun x_ => ?_, ?_⟩; (first | (go_at_call 63; exact still_quiet x_ (spec_l1Key.calls (l0_0.length + 6) x.f0 false x_.w HK0.out))); go_big_quiet_on)))
          refine wpQuiet_nil ?_
          rintro _ ⟨⟨w2, hw2⟩, rfl⟩
          go_wp2
          go_ret
          exact ⟨by rw [HBAD.out]; rfl, below_step HB.out hw2⟩
        | true =>
        have HK0 := Aside0.mk (show spec_l1Key.f (l0_0.length + 6) x.f0 = some true by rw [l1Key_f _ _ (by omega), hk])
        have hvl : x.f1.length ≤ 9223372036854775807 := HX3.out.2.1
        cases hv : valOk x.f1 with
        | false =>
          have HV0 := Aside0.mk (show spec_l1Val.f (x.f1.length + 1) x.f1 = some false by rw [l1Val_f _ hvl _ (by omega), hv])
          have HBAD := Aside0.mk (stoOk_bad hlt (show okAt l0_0 kk = false by unfold okAt itemOk1 rdI; rw [HXE.out, hk, hv]; rfl))
          clear hk hv
          go_wp2_with fail
          refine still_lit (by kernel_rfl) (by kernel_rfl) ?_
          repeat (first
            | go_big_quiet_skip
            | (go_big_quiet_want; go_big_quiet_op; first
              | go_big_quiet_on
              | (apply Exists.intro; refine ⟨fun x_ => ?_, ?_⟩; (first | (go_at_call 63; exact still_quiet x_ (spec_l1Key.calls (l0_0.length + 6) x.f0 true x_.w HK0.out)) | (go_at_call 64; exact still_quiet x_ (spec_l1Val.calls (x.f1.length + 1) A1 c1 x.f1 false x_.w (Kd.C_below HX3.out (below_step HB.out x_.below)) HX2.out HV0.out))); go_big_quiet_on)))
          refine wpQuiet_nil ?_
          rintro _ ⟨⟨w2, hw2⟩, rfl⟩
          go_wp2
          go_ret
          exact ⟨by rw [HBAD.out]; rfl, below_step HB.out hw2⟩
        | true =>
        have HV0 := Aside0.mk (show spec_l1Val.f (x.f1.length + 1) x.f1 = some true by rw [l1Val_f _ hvl _ (by omega), hv])
        clear hvl
        by_cases hk0 : kk = 0
        · subst hk0
          simp only [Nat.zero_mul, Addr.add_zero'] at q0 q1
          have HGOOD := Aside0.mk (show okAt l0_0 0 = true by unfold okAt itemOk1 rdI; rw [HXE.out, hk, hv]; rfl)
          clear hk hv
          go_wp2_with fail
          refine still_lit (by kernel_rfl) (by kernel_rfl) ?_
          repeat (first
            | go_big_quiet_skip
            | (go_big_quiet_want; go_big_quiet_op; first
              | go_big_quiet_on
              | (apply Exists.intro; refine ⟨fun x_ => ?_, ?_⟩; (first | (go_at_call 63; exact still_quiet x_ (spec_l1Key.calls (l0_0.length + 6) x.f0 true x_.w HK0.out)) | (go_at_call 64; exact still_quiet x_ (spec_l1Val.calls (x.f1.length + 1) A1 c1 x.f1 true x_.w (Kd.C_below HX3.out (below_step HB.out x_.below)) HX2.out HV0.out))); go_big_quiet_on)))
          refine wpQuiet_nil ?_
          rintro _ ⟨⟨w2, hw2⟩, rfl⟩
          go_wp2
          go_roundg (l0_0.length - (0 + 1))
          case measure => have := HK.out; omega
          case rel => exact ⟨0 + 1, by go_num, ⟨by omega, by omega⟩, ⟨fun j hj => by
            by_cases e : j = 0
            · subst e; exact HGOOD.out
            · exact HA.out j (by omega)⟩, ⟨below_step HB.out hw2⟩, pw_cell_below hw2 hbox, by have := hw2.size; omega⟩
        · have hd0 : decide (0 < kk) = true := decide_eq_true (by omega)
          obtain ⟨ad', A2, c2, e2, hy0, hy1, _, _⟩ := at_T88 HR.out ((kk : Int) - 1) (by omega) (by omega)
          cases e2
          have p0 := pw_cell_below HB.out hy0
          rw [show ((kk : Int) - 1).toNat = kk - 1 from by omega] at p0
          generalize hye : rd_T88 l0_0 ((kk : Int) - 1) = y at p0
          have HYE := Aside0.mk hye
          have hi0 : (0 : Int) ≤ (kk : Int) - 1 := by omega
          have hi1 : (kk : Int) - 1 < (l0_0.length : Int) := by omega
          have q3 := Later.cell p0
          clear hy0 hy1 hye p0
          cases hl : lessB y.f0 x.f0 with
          | false =>
            have HBAD := Aside0.mk (stoOk_bad hlt (show okAt l0_0 kk = false by unfold okAt itemOk1 rdI; rw [HXE.out, HYE.out, hk, hv, hl]; simp [hk0]))
            have hrun : Op.bytesLess y.f0.toList x.f0.toList = false := hl
            clear hk hv hk0 hl
            go_wp2_with fail
            refine still_lit (by kernel_rfl) (by kernel_rfl) ?_
            repeat (first
              | go_big_quiet_skip
              | (go_big_quiet_want; go_big_quiet_op; first
                | go_big_quiet_on
                | (apply Exists.intro; refine ⟨fun x_ => ?_, ?_⟩; (first | (go_at_call 63; exact still_quiet x_ (spec_l1Key.calls (l0_0.length + 6) x.f0 true x_.w HK0.out)) | (go_at_call 64; exact still_quiet x_ (spec_l1Val.calls (x.f1.length + 1) A1 c1 x.f1 true x_.w (Kd.C_below HX3.out (below_step HB.out x_.below)) HX2.out HV0.out))); go_big_quiet_on)))
            refine wpQuiet_nil ?_
            rintro _ ⟨⟨w2, hw2⟩, rfl⟩
            go_wp2
            go_ret
            exact ⟨by rw [HBAD.out]; rfl, below_step HB.out hw2⟩
          | true =>
            have hrun : Op.bytesLess y.f0.toList x.f0.toList = true := hl
            have HGOOD := Aside0.mk (show okAt l0_0 kk = true by unfold okAt itemOk1 rdI; rw [HXE.out, HYE.out, hk, hv, hl]; simp)
            clear hk hv hk0 hl
            go_wp2_with fail
            refine still_lit (by kernel_rfl) (by kernel_rfl) ?_
            repeat (first
              | go_big_quiet_skip
              | (go_big_quiet_want; go_big_quiet_op; first
                | go_big_quiet_on
                | (apply Exists.intro; refine ⟨fun x_ => ?_, ?_⟩; (first | (go_at_call 63; exact still_quiet x_ (spec_l1Key.calls (l0_0.length + 6) x.f0 true x_.w HK0.out)) | (go_at_call 64; exact still_quiet x_ (spec_l1Val.calls (x.f1.length + 1) A1 c1 x.f1 true x_.w (Kd.C_below HX3.out (below_step HB.out x_.below)) HX2.out HV0.out))); go_big_quiet_on)))
            refine wpQuiet_nil ?_
            rintro _ ⟨⟨w2, hw2⟩, rfl⟩
            go_wp2
            go_roundg (l0_0.length - (kk + 1))
            case measure => have := HK.out; omega
            case rel => exact ⟨kk + 1, by go_num, ⟨by omega, by omega⟩, ⟨fun j hj => by
              by_cases e : j = kk
              · subst e; exact HGOOD.out
              · exact HA.out j (by omega)⟩, ⟨below_step HB.out hw2⟩, pw_cell_below hw2 hbox, by have := hw2.size; omega⟩
      · have hltz : ¬ (kk : Int) < (l0_0.length : Int) := by omega
        have HV := Aside0.mk ((stoOk_good (fun j hj => HA.out j (by omega))).trans (decide_eq_true h40))
        go_wp2
        go_ret
        exact ⟨by rw [HV.out]; rfl, HB.out⟩
  · have h40z : (40 : Int) < (l0_0.length : Int) := by omega
    have HV := Aside0.mk (show stoOk l0_0 = false by unfold stoOk; rw [decide_eq_false h40]; simp)
    go_enter Tryd.func34, Tryd.ntmps34
    go_wp2
    go_ret
    exact ⟨by rw [HV.out]; rfl, below_alloc (Below.refl _ _) _⟩

end Go.Proofs.YtopoiinmhajhmaaDoor.X
